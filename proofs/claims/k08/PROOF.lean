import PyProof.Rows.All
import Wide.All
import OpenK.AllK
import Wide.FinOn
import PyProof.EqAt
import PyProof.EqKinds
import PyProof.TupleCall
import KE.KNest
import HandS.ForMost
import HandS.AnyAll
import HandS.GenOver
import HandS.GenList
import HandS.ForExc
import HandS.Lambda
import HandS.Deep
import KE.DataEq
import KE.DataCmp
import KE.DataMinMax
import KE.DatumMoreOrd
import KE.SortData
import HandS.TupAny
import HandS.Style
import HandS.ExcOwn
import HandS.WordsExc
import HandS.Rev
import HandS.RevTup
import PyProof.ListNew
import PyProof.StrOps2
import HandS.TryMany
import HandS.EndOwn
import HandS.EndTab
import KE.KNestM
import HandS.Text
import PyProof.StrLaws
import PySem.Challenge.RW_museum_k08_labels_in_lines
set_option Elab.async false
set_option linter.all false
set_option maxRecDepth 100000
set_option maxHeartbeats 2000000
/-! any, all, sum of a generator expression, its element anything that the layer reads. -/
namespace GxI
open PySem PySem.Spec PyProof.Rows L2

/-- the context of a generator expression's frame -/
abbrev gcx (X : Cx) (A : Around) (s : Shared) (H : Hp) (cenv : Env) (fp : List Addr) : Cx :=
  { X with A := A, s_0 := s, H_0 := H, env := cenv, outer := X.stack, stack := cenv :: X.stack, ex := fp, fn := fun _ => false, pn := [], xe := fun _ _ => False }

/-- the generator expression's own names -/
structure GxS (env : Env) (scope : Scope) : Prop where
  co : scope.isCoroutine = false
  nocell : ∀ y ∈ scope.names, y.2 ≠ .cell
  dot : scope.names.lookup (".0" : Str) = some NameKind.local

section
variable {X : Cx} {pins : List (Addr × Obj)} {σ : L2.St} {H : Hp} {s : Shared}

theorem clo_mem (I : Inv X pins σ H s) {scope : Scope} {own : List (Str × Nat)} (ok : BlkOk X.N X.env.scope scope own) {y : Str} {c : Addr} (hm : (cloFrom X.env.cells scope.names []).lookup y = some c) :
    X.env.cells.lookup y = some c ∧ c < s.heap.objs.size ∧ scope.names.lookup y = some .free := by
  rcases cloFrom_mem (PySem.mem_of_lookup hm) with hm | ⟨h1, rfl⟩
  · cases hm
  · have hc : ∃ c, X.env.cells.lookup y = some c := by
      rcases ok.free _ h1 rfl with k | k
      · exact I.ok.has _ (.inl k)
      · exact I.ok.has _ (.inr k)
    obtain ⟨c, hc⟩ := hc
    rw [hc]
    obtain ⟨w, z⟩ := I.cell _ _ hc
    exact ⟨rfl, z.lt, ok.uniq _ h1⟩

theorem gen_start {A : Around} {scope : Scope} {own : List (Str × Nat)} {fp : List Addr} {code : Value} {g' : Array GenState} {h' : Heap} {tk : Nat} {m : Str → Option Value}
    (I : Inv X pins σ H s) (ok : BlkOk X.N X.env.scope scope own) (gs : GxS X.env scope) (hN : X.N.Nodup) (hfp : ∀ b ∈ fp, FpOk X pins H b ∧ b < s.heap.objs.size)
    (hA : A.handled = none) (hAf : A.frames = some (genEnv scope (cloFrom X.env.cells scope.names []) s.heap.objs.size code builtinsNs X.env :: X.stack))
    (hns : h'.Ns s.heap.objs.size m) (kp : ∀ b o, s.heap.get? b = some o → h'.get? b = some o) (hg : AllBare g') :
    Inv (gcx X A s H (genEnv scope (cloFrom X.env.cells scope.names []) s.heap.objs.size code builtinsNs X.env) fp) [] (wipe σ (own.map (·.2))) H { s with heap := h', gens := g', toks := tk } := by
  generalize hce : genEnv scope (cloFrom X.env.cells scope.names []) s.heap.objs.size code builtinsNs X.env = ce at hAf ⊢
  have cL : ce.locals = s.heap.objs.size := by subst hce; rfl
  have cC : ce.cells = cloFrom X.env.cells scope.names [] := by subst hce; rfl
  have cS : ce.scope = scope := by subst hce; rfl
  have mem : ∀ {y c}, ce.cells.lookup y = some c → X.env.cells.lookup y = some c ∧ c < s.heap.objs.size ∧ scope.names.lookup y = some .free := fun {y c} e => by
    rw [cC] at e
    exact clo_mem I ok e
  have look : ∀ {y}, scope.names.lookup y = some .free → ∃ c, ce.cells.lookup y = some c ∧ X.env.cells.lookup y = some c := fun {y} hl => by
    obtain ⟨c', e'⟩ := mem_lookup (cloFrom_has (cells := X.env.cells) (acc := []) (PySem.mem_of_lookup hl))
    rw [← cC] at e'
    exact ⟨c', e', (mem e').1⟩
  have okB : (gcx X A s H ce fp).Ok := by
    refine ⟨I.ok.mod, by show ce.scope.kind = _; rw [cS]; exact ok.kind, by show ce.globals = _; rw [← hce]; exact I.ok.glob, by show ce.builtins = _; rw [← hce]; rfl, by show s.heap.objs.size ≤ ce.locals; rw [cL]; exact Nat.le_refl _,
      fun y z c e1 e2 => I.ok.inj y z c (mem e1).1 (mem e2).1, fun y hy => ?_, fun y c z e => ?_, fun _ => hA, hAf, .inr ⟨rfl, by show ce.frame = some ce.locals; rw [← hce]; rfl⟩, fun b hb => ⟨?_, fun y c e z => ?_⟩, I.bs, Nat.le_trans I.ok.bsz I.sz, fun b o e hb => ?_, fun b hb z => ?_, I.stack, I.stkFree⟩
    · show ∃ c, ce.cells.lookup y = some c
      have hy : ce.scope.names.lookup y = some .cell ∨ ce.scope.names.lookup y = some .free := hy
      rw [cS] at hy
      rcases hy with hy | hy
      · exact absurd rfl (gs.nocell _ (PySem.mem_of_lookup hy))
      · obtain ⟨c, h1, _⟩ := look hy
        exact ⟨c, h1⟩
    · cases z
    · show b ≠ ce.locals
      rw [cL]; exact Nat.ne_of_lt (hfp b hb).2
    · have e : ce.cells.lookup y = some c := e
      exact (hfp b hb).1.2.2.2.2.1 y c (mem e).1 z
    · rcases (hfp b hb).1.2.2.2.1 with z | z
      · exact I.ok.noex b o e z
      · exact absurd (Nat.lt_of_lt_of_le (Heap.lt_size e) (Nat.le_trans I.ok.bsz z)) (Nat.lt_irrefl _)
    · rcases List.mem_cons.mp (I.stkSub b z) with z | z
      · exact (hfp b hb).1.2.1 z
      · exact (hfp b hb).1.2.2.1 z
  refine ⟨okB, rfl, hg, Un.kept kp, ⟨m, ?_, fun i y av e1 e2 e3 => ?_⟩, fun y c e => ?_, ?_, fun y c e => ?_, fun p hp => absurd (show p ∈ ([] : List (Addr × Obj)) ++ [] from hp) (by simp), I.hok.kept kp, by rw [wipe_length]; exact I.len⟩
  · show Heap.Ns _ ce.locals _
    rw [cL]
    exact hns
  · obtain ⟨e2, hne⟩ := wipe_some e2
    have e3 : Vis ce.scope y := e3
    rw [cS] at e3
    have no : ¬ (scope.names.lookup y = some .local ∨ scope.names.lookup y = some .cell) := fun hh => by
      have hm : y ∈ own.map (·.1) ∨ y ∉ X.N := by
        rcases hh with hh | hh
        · exact ok.own _ (PySem.mem_of_lookup hh) (.inl rfl)
        · exact ok.own _ (PySem.mem_of_lookup hh) (.inr rfl)
      rcases hm with e' | e'
      · obtain ⟨p, hp, hpy⟩ := List.mem_map.mp e'
        have e3 := ok.ix p hp
        have : p.1 = y := hpy
        rw [this] at e3
        exact hne (List.mem_map.mpr ⟨p, hp, nodup_ix hN e3 e1⟩)
      · exact e' (List.mem_of_getElem? e1)
    have hfr : scope.names.lookup y = some .free := by
      rcases e3 with e3 | e3 | e3
      · exact absurd (.inl e3) no
      · exact absurd (.inr e3) no
      · exact e3
    obtain ⟨m, hn, hl⟩ := I.loc
    have hvis : Vis X.env.scope y := (ok.free _ (PySem.mem_of_lookup hfr) rfl).elim (fun k => .inr (.inl k)) (fun k => .inr (.inr k))
    obtain ⟨w, r, q⟩ := hl i y av e1 e2 hvis
    refine ⟨w, r, .inr ⟨.inr (by show ce.scope.names.lookup y = _; rw [cS]; exact hfr), ?_⟩⟩
    obtain ⟨c, h1, h2⟩ := look hfr
    rcases q with ⟨k, _⟩ | ⟨_, c', e', z⟩
    · have k : X.env.scope.names.lookup y = some .local := k
      rcases ok.free _ (PySem.mem_of_lookup hfr) rfl with k' | k' <;> rw [show X.env.scope.names.lookup y = _ from k'] at k <;> cases k
    · rw [h2] at e'; cases e'
      exact ⟨c, h1, z.keeps kp⟩
  · have e : ce.cells.lookup y = some c := e
    obtain ⟨w, z⟩ := I.cell y c (mem e).1
    exact ⟨w, z.keeps kp⟩
  · show H ce.locals = none
    rw [cL]; exact I.hok.fresh (Nat.le_refl _)
  · have e : ce.cells.lookup y = some c := e
    exact I.freeC y c (mem e).1
end

/-! ### the frame between two turns -/
/-- what the consumer may do while the generator sleeps; S: its own objects -/
structure Kp (S : List Addr) (s s' : Shared) : Prop where
  os : s'.os = s.os
  bare : AllBare s'.gens
  gsz : s.gens.size ≤ s'.gens.size
  keep : ∀ b o, b ∉ S → s.heap.get? b = some o → s'.heap.get? b = some o
  own : ∀ b ∈ S, ∀ o, s.heap.get? b = some o → ∃ o', s'.heap.get? b = some o' ∧ ∀ v, o'.data ≠ .cell v
theorem Kp.refl {S : List Addr} {s : Shared} (h : AllBare s.gens) (hS : ∀ b ∈ S, ∀ o, s.heap.get? b = some o → ∀ v, o.data ≠ .cell v) : Kp S s s := ⟨rfl, h, Nat.le_refl _, fun _ _ _ e => e, fun b hb o e => ⟨o, e, hS b hb o e⟩⟩

structure SApart (Xg : Cx) (S : List Addr) (a : Addr) (fp : List Addr) : Prop where
  size : ∀ b ∈ S, Xg.s_0.heap.objs.size ≤ b
  loc : ∀ b ∈ S, b ≠ Xg.env.locals
  cell : ∀ b ∈ S, ∀ x c, Xg.env.cells.lookup x = some c → c ≠ b
  gen : ∀ b ∈ S, b ≠ a
  fp : ∀ b ∈ S, b ∉ fp

def GSt (Xg : Cx) (S : List Addr) (a : Addr) (go : Obj) (fp : List Addr) (tn : Nat → Heap → Prop) (Gd : Nat → Hp → Prop) (σ : L2.St) (i : Nat) (s : Shared) : Prop :=
  ∃ H pl, pl.map (·.1) = S ∧ Inv Xg ((a, go) :: pl) σ H s ∧ tn i s.heap ∧ (∀ b ∈ fp, H b = none) ∧ Gd i H
def GEd (Xg : Cx) (S : List Addr) (a : Addr) (go : Obj) (Gd : Nat → Hp → Prop) (σ : L2.St) (n : Nat) (s : Shared) : Prop :=
  ∃ H pl, pl.map (·.1) = S ∧ Inv Xg ((a, go) :: pl) σ H s ∧ Gd n H

theorem inv_kp {Xg : Cx} {S : List Addr} {a : Addr} {go : Obj} {fp : List Addr} {pl : List (Addr × Obj)} {σ : L2.St} {H : Hp} {s s' : Shared} (hpn : Xg.pn = []) (ap : SApart Xg S a fp)
    (hpl : pl.map (·.1) = S) (I : Inv Xg ((a, go) :: pl) σ H s) (k : Kp S s s') : ∃ pl', pl'.map (·.1) = S ∧ Inv Xg ((a, go) :: pl') σ H s' := by
  have pin : ∀ p ∈ (a, go) :: pl, s.heap.get? p.1 = some p.2 ∧ H p.1 = none ∧ p.1 ≠ Xg.env.locals ∧ p.1 ∉ Xg.fs ∧ ∀ v, p.2.data ≠ .cell v := fun p hp => I.pin p (List.mem_append_right _ hp)
  have I0 : Inv Xg [(a, go)] σ H s := I.pins_of fun p hp => pin p (by rw [List.mem_singleton.mp hp]; exact List.mem_cons_self)
  have hS : ∀ b ∈ S, ∃ o, (b, o) ∈ pl := fun b hb => by
    rw [← hpl] at hb
    obtain ⟨p, hp, e⟩ := List.mem_map.mp hb
    exact ⟨p.2, by rw [← e]; exact hp⟩
  have nS : ∀ b ∈ S, H b = none := fun b hb => by
    obtain ⟨o, ho⟩ := hS b hb
    exact (pin _ (List.mem_cons_of_mem _ ho)).2.1
  have nt : ∀ b u, H b = some u → b ∉ S := fun b u q hb => by
    rw [nS b hb] at q
    cases q
  obtain ⟨z1, z2, _, z3, z4⟩ := k
  obtain ⟨hh, g, d, t, o⟩ := s'
  have ho : o = s.os := z1
  subst ho
  have J : Inv Xg [(a, go)] σ H { s with heap := hh, gens := g, drawn := d, toks := t } := by
    refine I0.step (g' := g) (t' := t) (d' := d) (ch := S) (fun b hb => ?_)
      (fun b ob _ _ hc q _ => z3 b ob hc q) (fun b ob _ _ hc q _ => ⟨ob.slots, z3 b ob hc q⟩) (fun _ _ _ _ n => n) (fun b ob hc q => ⟨ob, z3 b ob hc q⟩)
      (fun _ _ q => q) (fun _ _ _ q => q) (fun b ps q => ⟨#[], by rw [q]; simp⟩) (fun m hm => ?_) (fun b u q => ?_) z2
    · refine ⟨.inr (ap.size b hb), ap.loc b hb, fun x c e => ap.cell b hb x c e, fun p hp => ?_⟩
      rw [hpn] at hp
      have hp : p ∈ [(a, go)] := hp
      rw [List.mem_singleton.mp hp]
      exact fun e => ap.gen b hb e.symm
    · obtain ⟨ob, es, ep, ho, r⟩ := hm
      exact ⟨ob, es, ep, z3 _ ob (fun hb => ap.loc _ hb rfl) ho, r⟩
    · refine (I0.hok b u q).stay (fun c v hc y => z3 c v ?_ y) (fun _ y => y) fun _ _ y => y
      rcases hc with y | y
      · rw [y]; exact nt b u q
      · exact nt c _ y
  have ex : ∀ pl : List (Addr × Obj), (∀ p ∈ pl, p.1 ∈ S ∧ s.heap.get? p.1 = some p.2) → ∃ pl' : List (Addr × Obj), pl'.map (·.1) = pl.map (·.1) ∧ ∀ p ∈ pl', p.1 ∈ S ∧ hh.get? p.1 = some p.2 ∧ ∀ v, p.2.data ≠ .cell v := fun pl => by
    induction pl with
    | nil => exact fun _ => ⟨[], rfl, fun p hp => by cases hp⟩
    | cons p r ih =>
      intro h
      obtain ⟨r', e1, e2⟩ := ih fun q hq => h q (List.mem_cons_of_mem _ hq)
      obtain ⟨hp1, hp2⟩ := h p List.mem_cons_self
      obtain ⟨o', h1, h2⟩ := z4 p.1 hp1 p.2 hp2
      refine ⟨(p.1, o') :: r', by rw [List.map_cons, List.map_cons, e1], fun q hq => ?_⟩
      rcases List.mem_cons.mp hq with e | hq
      · rw [e]
        exact ⟨hp1, h1, h2⟩
      · exact e2 q hq
  obtain ⟨pl', e1, e2⟩ := ex pl fun p hp => ⟨by rw [← hpl]; exact List.mem_map.mpr ⟨p, hp, rfl⟩, (pin p (List.mem_cons_of_mem _ hp)).1⟩
  refine ⟨pl', e1.trans hpl, J.pins_of fun p hp => ?_⟩
  rcases List.mem_cons.mp hp with e | hp
  · rw [e]
    exact J.pin (a, go) (List.mem_append_right _ List.mem_cons_self)
  · obtain ⟨h1, h2, h3⟩ := e2 p hp
    obtain ⟨o, ho⟩ := hS _ h1
    obtain ⟨_, _, _, y, _⟩ := pin _ (List.mem_cons_of_mem _ ho)
    exact ⟨h2, nS _ h1, ap.loc _ h1, y, h3⟩

theorem GSt.kp {Xg : Cx} {S : List Addr} {a : Addr} {go : Obj} {fp : List Addr} {tn : Nat → Heap → Prop} {Gd : Nat → Hp → Prop} {σ : L2.St} {i : Nat} {s s' : Shared} {P : Program} {w : World} {K : PySem.W.Frag} {tg : Expr} {J : It} {it : Addr}
    (T : Turn P w K tg J fp it tn) (hpn : Xg.pn = []) (ap : SApart Xg S a fp) (h : GSt Xg S a go fp tn Gd σ i s) (k : Kp S s s') : GSt Xg S a go fp tn Gd σ i s' := by
  obtain ⟨H, pl, e, I, st, nf, gd⟩ := h
  obtain ⟨pl', e', I'⟩ := inv_kp hpn ap e I k
  exact ⟨H, pl', e', I', T.keep _ _ _ st fun b hb o q => k.keep b o (fun hs => ap.fp b hs hb) q, nf, gd⟩

/-- the turns: tests, values; Gd: what holds of the heap at each -/
structure TurnsOk (J : It) (g : TG) (tt : TT) (te : TE) (vs : List Nat) (σw : L2.St) (n : Nat) (pz : Nat → Bool) (yv : Nat → V) (Gd : Nat → Hp → Prop) : Prop where
  turn : ∀ i H, i < n → Gd i H → J.go i H ∧ ∀ x H', J.yld i H x H' → g x σw H' fun σ2 H2 => wipe σ2 vs = σw ∧ tt σ2 H2 fun b H3 => b = pz i ∧ (b = true → te σ2 H3 fun y H4 => y = yv i ∧ Gd (i + 1) H4) ∧ (b = false → Gd (i + 1) H3)
  stop : ∀ H, Gd n H → J.stop n H

/-- the consumer's objects stand as they stood -/
def SameS (S : List Addr) (s s' : Shared) : Prop := ∀ b ∈ S, ∀ o, s.heap.get? b = some o → s'.heap.get? b = some o
theorem SameS.pins {Xg : Cx} {S : List Addr} {a : Addr} {go : Obj} {pl r : List (Addr × Obj)} {σ σ' : L2.St} {H H' : Hp} {s₀ s s' : Shared} (h : SameS S s₀ s) (epl : pl.map (·.1) = S) (I : Inv Xg ((a, go) :: pl) σ H s) (I' : Inv Xg (((a, go) :: pl) ++ r) σ' H' s') : SameS S s₀ s' := fun b hb o e => by
  have e1 := h b hb o e
  rw [← epl] at hb
  obtain ⟨p, hp, ep⟩ := List.mem_map.mp hb
  have h1 := (I.pin p (List.mem_append_right _ (List.mem_cons_of_mem _ hp))).1
  have h2 := (I'.pin p (List.mem_append_right _ (List.mem_append_left _ (List.mem_cons_of_mem _ hp)))).1
  rw [ep, e1] at h1
  rw [ep] at h2
  exact h2.trans h1.symm
def gR (Xg : Cx) (S : List Addr) (a : Addr) (go : Obj) (Gd : Nat → Hp → Prop) (σ : L2.St) (n₀ g : Nat) : Nat → Shared → Shared → Prop := fun n s₀ s₁ => n = 0 ∧ g < s₁.gens.size ∧ SameS S s₀ s₁ ∧ GEd Xg S a go Gd σ n₀ s₁
def gY (Xg : Cx) (S : List Addr) (a : Addr) (go : Obj) (fp : List Addr) (tn : Nat → Heap → Prop) (Gd : Nat → Hp → Prop) (σ : L2.St) (n₀ g : Nat) (pz : Nat → Bool) (yv : Nat → V) : Protocol := fun m s₀ v s kap =>
  (∃ i, (passing pz n₀ 0)[(passing pz n₀ 0).length - 1 - m]? = some i ∧ RelV (yv i) v ∧ GSt Xg S a go fp tn Gd σ (i + 1) s) ∧ g < s.gens.size ∧ SameS S s₀ s ∧ ∀ s'', Kp S s s'' → kap (.send .none) s''

theorem seg_gl {Xg : Cx} {A : Around} {elt tg iter : Expr} {ifs : List Expr} {scope : Scope} {pos : Pos} {it a : Addr} {fp : List Addr} {tn : Nat → Heap → Prop} {J : It} {go : Obj} {S : List Addr} {g : Nat} {gt : TG} {tt : TT} {te : TE} {vs : List Nat} {σw : L2.St} {n₀ : Nat} {pz : Nat → Bool} {yv : Nat → V} {Gd : Nat → Hp → Prop}
    (hA : Xg.A = A.over (.compLoop (.GeneratorExp elt [⟨tg, iter, ifs, 0⟩] scope pos) 0 (.ref it) .none Xg.env) []) (hc : Xg.calm = true) (hco : Xg.env.scope.isCoroutine = false) (hpn : Xg.pn = []) (hex : Xg.ex = fp) (hxe : Xg.xe = fun _ _ => False)
    (T : Turn Xg.prog Xg.w Xg.K tg J fp it tn) (ap : SApart Xg S a fp) (haf : a ∉ fp) (hSf : ∀ b ∈ S, b ∉ fp) (pg : PG Xg tg gt) (pt : PTs Xg ifs tt) (pe : PE Xg elt te) (TO : TurnsOk J gt tt te vs σw n₀ pz yv Gd) :
    ∀ (k i : Nat) (s₀ s : Shared), n₀ - i = k → i ≤ n₀ → g < s.gens.size → SameS S s₀ s → GSt Xg S a go fp tn Gd σw i s →
      Seg (model Xg.prog Xg.w) A (fun n s₀ r s₁ => r = .ok .next ∧ gR Xg S a go Gd σw n₀ g n s₀ s₁) (gY Xg S a go fp tn Gd σw n₀ g pz yv) (passing pz n₀ i).length s₀
        (.compLoop (.GeneratorExp elt [⟨tg, iter, ifs, 0⟩] scope pos) 0 (.ref it) .none Xg.env)
        ((model Xg.prog Xg.w).den (.compLoop (.GeneratorExp elt [⟨tg, iter, ifs, 0⟩] scope pos) 0 (.ref it) .none Xg.env)) [] s := by
  have stat : ∀ {σ' : L2.St} {H' : Hp} {s' : Shared} {pl : List (Addr × Obj)}, pl.map (·.1) = S → Inv Xg ((a, go) :: pl) σ' H' s' → (∀ b ∈ fp, H' b = none) → ∀ b ∈ fp, FpOk Xg ((a, go) :: pl) H' b := fun {σ' H' s' pl} epl I' hn b hb => by
    have hbx : b ∈ Xg.ex := by rw [hex]; exact hb
    refine ⟨hn b hb, (I'.ok.exf b hbx).1, I'.ok.exfs b hbx, .inl hbx, fun x c e => (I'.ok.exf b hbx).2 x c e, fun p hp => ?_⟩
    rw [hpn] at hp
    rcases List.mem_cons.mp (show p ∈ (a, go) :: pl from hp) with e | hp
    · rw [e]
      exact fun z => haf (by rw [show a = b from z]; exact hb)
    · exact fun z => hSf p.1 (by rw [← epl]; exact List.mem_map.mpr ⟨p, hp, rfl⟩) (by rw [z]; exact hb)
  intro k
  induction k with
  | zero =>
    intro i s₀ s hk hi hgs hss hst
    have hin : i = n₀ := by omega
    subst hin
    obtain ⟨H, pl, epl, I, st, nf, gd⟩ := hst
    show Seg _ A _ _ _ s₀ _ ((compTurn (.GeneratorExp elt [⟨tg, iter, ifs, 0⟩] scope pos) 0 (.ref it) .none Xg.env).onRaise (leaving Xg.env)) [] s
    rw [compTurn_gen, Sem.onRaise_eq_wrap]
    refine seg_bind_wrap (wpAny_standAt ?_)
    refine seg_bind_wrap ?_
    rw [← hA]
    have td := T.done Xg rfl rfl rfl hc i _ s _ H (fun _ _ => False) I (stat epl I nf) st (TO.stop H gd)
    refine GenW.wpAny_gsz (Nat.succ_le_of_lt hgs) (thnF td fun r s6 ⟨hr, I6⟩ hg6 => ?_)
    subst hr
    exact seg_end (.ok .next) ⟨rfl, by rw [passing_end]; rfl, hg6, hss.pins (r := []) epl I (by rw [List.append_nil]; exact I6), H, pl, epl, I6, gd⟩
  | succ k ih =>
    intro i s₀ s hk hi hgs hss hst
    have hlt : i < n₀ := by omega
    obtain ⟨H, pl, epl, I, st, nf, gd⟩ := hst
    obtain ⟨jgo, step⟩ := TO.turn i H hlt gd
    show Seg _ A _ _ _ s₀ _ ((compTurn (.GeneratorExp elt [⟨tg, iter, ifs, 0⟩] scope pos) 0 (.ref it) .none Xg.env).onRaise (leaving Xg.env)) [] s
    rw [compTurn_gen, Sem.onRaise_eq_wrap]
    refine seg_bind_wrap (wpAny_standAt ?_)
    refine seg_bind_wrap ?_
    rw [← hA]
    have ti := T.item Xg rfl rfl rfl hc i _ s _ H (fun _ _ => False) I (stat epl I nf) st jgo
    refine GenW.wpAny_gsz (Nat.succ_le_of_lt hgs) (thnF ti fun r s6 ⟨u, hr, h6⟩ hg6 => ?_)
    subst hr
    refine seg_bind_wrap ?_
    rw [← hA]
    refine GenW.wpAny_gsz hg6 (thnF h6 fun _ s7 ⟨x, H7, I7, r7, y7, st7, n7⟩ hg7 => ?_)
    have I7' := I7.pinned (stat epl I7 n7) (T.obj _ _ st7)
    refine seg_bind_wrap ?_
    rw [← hA]
    have p1 := pg.run _ s7 _ H7 x u _ I7' r7 (step x H7 y7)
    rw [hxe] at p1
    refine GenW.wpAny_gsz hg7 (thnF p1 fun _ s8 ⟨σ8, H8, I8, hw8, q8⟩ hg8 => ?_)
    refine seg_bind_wrap ?_
    rw [← hA]
    have p2 := pt.run _ s8 σ8 H8 _ I8 q8
    rw [hxe] at p2
    refine GenW.wpAny_gsz hg8 (thnF p2 fun b s9 ⟨H9, I9, hb9, q9, q9'⟩ hg9 => ?_)
    have hwl : σw.length = σ8.length := by rw [← hw8, wipe_length]
    have fin : ∀ {s' : Shared} {H' : Hp}, Inv Xg (((a, go) :: pl) ++ pinsAt fp s7.heap) σ8 H' s' → Gd (i + 1) H' → GSt Xg S a go fp tn Gd σw (i + 1) s' := fun {s' H'} I' nx => by
      have pin' : ∀ b ∈ fp, ∀ o, s7.heap.get? b = some o → s'.heap.get? b = some o ∧ H' b = none := fun b hb o e =>
        let z := I'.pin (b, o) (List.mem_append_right _ (List.mem_append_right _ (mem_pinsAt hb e)))
        ⟨z.1, z.2.1⟩
      refine ⟨H', pl, epl, (I'.unpinned).weak hwl (fun j v e => ?_), T.keep _ _ _ st7 fun b hb o e => (pin' b hb o e).1, fun b hb => ?_, nx⟩
      · rw [← hw8] at e
        exact (wipe_some e).1
      · obtain ⟨o, e, _⟩ := T.obj _ _ st7 b hb
        exact (pin' b hb o e).2
    cases b with
    | false =>
      rw [passing_false hlt hb9.symm]
      simp only [Bool.false_eq_true, if_false]
      exact seg_again rfl (ih (i + 1) s₀ _ (by omega) hlt hg9 (hss.pins epl I I9) (fin I9 (q9' rfl)))
    | true =>
      rw [passing_true hlt hb9.symm, List.length_cons]
      simp only [if_true]
      have hy : ∀ v, yieldOut Xg.env v = yieldValue v := fun v => by simp only [yieldOut, hco, Bool.false_eq_true, if_false]
      simp only [hy]
      rw [Sem.bind_eq_wrap', Sem.bind_eq_wrap', Sem.wrap_wrap, Sem.wrap_wrap]
      refine seg_wrap ?_
      rw [← hA]
      have p3 := pe.run _ s9 σ8 H9 _ I9 (q9 rfl)
      rw [hxe] at p3
      refine GenW.wpAny_gsz hg9 (thnF p3 fun y s10 ⟨yV, H10, I10, ry, ey, gd10⟩ hg10 => ?_)
      subst ey
      have st10 := fin I10 gd10
      refine seg_at (seg_yield rfl rfl rfl ⟨⟨i, passing_here hlt hb9.symm, ry, st10⟩, hg10, hss.pins epl I I10, fun s'' hal => ?_⟩)
      exact seg_again rfl (ih (i + 1) s'' s'' (by omega) hlt (Nat.lt_of_lt_of_le hg10 hal.gsz) (fun _ _ _ e => e) (st10.kp T hpn ap hal))
end GxI
set_option Elab.async false
set_option linter.all false
set_option maxRecDepth 100000
set_option maxHeartbeats 2000000
namespace GxI
open PySem PySem.Spec PyProof.Rows L2

/-- the generator sleeps, j items are out -/
structure GAt (Xg : Cx) (A0 : Around) (S : List Addr) (a : Addr) (go : Obj) (fp : List Addr) (tn : Nat → Heap → Prop) (Gd : Nat → Hp → Prop) (σ : L2.St) (n₀ g : Nat) (pz : Nat → Bool) (yv : Nat → V) (j : Nat) (s : Shared) : Prop where
  cur : ∃ i, GEd Xg S a go Gd σ i s
  gsz : g < s.gens.size
  gs : ∃ gs, s.gens[g]? = some gs ∧ ∀ s'', Kp S s s'' → gs.Goes (model Xg.prog Xg.w) A0.in1 (fun n s₀ r s₁ => r = .ok .next ∧ gR Xg S a go Gd σ n₀ g n s₀ s₁) (gY Xg S a go fp tn Gd σ n₀ g pz yv) ((passing pz n₀ 0).length - j) (.send .none) s''

section
variable {Xg : Cx} {A0 : Around} {S : List Addr} {a : Addr} {go : Obj} {fp : List Addr} {tn : Nat → Heap → Prop} {Gd : Nat → Hp → Prop} {σ : L2.St} {n₀ g : Nat} {pz : Nat → Bool} {yv : Nat → V} {j : Nat} {s s' : Shared}

theorem Kp.trans {S : List Addr} {s s1 s2 : Shared} (x : Kp S s s1) (y : Kp S s1 s2) : Kp S s s2 :=
  ⟨y.os.trans x.os, y.bare, Nat.le_trans x.gsz y.gsz, fun b o hb e => y.keep b o hb (x.keep b o hb e), fun b hb o e => by
    obtain ⟨o', e', _⟩ := x.own b hb o e
    exact y.own b hb o' e'⟩
theorem GEd.kp (hpn : Xg.pn = []) (ap : SApart Xg S a fp) {i : Nat} (h : GEd Xg S a go Gd σ i s) (k : Kp S s s') : GEd Xg S a go Gd σ i s' := by
  obtain ⟨H, pl, e, I, gd⟩ := h
  obtain ⟨pl', e', I'⟩ := inv_kp hpn ap e I k
  exact ⟨H, pl', e', I', gd⟩
theorem GSt.ed {i : Nat} (h : GSt Xg S a go fp tn Gd σ i s) : GEd Xg S a go Gd σ i s := by
  obtain ⟨H, pl, e, I, _, _, gd⟩ := h
  exact ⟨H, pl, e, I, gd⟩
theorem GEd.nocell {i : Nat} (h : GEd Xg S a go Gd σ i s) : ∀ b ∈ S, ∀ o, s.heap.get? b = some o → ∀ v, o.data ≠ .cell v := fun b hb o e v => by
  obtain ⟨H, pl, epl, I, _⟩ := h
  rw [← epl] at hb
  obtain ⟨p, hp, ep⟩ := List.mem_map.mp hb
  obtain ⟨h1, _, _, _, h2⟩ := I.pin p (List.mem_append_right _ (List.mem_cons_of_mem _ hp))
  rw [ep, e] at h1
  cases h1
  exact h2 v
theorem GEd.bare {i : Nat} (h : GEd Xg S a go Gd σ i s) : AllBare s.gens := by
  obtain ⟨H, pl, epl, I, _⟩ := h
  exact I.bare
theorem GEd.gen {i : Nat} (h : GEd Xg S a go Gd σ i s) : s.heap.get? a = some go := by
  obtain ⟨H, pl, epl, I, _⟩ := h
  exact (I.pin (a, go) (List.mem_append_right _ List.mem_cons_self)).1
theorem GEd.nolimit {i : Nat} (h : GEd Xg S a go Gd σ i s) : s.heap.NoLimit := by
  obtain ⟨H, pl, epl, I, _⟩ := h
  exact I.nolimit
/-- the consumer has done what it may -/
theorem GAt.kp (hpn : Xg.pn = []) (ap : SApart Xg S a fp) (h : GAt Xg A0 S a go fp tn Gd σ n₀ g pz yv j s) (k : Kp S s s') (hg : s'.gens = s.gens) : GAt Xg A0 S a go fp tn Gd σ n₀ g pz yv j s' := by
  obtain ⟨⟨i, c⟩, z, gs, e, q⟩ := h
  exact ⟨⟨i, c.kp hpn ap k⟩, by rw [hg]; exact z, gs, by rw [hg]; exact e, fun s'' k' => q s'' (k.trans k')⟩
theorem kp_setGen {i : Nat} {x : GenState} (c : GEd Xg S a go Gd σ i s) (hx : x.bare = true) : Kp S s (s.setGen g x) :=
  ⟨rfl, L2.allBare_setGen c.bare hx, by rw [GenW.setGen_size]; exact Nat.le_refl _, fun _ _ _ e => e, fun b hb o e => ⟨o, e, c.nocell b hb o e⟩⟩
theorem kp_heap {i : Nat} {h' : Heap} {tk : Nat} (c : GEd Xg S a go Gd σ i s) (k : ∀ b o, s.heap.get? b = some o → h'.get? b = some o) : Kp S s { s with heap := h', toks := tk } :=
  ⟨rfl, c.bare, Nat.le_refl _, fun b o _ e => k b o e, fun b hb o e => ⟨o, k b o e, c.nocell b hb o e⟩⟩

variable {Q : Option Value → Shared → Prop} {E : Value → Shared → Prop}
theorem GAt.item (hpn : Xg.pn = []) (ap : SApart Xg S a fp) (hgo : ∀ h : Heap, h.get? a = some go → h.IsGen a g) (hh : A0.handled = none) (hroom : A0.depth < recursionLimit) (hj : j < (passing pz n₀ 0).length) (h : GAt Xg A0 S a go fp tn Gd σ n₀ g pz yv j s)
    (hQ : ∀ v s' i, (passing pz n₀ 0)[j]? = some i → RelV (yv i) v → SameS S s s' → GAt Xg A0 S a go fp tn Gd σ n₀ g pz yv (j + 1) s' → Q (some v) s') : wpAny (model Xg.prog Xg.w) A0 (pyNext (.ref a)) Q E s := by
  obtain ⟨⟨i0, c⟩, z, gs, e, q⟩ := h
  obtain ⟨m, hm⟩ : ∃ m, (passing pz n₀ 0).length - j = m + 1 := ⟨(passing pz n₀ 0).length - j - 1, by omega⟩
  have q1 := q _ (kp_setGen (g := g) (x := .running) c rfl)
  rw [hm] at q1
  refine wpAny_pyNext_genexpQ (P := gR Xg S a go Gd σ n₀ g) hh c.nolimit hroom (hgo _ c.gen) e q1 (fun v s₁ gs' hb hv => ?_) (fun s₁ hp h' hk => ?_)
  · obtain ⟨⟨i, hi, hF, hst⟩, hgz, hss, hkap⟩ := hv
    have hidx : (passing pz n₀ 0).length - 1 - (m + 1 - 1) = j := by omega
    rw [hidx] at hi
    refine hQ v _ i hi hF hss ⟨⟨i + 1, hst.ed.kp hpn ap (kp_setGen hst.ed hb)⟩, by rw [GenW.setGen_size]; exact hgz, gs', L2.setGen_at hgz, fun s'' k => ?_⟩
    have e2 : (passing pz n₀ 0).length - (j + 1) = m := by omega
    rw [e2]
    exact hkap s'' ((kp_setGen hst.ed hb).trans k)
  · exact absurd hp.1 (Nat.succ_ne_zero m)

theorem GAt.done (hpn : Xg.pn = []) (ap : SApart Xg S a fp) (hgo : ∀ h : Heap, h.get? a = some go → h.IsGen a g) (hh : A0.handled = none) (hroom : A0.depth < recursionLimit) (hj : j = (passing pz n₀ 0).length) (h : GAt Xg A0 S a go fp tn Gd σ n₀ g pz yv j s)
    (hQ : ∀ s', SameS S s s' → GEd Xg S a go Gd σ n₀ s' → Q none s') : wpAny (model Xg.prog Xg.w) A0 (pyNext (.ref a)) Q E s := by
  obtain ⟨⟨i0, c⟩, z, gs, e, q⟩ := h
  have q1 := q _ (kp_setGen (g := g) (x := .running) c rfl)
  rw [show (passing pz n₀ 0).length - j = 0 by omega] at q1
  refine wpAny_pyNext_genexpQ (P := gR Xg S a go Gd σ n₀ g) hh c.nolimit hroom (hgo _ c.gen) e q1 (fun v s₁ gs' hb hv => ?_) (fun s₁ hp h' hk => ?_)
  · obtain ⟨⟨i, hi, hF, hst⟩, hgz, _, hkap⟩ := hv
    exact False.elim (hkap s₁ (Kp.refl hst.ed.bare hst.ed.nocell))
  · obtain ⟨_, hgz, hss, ced⟩ := hp
    have k1 : Kp S s₁ (s₁.setGen g .finished) := kp_setGen ced rfl
    have c1 := ced.kp hpn ap k1
    exact hQ _ (fun b hb o e => hk b o (hss b hb o e)) (c1.kp hpn ap (kp_heap (tk := (s₁.setGen g .finished).toks) c1 hk))

theorem GAt.toks (hpn : Xg.pn = []) (ap : SApart Xg S a fp) (tk : Nat) (h : GAt Xg A0 S a go fp tn Gd σ n₀ g pz yv j s) : GAt Xg A0 S a go fp tn Gd σ n₀ g pz yv j { s with toks := tk } := by
  obtain ⟨⟨i0, c⟩, _⟩ := _root_.id h
  exact h.kp hpn ap (kp_heap c fun _ _ e => e) rfl
theorem GAt.ed (h : GAt Xg A0 S a go fp tn Gd σ n₀ g pz yv j s) : ∃ i, GEd Xg S a go Gd σ i s := h.cur
end

/-! ### any, all, sum -/
section
variable {Xg : Cx} {A : Around} {S : List Addr} {a : Addr} {go : Obj} {fp : List Addr} {tn : Nat → Heap → Prop} {Gd : Nat → Hp → Prop} {σ : L2.St} {n₀ g : Nat} {pz pb : Nat → Bool} {R : Result → Shared → Prop}

theorem drop_cons {α : Type} {l : List α} {j : Nat} {x : α} (h : l[j]? = some x) : l.drop j = x :: l.drop (j + 1) := by
  obtain ⟨hj, e⟩ := List.getElem?_eq_some_iff.mp h
  rw [List.drop_eq_getElem_cons hj, e]

theorem any_loopG (hpn : Xg.pn = []) (ap : SApart Xg S a fp) (hgo : ∀ h : Heap, h.get? a = some go → h.IsGen a g) (hh : A.in1.handled = none) (hroom : A.in1.depth < recursionLimit) :
    ∀ (k j : Nat) (s : Shared), (passing pz n₀ 0).length - j = k → j ≤ (passing pz n₀ 0).length → GAt Xg A.in1 S a go fp tn Gd σ n₀ g pz (fun i => .bl (pb i)) j s →
    (∀ s' i, GEd Xg S a go Gd σ i s' → R (.ok (.ret (.bool (((passing pz n₀ 0).drop j).any pb)))) s') → codeAny (model Xg.prog Xg.w) A (.builtin "any.loop" ⟨[.ref a], []⟩) R s := by
  intro k
  induction k with
  | zero =>
    intro j s hk hj h hR
    have hjn : j = (passing pz n₀ 0).length := by omega
    refine codeAny_builtin F.entry_any_loop ?_
    rw [Around.under_plainId F.plain_any_loop _]
    show wpAny _ A.in1 (pyNext (.ref a) >>= _) _ _ s
    refine wpAny_bind (h.done hpn ap hgo hh hroom hjn fun s' _ c => ?_)
    refine wpAny_bind (wpAny_rule (wpAny_pure ?_))
    have := hR s' _ c
    rw [List.drop_of_length_le (by omega)] at this
    exact this
  | succ k ih =>
    intro j s hk hj h hR
    have hlt : j < (passing pz n₀ 0).length := by omega
    refine codeAny_builtin F.entry_any_loop ?_
    rw [Around.under_plainId F.plain_any_loop _]
    show wpAny _ A.in1 (pyNext (.ref a) >>= _) _ _ s
    refine wpAny_bind (h.item hpn ap hgo hh hroom hlt fun v s' i hi rv _ h' => ?_)
    have rv : v = .bool (pb i) := rv
    subst rv
    have hd := drop_cons hi
    refine wpAny_bind (wpAny_holding (wpAny_truthy_bool ?_))
    refine wpAny_bind (wpAny_letGo ?_)
    cases hb : pb i with
    | false =>
      simp only [Bool.false_eq_true, if_false]
      refine wpAny_pure ⟨plainId_quiet F.plain_any_loop _, ih (j + 1) _ (by omega) hlt h' fun s'' i' hm' => ?_⟩
      have := hR s'' i' hm'
      rw [hd, List.any_cons, hb, Bool.false_or] at this
      exact this
    | true =>
      simp only [if_true]
      refine wpAny_bind (wpAny_rule (wpAny_pure ?_))
      obtain ⟨i', c⟩ := h'.cur
      have := hR _ i' c
      rw [hd, List.any_cons, hb, Bool.true_or] at this
      exact this

theorem all_loopG (hpn : Xg.pn = []) (ap : SApart Xg S a fp) (hgo : ∀ h : Heap, h.get? a = some go → h.IsGen a g) (hh : A.in1.handled = none) (hroom : A.in1.depth < recursionLimit) :
    ∀ (k j : Nat) (s : Shared), (passing pz n₀ 0).length - j = k → j ≤ (passing pz n₀ 0).length → GAt Xg A.in1 S a go fp tn Gd σ n₀ g pz (fun i => .bl (pb i)) j s →
    (∀ s' i, GEd Xg S a go Gd σ i s' → R (.ok (.ret (.bool (((passing pz n₀ 0).drop j).all pb)))) s') → codeAny (model Xg.prog Xg.w) A (.builtin "all.loop" ⟨[.ref a], []⟩) R s := by
  intro k
  induction k with
  | zero =>
    intro j s hk hj h hR
    have hjn : j = (passing pz n₀ 0).length := by omega
    refine codeAny_builtin F.entry_all_loop ?_
    rw [Around.under_plainId F.plain_all_loop _]
    show wpAny _ A.in1 (pyNext (.ref a) >>= _) _ _ s
    refine wpAny_bind (h.done hpn ap hgo hh hroom hjn fun s' _ c => ?_)
    refine wpAny_bind (wpAny_rule (wpAny_pure ?_))
    have := hR s' _ c
    rw [List.drop_of_length_le (by omega)] at this
    exact this
  | succ k ih =>
    intro j s hk hj h hR
    have hlt : j < (passing pz n₀ 0).length := by omega
    refine codeAny_builtin F.entry_all_loop ?_
    rw [Around.under_plainId F.plain_all_loop _]
    show wpAny _ A.in1 (pyNext (.ref a) >>= _) _ _ s
    refine wpAny_bind (h.item hpn ap hgo hh hroom hlt fun v s' i hi rv _ h' => ?_)
    have rv : v = .bool (pb i) := rv
    subst rv
    have hd := drop_cons hi
    refine wpAny_bind (wpAny_holding (wpAny_truthy_bool ?_))
    refine wpAny_bind (wpAny_letGo ?_)
    cases hb : pb i with
    | true =>
      simp only [if_true]
      refine wpAny_pure ⟨plainId_quiet F.plain_all_loop _, ih (j + 1) _ (by omega) hlt h' fun s'' i' hm' => ?_⟩
      have := hR s'' i' hm'
      rw [hd, List.all_cons, hb, Bool.true_and] at this
      exact this
    | false =>
      simp only [Bool.false_eq_true, if_false]
      refine wpAny_bind (wpAny_rule (wpAny_pure ?_))
      obtain ⟨i', c⟩ := h'.cur
      have := hR _ i' c
      rw [hd, List.all_cons, hb, Bool.false_and] at this
      exact this

variable {val : Nat → Int} {SA : Addr}
theorem sum_drop {l : List Nat} {j i : Nat} (val : Nat → Int) (h : l[j]? = some i) : ((l.take (j + 1)).map val).sum = ((l.take j).map val).sum + val i := by
  rw [List.take_add_one, h]
  simp

theorem kp_upd {i : Nat} {s : Shared} {its : Array Value} {c : Nat} {f : Array Value → Array Value} {tk : Nat} (ed : GEd Xg [SA] a go Gd σ i s) (hS : s.heap.get? SA = some { cls := .type "list", dict := none, data := .seq its c, slots := #[] }) :
    Kp [SA] s { s with heap := s.heap.update SA (Obj.mapSeq f), toks := tk } :=
  ⟨rfl, ed.bare, Nat.le_refl _, fun b o hb e => (Heap.get?_update_other _ _ (fun h : SA = b => hb (by rw [h]; exact List.mem_singleton.mpr rfl))).trans e, fun b hb o e => by
    rw [List.mem_singleton.mp hb]
    exact ⟨_, Heap.get?_update_self _ hS rfl, fun v z => by cases z⟩⟩

theorem sum_loopG (hpn : Xg.pn = []) (ap : SApart Xg [SA] a fp) (hgo : ∀ h : Heap, h.get? a = some go → h.IsGen a g) (hh : A.in1.handled = none) (hroom : A.in1.depth < recursionLimit) :
    ∀ (k j : Nat) (s : Shared) (tA : Tok) (c : Nat) (stage : Int), (stage = 0 ∨ stage = 2) → (passing pz n₀ 0).length - j = k → j ≤ (passing pz n₀ 0).length → GAt Xg A.in1 [SA] a go fp tn Gd σ n₀ g pz (fun i => .int (val i)) j s →
    s.heap.get? SA = some { cls := .type "list", dict := none, data := .seq #[.int (((passing pz n₀ 0).take j).map val).sum tA] c, slots := #[] } →
    (∀ s' i t', GEd Xg [SA] a go Gd σ i s' → R (.ok (.ret (.int (((passing pz n₀ 0)).map val).sum t'))) s') → codeAny (model Xg.prog Xg.w) A (.builtin "sum.loop" ⟨[.ref a, .ref SA, rawInt stage, rawInt 0], []⟩) R s := by
  intro k
  induction k with
  | zero =>
    intro j s tA c stage hstage hk hj h hS hR
    have hjn : j = (passing pz n₀ 0).length := by omega
    refine codeAny_builtin F.entry_sum_loop ?_
    rw [Around.under_plainId F.plain_sum_loop _]
    show wpAny _ A.in1 (seqItems? (.ref SA) >>= _) _ _ s
    refine wpAny_bind (wpAny_seqItems hS rfl ?_)
    show wpAny _ A.in1 (tryCatch (pyNext (.ref a)) _ >>= _) _ _ s
    refine wpAny_bind (wpAny_tryCatch (h.done hpn ap hgo hh hroom hjn fun s' _ c => ?_))
    have := hR s' _ tA c
    rw [hjn, List.take_length]
    exact wpAny_pure this
  | succ k ih =>
    intro j s tA c stage hstage hk hj h hS hR
    have hlt : j < (passing pz n₀ 0).length := by omega
    refine codeAny_builtin F.entry_sum_loop ?_
    rw [Around.under_plainId F.plain_sum_loop _]
    show wpAny _ A.in1 (seqItems? (.ref SA) >>= _) _ _ s
    refine wpAny_bind (wpAny_seqItems hS rfl ?_)
    show wpAny _ A.in1 (tryCatch (pyNext (.ref a)) _ >>= _) _ _ s
    refine wpAny_bind (wpAny_tryCatch (h.item hpn ap hgo hh hroom hlt fun v s' i hi rv hss h' => ?_))
    obtain ⟨t, rfl⟩ := _root_.id rv
    have hS' := hss SA (List.mem_singleton.mpr rfl) _ hS
    have esum := sum_drop val hi
    obtain ⟨i1, ed⟩ := h'.cur
    generalize hps : (((passing pz n₀ 0).take j).map val).sum = ps at hS hS' esum
    rcases hstage with rfl | rfl
    · show wpAny _ A.in1 (if (_ : Bool) = true then (mkInt (ps + val i) >>= _) else _) _ _ _
      split
      · refine wpAny_bind (wpAny_mkInt ?_)
        show wpAny _ A.in1 (updateSeq SA (fun _ => #[.int (ps + val i) s'.toks]) >>= _) _ _ _
        refine wpAny_bind ?_
        refine wpAny_updateSeq hS' rfl (wpAny_pure ⟨plainId_quiet F.plain_sum_loop _, ih (j + 1) _ _ _ 0 (Or.inl rfl) (by omega) hlt (h'.kp hpn ap (kp_upd ed hS') rfl) (by rw [esum]; exact Heap.get?_update_self _ hS' rfl) hR⟩)
      · refine wpAny_bind (wpAny_rule ?_)
        refine wpAny_bind (wpAny_attempt (wpAny_holding (PySem.P.add_int ?_)))
        show wpAny _ A.in1 (updateSeq SA (fun _ => #[.int (ps + val i) s'.toks]) >>= _) _ _ _
        refine wpAny_bind ?_
        refine wpAny_updateSeq hS' rfl ?_
        have hS2 := Heap.get?_update_self (Obj.mapSeq fun _ => #[Value.int (ps + val i) s'.toks]) hS' rfl
        have h2 := h'.kp hpn ap (kp_upd (f := fun _ => #[Value.int (ps + val i) s'.toks]) (tk := s'.toks + 1) ed hS') rfl
        obtain ⟨i2, ed2⟩ := h2.cur
        refine wpAny_bind (wpAny_letGo ?_)
        refine wpAny_bind ?_
        refine wpAny_updateSeq hS2 rfl (wpAny_pure ⟨plainId_quiet F.plain_sum_loop _, ih (j + 1) _ _ _ 2 (Or.inr rfl) (by omega) hlt (h2.kp hpn ap (kp_upd ed2 hS2) rfl) (by rw [esum]; exact Heap.get?_update_self _ hS2 rfl) hR⟩)
    · show wpAny _ A.in1 ((holding [Value.int (val i) t] (binaryOp .Add (.int ps tA) (.int (val i) t))).attempt >>= _) _ _ _
      refine wpAny_bind (wpAny_attempt (wpAny_holding (PySem.P.add_int ?_)))
      show wpAny _ A.in1 (updateSeq SA (fun _ => #[.int (ps + val i) s'.toks]) >>= _) _ _ _
      refine wpAny_bind ?_
      refine wpAny_updateSeq hS' rfl ?_
      have hS2 := Heap.get?_update_self (Obj.mapSeq fun _ => #[Value.int (ps + val i) s'.toks]) hS' rfl
      have h2 := h'.kp hpn ap (kp_upd (f := fun _ => #[Value.int (ps + val i) s'.toks]) (tk := s'.toks + 1) ed hS') rfl
      obtain ⟨i2, ed2⟩ := h2.cur
      refine wpAny_bind (wpAny_letGo ?_)
      refine wpAny_bind ?_
      refine wpAny_updateSeq hS2 rfl (wpAny_pure ⟨plainId_quiet F.plain_sum_loop _, ih (j + 1) _ _ _ 2 (Or.inr rfl) (by omega) hlt (h2.kp hpn ap (kp_upd ed2 hS2) rfl) (by rw [esum]; exact Heap.get?_update_self _ hS2 rfl) hR⟩)
end
end GxI
set_option Elab.async false
set_option linter.all false
set_option maxRecDepth 100000
set_option maxHeartbeats 2000000
namespace GxI
open PySem PySem.Spec PyProof.Rows L2

theorem nb1 {s4 s5 b : Nat} (e : s5 = s4 + 1 + 1) (h : s5 ≤ b) : s4 ≤ b := by omega
theorem nb1' {s4 s5 b : Nat} (e : s5 = s4 + 1 + 1) (h : s5 ≤ b) : s4 < b := by omega
theorem nb3 {s4 s5 b c : Nat} (e : s5 = s4 + 1 + 1) (h : s5 ≤ b) (hc : c < s4) : c ≠ b := by omega
theorem nb4 {s4 s5 b h' : Nat} (e : s5 = s4 + 1 + 1) (h : s5 ≤ b) (hc : h' = s4 + 1) : b ≠ h' := by omega
theorem nb5 {s4 h' : Nat} (hc : h' = s4 + 1) : ¬ h' < s4 := by omega
theorem nb6 {s4 h' : Nat} (hc : h' = s4 + 1) : s4 < h' := by omega
/-- a generator that has not begun -/
def MadeG (Xg : Cx) (A0 : Around) (a : Addr) (go : Obj) (fp : List Addr) (tn : Nat → Heap → Prop) (Gd : Nat → Hp → Prop) (σ : L2.St) (n₀ g : Nat) (pz : Nat → Bool) (yv : Nat → V) (s5 : Shared) : Prop :=
  ∀ (S : List Addr) (pl : List (Addr × Obj)) (s6 : Shared), pl.map (·.1) = S → s6.gens = s5.gens → s6.os = s5.os → (∀ b o, s5.heap.get? b = some o → s6.heap.get? b = some o) →
    (∀ p ∈ pl, s5.heap.objs.size ≤ p.1 ∧ s6.heap.get? p.1 = some p.2 ∧ ∀ v, p.2.data ≠ .cell v) → SApart Xg S a fp ∧ GAt Xg A0 S a go fp tn Gd σ n₀ g pz yv 0 s6

theorem seg_gstart {Xg : Cx} {A : Around} {elt tg iter : Expr} {ifs : List Expr} {scope : Scope} {pos : Pos} {it a : Addr} {fp : List Addr} {tn : Nat → Heap → Prop} {J : It} {go : Obj} {S : List Addr} {g : Nat} {gt : TG} {tt : TT} {te : TE} {vs : List Nat} {σw : L2.St} {n₀ : Nat} {pz : Nat → Bool} {yv : Nat → V} {Gd : Nat → Hp → Prop}
    (hA : Xg.A = A.over (.compLoop (.GeneratorExp elt [⟨tg, iter, ifs, 0⟩] scope pos) 0 (.ref it) .none Xg.env) []) (hc : Xg.calm = true) (hco : Xg.env.scope.isCoroutine = false) (hpn : Xg.pn = []) (hex : Xg.ex = fp) (hxe : Xg.xe = fun _ _ => False)
    (T : Turn Xg.prog Xg.w Xg.K tg J fp it tn) (ap : SApart Xg S a fp) (haf : a ∉ fp) (hSf : ∀ b ∈ S, b ∉ fp) (pg : PG Xg tg gt) (pt : PTs Xg ifs tt) (pe : PE Xg elt te) (TO : TurnsOk J gt tt te vs σw n₀ pz yv Gd)
    (s : Shared) (hgs : g < s.gens.size) (hst : GSt Xg S a go fp tn Gd σw 0 s) :
    Seg (model Xg.prog Xg.w) A (fun n s₀ r s₁ => r = .ok .next ∧ gR Xg S a go Gd σw n₀ g n s₀ s₁) (gY Xg S a go fp tn Gd σw n₀ g pz yv) (passing pz n₀ 0).length s
      (.compStart (.GeneratorExp elt [⟨tg, iter, ifs, 0⟩] scope pos) 0 (.ref it) .none Xg.env)
      ((model Xg.prog Xg.w).den (.compStart (.GeneratorExp elt [⟨tg, iter, ifs, 0⟩] scope pos) 0 (.ref it) .none Xg.env)) [] s := by
  have loop := seg_gl (g := g) (pos := pos) (scope := scope) hA hc hco hpn hex hxe T ap haf hSf pg pt pe TO n₀ 0 s s (Nat.sub_zero _) (Nat.zero_le _) hgs (fun _ _ _ e => e) hst
  obtain ⟨H, pl, epl, I, st, nf, gd⟩ := hst
  show Seg _ A _ _ _ s _ ((compStart (.GeneratorExp elt [⟨tg, iter, ifs, 0⟩] scope pos) 0 (.ref it) .none Xg.env).onRaise (leaving Xg.env)) [] s
  unfold compStart
  rw [Sem.onRaise_eq_wrap]
  show Seg _ A _ _ _ s _ ((ask >>= _).wrap _ _ _ _) [] s
  refine seg_bind_wrap (wpAny_askSetting ?_)
  split
  · exact seg_again rfl loop
  · first
      | exact seg_bind_wrap (wpAny_rule (seg_bind_wrap (wpAny_standAt (seg_bind_wrap (T.self _ 0 s _ _ st (seg_again rfl loop))))))
      | (refine seg_bind_wrap (wpAny_rule ?_); show Seg _ A _ _ _ s _ ((standAt iter.pos >>= _).wrap _ _ _ _) [] s; exact seg_bind_wrap (wpAny_standAt (seg_bind_wrap (T.self _ 0 s _ _ st (seg_again rfl loop)))))

abbrev ArdG (A : Around) (elt tg iter : Expr) (ifs : List Expr) (scope : Scope) (pos : Pos) (it : Addr) (cenv : Env) : Around := A.in1.in1.over (.compLoop (.GeneratorExp elt [⟨tg, iter, ifs, 0⟩] scope pos) 0 (.ref it) .none cenv) []

theorem ardG_room {k : Nat} {A : Around} {elt tg iter : Expr} {ifs : List Expr} {scope : Scope} {pos : Pos} {it : Addr} {cenv : Env} (hr : Room (k + 1) A) : Room k (ArdG A elt tg iter ifs scope pos it cenv) := by
  obtain ⟨h1, h2, h3⟩ := hr
  refine ⟨h1, ?_, ?_⟩
  · show A.depth + 0 + 1 + 3 * k + 5 < recursionLimit
    omega
  · show A.units + 1 + 1 + 0 + 3 + 16 * k + 200 < cLine
    omega

theorem ardG_handled {A : Around} {elt tg iter : Expr} {ifs : List Expr} {scope : Scope} {pos : Pos} {it : Addr} {cenv : Env} : (ArdG A elt tg iter ifs scope pos it cenv).handled = A.handled := rfl
theorem ardG_frames {A : Around} {elt tg iter : Expr} {ifs : List Expr} {scope : Scope} {pos : Pos} {it : Addr} {cenv : Env} {l : List Env} (h : A.frames = some l) : (ArdG A elt tg iter ifs scope pos it cenv).frames = some (cenv :: l) := by
  show pushEnvs [cenv] (pushEnvs [] A.frames) = _
  rw [h]
  rfl

/-- what is known behind the making of a generator -/
structure ReadyG (X : Cx) (pins : List (Addr × Obj)) (σ : L2.St) (vs : List Nat) (Xg : Cx) (a : Addr) (go : Obj) (fp : List Addr) (tn : Nat → Heap → Prop) (Gd : Nat → Hp → Prop) (n g : Nat) (pz : Nat → Bool) (yv : Nat → V) (s5 : Shared) : Prop where
  made : MadeG Xg X.A.in1 a go fp tn Gd (wipe σ vs) n g pz yv s5
  pn : Xg.pn = []
  isgen : ∀ h : Heap, h.get? a = some go → h.IsGen a g
  here : s5.heap.get? a = some go
  prog : Xg.prog = X.prog
  w : Xg.w = X.w
  back : ∀ S s' i, GEd Xg S a go Gd (wipe σ vs) i s' → ∃ H', Inv X pins σ H' s' ∧ Gd i H'

section
variable {X : Cx} {pins : List (Addr × Obj)} {σ : L2.St} {H : Hp} {s : Shared}

/-- the reading of a generator expression -/
def tGx (wi : TI) (g : TG) (tt : TT) (te : TE) (vs : List Nat) (P : Addr) (R : Nat → (Nat → Bool) → (Nat → V) → (Nat → Hp → Prop) → Prop) : L2.St → Hp → Prop := fun σ H =>
  wi σ H fun J H1 => GxR.TabG H1 P ∧ ∀ H2, GxR.Tabbed P H1 H2 → ∃ n pz yv Gd, Gd 0 H2 ∧ TurnsOk J g tt te vs (wipe σ vs) n pz yv Gd ∧ R n pz yv Gd

theorem gx_eval {k : Nat} {c P : Addr} {elt tg iter : Expr} {ifs : List Expr} {scope : Scope} {own : List (Str × Nat)} {gpos : Pos} {wi : TI} {g : TG} {tt : TT} {te : TE} {R : Nat → (Nat → Bool) → (Nat → V) → (Nat → Hp → Prop) → Prop} {Q' : Value → Shared → Prop}
    (hr : Room (k + 1) X.A) (hc : X.calm = true) (hN : X.N.Nodup) (TB : GxR.TabB X.base X.mg c P) (hcode : X.env.code = .ref c) (gs : GxS X.env scope) (ok : BlkOk X.N X.env.scope scope own)
    (hi : PI X tg iter wi)
    (hg : ∀ (A : Around) (s : Shared) (H : Hp) (C : Addr) (cd : Value) (cl : List (Str × Addr)) (fp : List Addr), Room k A → PG (gcx X A s H (genEnv scope cl C cd builtinsNs X.env) fp) tg g)
    (ht : ∀ (A : Around) (s : Shared) (H : Hp) (C : Addr) (cd : Value) (cl : List (Str × Addr)) (fp : List Addr), Room k A → PTs (gcx X A s H (genEnv scope cl C cd builtinsNs X.env) fp) ifs tt)
    (he : ∀ (A : Around) (s : Shared) (H : Hp) (C : Addr) (cd : Value) (cl : List (Str × Addr)) (fp : List Addr), Room k A → PE (gcx X A s H (genEnv scope cl C cd builtinsNs X.env) fp) elt te)
    (hs : ∀ v, genFold iter X.env v = pure v) (I : Inv X pins σ H s) (h : tGx wi g tt te (own.map (·.2)) P R σ H)
    (hQ : ∀ n pz yv Gd Xg a go fp tn g s5, R n pz yv Gd → ReadyG X pins σ (own.map (·.2)) Xg a go fp tn Gd n g pz yv s5 → Q' (.ref a) s5) :
    wpAny (model X.prog X.w) X.A (eval (.GeneratorExp elt [⟨tg, iter, ifs, 0⟩] scope gpos) X.env) Q' X.xe s := by
  have hfree : ∀ y ∈ scope.names, y.2 = .free → ∃ c, X.env.cells.lookup y.1 = some c := fun y hy e => by
    rcases ok.free y hy e with k | k
    · exact I.ok.has _ (.inl k)
    · exact I.ok.has _ (.inr k)
  refine wpAny_GeneratorExp_make gs.co (closure_ok hfree) gs.nocell gs.dot ok.kind (by have := hr.dp; omega) ?_ hs
  refine thn (hi.run pins s σ H _ I h) fun xv s1 hx => thn hx fun itv s2 h2 => ?_
  obtain ⟨it, fp, tn, J, H1, e, I1, T, st2, f2, ⟨ps, hP, ht0⟩, q1⟩ := h2
  subst e
  refine ⟨I1.nolimit, ?_⟩
  have hPs : s2.heap.get? P = some { cls := .none, data := .fields ps } := I1.hok P _ hP
  have cd : PySem.W.CodeHd s2.heap c P := TB.code.keeps fun b u e => I1.bk b u e
  have fpP : ∀ b ∈ fp, b ≠ P := fun b hb z => by
    have := (f2 b hb).1
    rw [z, hP] at this
    cases this
  have cont : ∀ (code : Value) (h3 : Heap) (tk : Nat) (ps' : Array Value), Heap.ExtBut P s2.heap h3 → s2.heap.objs.size ≤ h3.objs.size → h3.get? P = some { cls := .none, data := .fields ps' } → (∃ more, ps' = ps ++ more) → TriplesOk ps'.toList →
      wpAny (model X.prog X.w) X.A (builtinsFor X.env.globals X.env.builtins) (fun bi s₄ =>
        ∀ h', h'.Ns s₄.heap.objs.size (fun y => if y = ".0" then some (.ref it) else none) → Heap.SameBut s₄.heap.objs.size (s₄.heap.push { cls := .type "frame", data := .dict #[] }) h' →
          Q' (.ref h'.objs.size) { s₄ with
            gens := s₄.gens.push (.fresh (.compStart (.GeneratorExp elt [⟨tg, iter, ifs, 0⟩] scope gpos) 0 (.ref it) .none (genEnv scope (cloFrom X.env.cells scope.names []) s₄.heap.objs.size code bi X.env))),
            toks := s₄.toks + 1 + 1 + 1,
            heap := h'.push { cls := .type "generator", data := .fields #[.int s₄.gens.size 0, .str "<genexpr>" (s₄.toks + 1), .str (X.env.qual ++ "<genexpr>") (s₄.toks + 1 + 1)] } }) X.xe { s2 with heap := h3, toks := tk } := by
    intro code h3 tk ps' hx hsz hP3 hmore ht3
    obtain ⟨bm, ob, e1, e2, e3, e4, e5, e6, e7, e8⟩ := TB.bm
    have keep3 : ∀ b u, b ≠ P → s2.heap.get? b = some u → h3.get? b = some u := fun b u hb e => hx b u hb e
    refine wpAny_builtinsFor (m := X.mg) (by rw [I1.ok.glob]; exact (I1.mod.glob.keeps I1.bk).extBut hx TB.gP) e1 e2 (keep3 _ _ e4 (I1.bk _ _ e5)) e6 e7 e8 ?_
    obtain ⟨more, em⟩ := hmore
    -- the table has grown
    have I4 := GxR.inv_tab (more := more) (h' := h3) (g' := s2.gens) (d' := s2.drawn) (t' := tk) I1 hP keep3 (by rw [← em]; exact hP3) I1.bare
    generalize hs4 : ({ s2 with heap := h3, gens := s2.gens, drawn := s2.drawn, toks := tk } : Shared) = s4 at I4
    have eh4 : s4.heap = h3 := by rw [← hs4]
    intro h' hn' hs'
    have tab : GxR.Tabbed P H1 (upd H1 P (.tbl (ps ++ more))) := ⟨⟨ps ++ more, upd_same, by rw [← em]; exact ht3⟩, fun b hb => upd_ne hb⟩
    obtain ⟨n, pz, yv, Gd, gd0, TO, hR⟩ := q1 _ tab
    generalize hH2 : upd H1 P (.tbl (ps ++ more)) = H2 at I4 gd0 tab
    have st4 : tn 0 s4.heap := T.keep _ _ _ st2 fun b hb o e => by rw [eh4]; exact keep3 b o (fpP b hb) e
    have f4 : ∀ b ∈ fp, FpOk X pins H2 b ∧ b < s4.heap.objs.size := fun b hb => by
      obtain ⟨o, e, _⟩ := T.obj _ _ st4 b hb
      refine ⟨⟨?_, (f2 b hb).2⟩, Heap.lt_size e⟩
      rw [tab.2 b (fpP b hb)]
      exact (f2 b hb).1
    have hsz5 : h'.objs.size = s4.heap.objs.size + 1 := by rw [hs'.1, Heap.size_push]
    have keep' : ∀ b o, s4.heap.get? b = some o → h'.get? b = some o := fun b o e => hs'.extBut b o (Nat.ne_of_lt (Heap.lt_size e)) (Heap.get?_push_of_some _ e)
    generalize hgo : ({ cls := .type "generator", data := .fields #[.int s4.gens.size 0, .str "<genexpr>" (s4.toks + 1), .str (X.env.qual ++ "<genexpr>") (s4.toks + 1 + 1)] } : Obj) = go
    have keep5 : ∀ b o, s4.heap.get? b = some o → (h'.push go).get? b = some o := fun b o e => Heap.get?_push_of_some _ (keep' b o e)
    generalize hcenv : genEnv scope (cloFrom X.env.cells scope.names []) s4.heap.objs.size code builtinsNs X.env = cenv
    have hfr := I4.ok.frames
    have hAf : (ArdG X.A elt tg iter ifs scope gpos it cenv).frames = some (cenv :: X.stack) := ardG_frames hfr
    have hrg : Room k (ArdG X.A elt tg iter ifs scope gpos it cenv) := ardG_room hr
    have cL : cenv.locals = s4.heap.objs.size := by rw [← hcenv]; rfl
    have cC : cenv.cells = cloFrom X.env.cells scope.names [] := by rw [← hcenv]; rfl
    have cSc : cenv.scope = scope := by rw [← hcenv]; rfl
    have IG : Inv (gcx X (ArdG X.A elt tg iter ifs scope gpos it cenv) s4 H2 cenv fp) [] (wipe σ (own.map (·.2))) H2
        { s4 with heap := h'.push go, gens := s4.gens.push (.fresh (.compStart (.GeneratorExp elt [⟨tg, iter, ifs, 0⟩] scope gpos) 0 (.ref it) .none cenv)), toks := s4.toks + 1 + 1 + 1 } := by
      have z := gen_start (A := ArdG X.A elt tg iter ifs scope gpos it cenv) (fp := fp) (code := code) (g' := s4.gens.push (.fresh (.compStart (.GeneratorExp elt [⟨tg, iter, ifs, 0⟩] scope gpos) 0 (.ref it) .none cenv))) (h' := h'.push go) (tk := s4.toks + 1 + 1 + 1) I4 ok gs hN f4 (I4.ok.hd hc) (by rw [hcenv]; exact hAf) (hn'.push _) keep5 (I4.bare.push rfl)
      rw [hcenv] at z
      exact z
    generalize hs5 : ({ s4 with heap := h'.push go, gens := s4.gens.push (.fresh (.compStart (.GeneratorExp elt [⟨tg, iter, ifs, 0⟩] scope gpos) 0 (.ref it) .none cenv)), toks := s4.toks + 1 + 1 + 1 } : Shared) = s5 at IG
    have e5h : s5.heap = h'.push go := by rw [← hs5]
    have e5g : s5.gens = s4.gens.push (.fresh (.compStart (.GeneratorExp elt [⟨tg, iter, ifs, 0⟩] scope gpos) 0 (.ref it) .none cenv)) := by rw [← hs5]
    have ha5 : s5.heap.get? h'.objs.size = some go := by rw [e5h]; exact Heap.get?_push_size _ (by rw [← hgo]; rfl)
    have sz5 : s5.heap.objs.size = s4.heap.objs.size + 1 + 1 := by rw [e5h, Heap.size_push, hsz5]
    have hcl : ∀ x cc, cenv.cells.lookup x = some cc → cc < s4.heap.objs.size := fun x cc e => by
      rw [cC] at e
      exact (clo_mem I4 ok e).2.1
    have goc : ∀ v, go.data ≠ .cell v := fun v z => by rw [← hgo] at z; cases z
    have afp : h'.objs.size ∉ fp := fun hm => by
      exact nb5 hsz5 (f4 _ hm).2
    have pg := hg (ArdG X.A elt tg iter ifs scope gpos it cenv) s4 H2 s4.heap.objs.size code (cloFrom X.env.cells scope.names []) fp hrg
    have pt := ht (ArdG X.A elt tg iter ifs scope gpos it cenv) s4 H2 s4.heap.objs.size code (cloFrom X.env.cells scope.names []) fp hrg
    have pe := he (ArdG X.A elt tg iter ifs scope gpos it cenv) s4 H2 s4.heap.objs.size code (cloFrom X.env.cells scope.names []) fp hrg
    rw [hcenv] at pg pt pe
    refine hQ n pz yv Gd (gcx X (ArdG X.A elt tg iter ifs scope gpos it cenv) s4 H2 cenv fp) h'.objs.size go fp tn s4.gens.size s5 hR ⟨?_, rfl, fun h e => ⟨go, _, _, e, by rw [← hgo], by rw [← hgo], by rw [← hgo]⟩, ha5, rfl, rfl, ?_⟩
    · -- ready
      intro S pl s6 epl eg6 eo6 k6 hp6
      have ap : SApart (gcx X (ArdG X.A elt tg iter ifs scope gpos it cenv) s4 H2 cenv fp) S h'.objs.size fp := by
        have big : ∀ b ∈ S, s5.heap.objs.size ≤ b := fun b hb => by
          rw [← epl] at hb
          obtain ⟨p, hp, e⟩ := List.mem_map.mp hb
          rw [← e]
          exact (hp6 p hp).1
        refine ⟨fun b hb => ?_, fun b hb z => ?_, fun b hb x cc e z => ?_, fun b hb z => ?_, fun b hb z => ?_⟩
        · exact nb1 sz5 (big b hb)
        · have z : b = cenv.locals := z
          rw [cL] at z
          have z2 := nb1' sz5 (big b hb)
          rw [z] at z2
          exact Nat.lt_irrefl _ z2
        · exact nb3 sz5 (big b hb) (hcl x cc e) z
        · exact nb4 sz5 (big b hb) hsz5 z
        · exact nb3 sz5 (big b hb) (f4 b z).2 rfl
      refine ⟨ap, ?_⟩
      have I6 : Inv (gcx X (ArdG X.A elt tg iter ifs scope gpos it cenv) s4 H2 cenv fp) [] (wipe σ (own.map (·.2))) H2 s6 := by
        have z := IG.kept (h' := s6.heap) (t' := s6.toks) k6
        obtain ⟨hh6, g6, d6, t6, o6⟩ := s6
        have eg6 : g6 = s5.gens := eg6
        have eo6 : o6 = s5.os := eo6
        subst eg6 eo6
        refine IG.call' (s' := ⟨hh6, s5.gens, d6, t6, s5.os⟩) (ch := []) rfl (Un.kept k6) (IG.hok.kept k6) IG.bare fun b hb => by cases hb
      have I7 : Inv (gcx X (ArdG X.A elt tg iter ifs scope gpos it cenv) s4 H2 cenv fp) ((h'.objs.size, go) :: pl) (wipe σ (own.map (·.2))) H2 s6 := by
        refine I6.pins_of fun p hp => ?_
        have big : s4.heap.objs.size < p.1 ∧ s6.heap.get? p.1 = some p.2 ∧ ∀ v, p.2.data ≠ .cell v := by
          rcases List.mem_cons.mp hp with e | hp
          · rw [e]
            exact ⟨nb6 hsz5, k6 _ _ ha5, goc⟩
          · obtain ⟨z1, z2, z3⟩ := hp6 p hp
            exact ⟨nb1' sz5 z1, z2, z3⟩
        obtain ⟨z1, z2, z3⟩ := big
        refine ⟨z2, I4.hok.fresh (Nat.le_of_lt z1), ?_, ?_, z3⟩
        · show p.1 ≠ cenv.locals
          rw [cL]
          exact fun z => Nat.lt_irrefl _ (by rw [z] at z1; exact z1)
        · intro hb
          obtain ⟨_, o, ho, _⟩ := Heap.FunFrames.mem I4.stack hb
          exact Nat.lt_irrefl _ (Nat.lt_trans z1 (Heap.lt_size ho))
      have hfree : ∀ b ∈ fp, H2 b = none := fun b hb => (f4 b hb).1.1
      have st6 : tn 0 s6.heap := T.keep _ _ _ st4 fun b hb o e => k6 b o (by rw [e5h]; exact keep5 b o e)
      have gst : GSt (gcx X (ArdG X.A elt tg iter ifs scope gpos it cenv) s4 H2 cenv fp) S h'.objs.size go fp tn Gd (wipe σ (own.map (·.2))) 0 s6 := ⟨H2, pl, epl, I7, st6, hfree, gd0⟩
      have gz : s4.gens.size < s6.gens.size := by rw [eg6, e5g, Array.size_push]; exact Nat.lt_succ_self _
      refine ⟨⟨0, gst.ed⟩, gz, .fresh (.compStart (.GeneratorExp elt [⟨tg, iter, ifs, 0⟩] scope gpos) 0 (.ref it) .none cenv), by rw [eg6, e5g]; exact Array.getElem?_push_size .., fun s'' k => ⟨rfl, ?_⟩⟩
      rw [Nat.sub_zero]
      exact seg_gstart (A := X.A.in1.in1) (Xg := gcx X (ArdG X.A elt tg iter ifs scope gpos it cenv) s4 H2 cenv fp) rfl hc (by show cenv.scope.isCoroutine = false; rw [cSc]; exact gs.co) rfl rfl rfl T ap afp (fun b hb => ap.fp b hb) pg pt pe TO s'' (Nat.lt_of_lt_of_le gz k.gsz) (gst.kp T rfl ap k)
    · -- back
      intro S s' i hed
      obtain ⟨H', pl, epl, I', gd⟩ := hed
      refine ⟨H', ?_, gd⟩
      refine I4.call' (ch := fp) ?_ I'.base I'.hok I'.bare fun b hb => ⟨(f4 b hb).1.2.2.2.1, (f4 b hb).1.2.1, (f4 b hb).1.2.2.2.2.1, (f4 b hb).1.2.2.2.2.2⟩
      exact I'.os
  cases hf : codeAmong gpos ps.toList with
  | none =>
    refine wpAny_genexprCodeX hcode (cd.code hPs ht0) (cd.tab hPs) hf fun c' h' tk hx hge hlt hco' _ htab' _ => ?_
    obtain ⟨o1, vs, f1, tf, fl, tg, inF, tx, tt, op, _, _, _, _, _, _, _, _, _, htr, _⟩ := hco'
    exact cont _ h' tk _ hx (Nat.le_trans hge (Nat.le_of_lt hlt)) htab'.2 ⟨_, rfl⟩ htr
  | some cv =>
    refine wpAny_genexprCode_hit hcode (cd.code hPs ht0) hf ?_
    exact cont cv s2.heap s2.toks ps (Heap.ExtBut.refl _ _) (Nat.le_refl _) hPs ⟨#[], by simp⟩ ht0
end
end GxI
set_option Elab.async false
set_option linter.all false
set_option maxRecDepth 100000
set_option maxHeartbeats 2000000
namespace GxI
open PySem PySem.Spec PyProof.Rows L2
section
variable {X : Cx} {pins : List (Addr × Obj)} {σ : L2.St} {H : Hp} {s : Shared}

def rAny (Q : VK) : Nat → (Nat → Bool) → (Nat → V) → (Nat → Hp → Prop) → Prop := fun n pz yv Gd => ∃ pb : Nat → Bool, yv = (fun i => .bl (pb i)) ∧ ∀ i H', Gd i H' → Q (.bl ((passing pz n 0).any pb)) H'
def rAll (Q : VK) : Nat → (Nat → Bool) → (Nat → V) → (Nat → Hp → Prop) → Prop := fun n pz yv Gd => ∃ pb : Nat → Bool, yv = (fun i => .bl (pb i)) ∧ ∀ i H', Gd i H' → Q (.bl ((passing pz n 0).all pb)) H'
def rSum (Q : VK) : Nat → (Nat → Bool) → (Nat → V) → (Nat → Hp → Prop) → Prop := fun n pz yv Gd => ∃ val : Nat → Int, yv = (fun i => .int (val i)) ∧ ∀ i H', Gd i H' → Q (.int ((passing pz n 0).map val).sum) H'

theorem run_any {Xg : Cx} {a : Addr} {go : Obj} {fp : List Addr} {tn : Nat → Heap → Prop} {Gd : Nat → Hp → Prop} {n g : Nat} {pz : Nat → Bool} {yv : Nat → V} {vs : List Nat} {s5 : Shared} {Q : VK} {k : Nat}
    (hr : Room k X.A) (R : rAny Q n pz yv Gd) (Y : ReadyG X pins σ vs Xg a go fp tn Gd n g pz yv s5) : wpAny (model X.prog X.w) X.A (call (.builtin "any") [.ref a]) (EP X pins σ Q) X.xe s5 := by
  obtain ⟨pb, rfl, hQ⟩ := R
  obtain ⟨made, pn, isg, here, ep, ew, back⟩ := Y
  obtain ⟨ap, hat⟩ := made [] [] s5 rfl rfl rfl (fun _ _ e => e) (fun p hp => by cases hp)
  refine call_function_tree F.kind_any F.plain_any F.entry_any (F.args_any1 _) ?_
  unfold Builtin.«any»
  refine wpAny_bind (m := oneArg "any" _) (wpAny_pure ?_)
  refine wpAny_bind (wpAny_pyIter_gen (isg _ here) ?_)
  have hroom : X.A.in1.depth < recursionLimit := hr.depth
  have z := any_loopG (A := X.A) (R := fun r s' => match r with | .ok (.ret v) => EP X pins σ Q v s' | .ok _ => False | .error e => X.xe e s') pn ap isg hr.hd hroom _ 0 s5 rfl (Nat.zero_le _) hat fun s' i c => by
    obtain ⟨H', I', gd⟩ := back _ _ _ c
    rw [List.drop_zero]
    exact ⟨.bl _, H', I', rfl, hQ i H' gd⟩
  rw [ep, ew] at z
  exact wpAny_pure ⟨plainId_quiet F.plain_any_loop _, z⟩
theorem run_all {Xg : Cx} {a : Addr} {go : Obj} {fp : List Addr} {tn : Nat → Heap → Prop} {Gd : Nat → Hp → Prop} {n g : Nat} {pz : Nat → Bool} {yv : Nat → V} {vs : List Nat} {s5 : Shared} {Q : VK} {k : Nat}
    (hr : Room k X.A) (R : rAll Q n pz yv Gd) (Y : ReadyG X pins σ vs Xg a go fp tn Gd n g pz yv s5) : wpAny (model X.prog X.w) X.A (call (.builtin "all") [.ref a]) (EP X pins σ Q) X.xe s5 := by
  obtain ⟨pb, rfl, hQ⟩ := R
  obtain ⟨made, pn, isg, here, ep, ew, back⟩ := Y
  obtain ⟨ap, hat⟩ := made [] [] s5 rfl rfl rfl (fun _ _ e => e) (fun p hp => by cases hp)
  refine call_function_tree F.kind_all F.plain_all F.entry_all (F.args_all1 _) ?_
  unfold Builtin.«all»
  refine wpAny_bind (m := oneArg "all" _) (wpAny_pure ?_)
  refine wpAny_bind (wpAny_pyIter_gen (isg _ here) ?_)
  have hroom : X.A.in1.depth < recursionLimit := hr.depth
  have z := all_loopG (A := X.A) (R := fun r s' => match r with | .ok (.ret v) => EP X pins σ Q v s' | .ok _ => False | .error e => X.xe e s') pn ap isg hr.hd hroom _ 0 s5 rfl (Nat.zero_le _) hat fun s' i c => by
    obtain ⟨H', I', gd⟩ := back _ _ _ c
    rw [List.drop_zero]
    exact ⟨.bl _, H', I', rfl, hQ i H' gd⟩
  rw [ep, ew] at z
  exact wpAny_pure ⟨plainId_quiet F.plain_all_loop _, z⟩
theorem run_sum {Xg : Cx} {a : Addr} {go : Obj} {fp : List Addr} {tn : Nat → Heap → Prop} {Gd : Nat → Hp → Prop} {n g : Nat} {pz : Nat → Bool} {yv : Nat → V} {vs : List Nat} {s5 : Shared} {Q : VK} {k : Nat}
    (hr : Room k X.A) (R : rSum Q n pz yv Gd) (Y : ReadyG X pins σ vs Xg a go fp tn Gd n g pz yv s5) : wpAny (model X.prog X.w) X.A (call (.builtin "sum") [.ref a]) (EP X pins σ Q) X.xe s5 := by
  obtain ⟨val, rfl, hQ⟩ := R
  obtain ⟨made, pn, isg, here, ep, ew, back⟩ := Y
  refine call_function_tree F.kind_sum F.plain_sum F.entry_sum (F.args_sum1 _) ?_
  unfold Builtin.«sum»
  simp only [List.length_cons, List.length_nil]
  rw [if_neg (by decide)]
  refine wpAny_bind (wpAny_of_eq (show Builtin.Builtins.bindParams "sum" ["start"] 0 { } = pure [none] from rfl) ?_)
  refine wpAny_bind (wpAny_pyIter_gen (isg _ here) ?_)
  refine wpAny_bind (wpAny_mkInt ?_)
  refine wpAny_bind (wpAny_pure ?_)
  simp only [List.forIn_cons, List.forIn_nil]
  refine wpAny_bind (wpAny_bind (wpAny_bind (wpAny_isInstance (T := "int") (b := false) (typeIs_int _ _ _) PySem.sub_int_str ?_)))
  simp only [Bool.false_eq_true, if_false]
  refine wpAny_pure (wpAny_bind (wpAny_bind (wpAny_isInstance (T := "int") (b := false) (typeIs_int _ _ _) sub_int_bytes ?_)))
  simp only [Bool.false_eq_true, if_false]
  refine wpAny_pure (wpAny_bind (wpAny_bind (wpAny_isInstance (T := "int") (b := false) (typeIs_int _ _ _) sub_int_bytearray ?_)))
  simp only [Bool.false_eq_true, if_false]
  refine wpAny_pure (wpAny_pure ?_)
  refine wpAny_bind (wpAny_newObj_type ?_)
  generalize hs6 : ({ s5 with heap := s5.heap.push { cls := .type "list", data := .seq #[.int 0 s5.toks] }, toks := s5.toks + 1 } : Shared) = s6
  have e6 : s6.heap = s5.heap.push { cls := .type "list", data := .seq #[.int 0 s5.toks] } := by rw [← hs6]
  have hS : s6.heap.get? s5.heap.objs.size = some { cls := .type "list", dict := none, data := .seq #[.int 0 s5.toks] 0, slots := #[] } := by rw [e6]; exact Heap.get?_push_size _ rfl
  obtain ⟨ap, hat⟩ := made [s5.heap.objs.size] [(s5.heap.objs.size, _)] s6 rfl (by rw [← hs6]) (by rw [← hs6]) (fun _ _ e => by rw [e6]; exact Heap.get?_push_of_some _ e) (fun p hp => by
    rw [List.mem_singleton.mp hp]
    exact ⟨Nat.le_refl _, hS, fun v z => by cases z⟩)
  have hroom : X.A.in1.depth < recursionLimit := hr.depth
  have z := sum_loopG (A := X.A) (R := fun r s' => match r with | .ok (.ret v) => EP X pins σ Q v s' | .ok _ => False | .error e => X.xe e s') pn ap isg hr.hd hroom _ 0 s6 s5.toks 0 0 (.inl rfl) rfl (Nat.zero_le _) hat hS fun s' i t' c => by
    obtain ⟨H', I', gd⟩ := back _ _ _ c
    exact ⟨.int _, H', I', ⟨t', rfl⟩, hQ i H' gd⟩
  rw [ep, ew] at z
  exact wpAny_pure ⟨plainId_quiet F.plain_sum_loop _, z⟩

/-- the three built-ins -/
structure GxB (X : Cx) (f : Str) (id : String) (r : VK → Nat → (Nat → Bool) → (Nat → V) → (Nat → Hp → Prop) → Prop) : Prop where
  boot : bootBuiltins f = some (.builtin id)
  run : ∀ {pins : List (Addr × Obj)} {σ : L2.St} {Xg : Cx} {a : Addr} {go : Obj} {fp : List Addr} {tn : Nat → Heap → Prop} {Gd : Nat → Hp → Prop} {n g : Nat} {pz : Nat → Bool} {yv : Nat → V} {vs : List Nat} {s5 : Shared} {Q : VK},
    r Q n pz yv Gd → ReadyG X pins σ vs Xg a go fp tn Gd n g pz yv s5 → wpAny (model X.prog X.w) X.A (call (.builtin id) [.ref a]) (EP X pins σ Q) X.xe s5
theorem gx_any {k : Nat} (hr : Room k X.A) : GxB X "any" "any" rAny := ⟨boot_any, fun R Y => run_any hr R Y⟩
theorem gx_all {k : Nat} (hr : Room k X.A) : GxB X "all" "all" rAll := ⟨by decide +kernel, fun R Y => run_all hr R Y⟩
theorem gx_sum {k : Nat} (hr : Room k X.A) : GxB X "sum" "sum" rSum := ⟨by decide +kernel, fun R Y => run_sum hr R Y⟩

def tGxC (wi : TI) (g : TG) (tt : TT) (te : TE) (vs : List Nat) (P : Addr) (r : VK → Nat → (Nat → Bool) → (Nat → V) → (Nat → Hp → Prop) → Prop) : TE := fun σ H Q => tGx wi g tt te vs P (r Q) σ H

/-- any(elt for tg in iter if ..), all, sum -/
theorem pe_gx {k : Nat} {c P : Addr} {f : Str} {id : String} {r : VK → Nat → (Nat → Bool) → (Nat → V) → (Nat → Hp → Prop) → Prop} {elt tg iter : Expr} {ifs : List Expr} {scope : Scope} {own : List (Str × Nat)} {gpos p pos : Pos} {wi : TI} {g : TG} {tt : TT} {te : TE}
    (B : GxB X f id r) (hgl : Gl X f) (hm : X.mg f = none) (hr : Room (k + 1) X.A) (hc : X.calm = true) (hN : X.N.Nodup) (TB : GxR.TabB X.base X.mg c P) (hcode : X.env.code = .ref c) (gs : GxS X.env scope) (ok : BlkOk X.N X.env.scope scope own)
    (hi : PI X tg iter wi)
    (hg : ∀ (A : Around) (s : Shared) (H : Hp) (C : Addr) (cd : Value) (cl : List (Str × Addr)) (fp : List Addr), Room k A → PG (gcx X A s H (genEnv scope cl C cd builtinsNs X.env) fp) tg g)
    (ht : ∀ (A : Around) (s : Shared) (H : Hp) (C : Addr) (cd : Value) (cl : List (Str × Addr)) (fp : List Addr), Room k A → PTs (gcx X A s H (genEnv scope cl C cd builtinsNs X.env) fp) ifs tt)
    (he : ∀ (A : Around) (s : Shared) (H : Hp) (C : Addr) (cd : Value) (cl : List (Str × Addr)) (fp : List Addr), Room k A → PE (gcx X A s H (genEnv scope cl C cd builtinsNs X.env) fp) elt te)
    (hs : ∀ v, genFold iter X.env v = pure v := by intro _; rfl) (hn : f ≠ "__name__" := by decide) (hd : (f == ("__debug__" : Str)) = false := by decide)
    (hst : starEach [.GeneratorExp elt [⟨tg, iter, ifs, 0⟩] scope gpos] X.env = (false, eval (.GeneratorExp elt [⟨tg, iter, ifs, 0⟩] scope gpos) X.env) :: starEach [] X.env := by rfl) :
    PE X (.Call (.Name f p) [.GeneratorExp elt [⟨tg, iter, ifs, 0⟩] scope gpos] [] pos) (tGxC wi g tt te (own.map (·.2)) P r) := by
  refine ⟨fun pins s σ H Q I h => ?_⟩
  refine wpAny_Call_Name_kw (ld_blt I hgl hm B.boot ?_ hn hd)
  refine PyProof.Rows.callWith_builtin1 ?_ hst (by rfl)
  rw [hst]
  show wpAny _ _ (spliced ((false, eval (.GeneratorExp elt [⟨tg, iter, ifs, 0⟩] scope gpos) X.env) :: backTo pos (starEach [] X.env))) _ _ s
  refine Calls.spliced_cons (gx_eval (k := k) hr hc hN TB hcode gs ok hi hg ht he hs I h fun n pz yv Gd Xg a go fp tn g s5 R Y => ?_)
  refine Calls.spliced_nil ?_
  exact B.run R Y
end
end GxI
set_option Elab.async false
set_option linter.all false
set_option maxRecDepth 100000
set_option maxHeartbeats 2000000
/-! A reading by data: what a def's slots hold is told by plain data; expressions and statements are read over that alone. -/
namespace PL
open PySem PySem.Spec PyProof.Rows L2
open LamX (ExtN Tabs TabS)

/-! ### data in the heap -/
def keyD : Key → PyData
  | .inl i => .int i
  | .inr x => .str x
mutual
inductive Da (K : PySem.W.Frag) (H : Hp) : V → PyData → Prop
  | non : Da K H .non .none
  | bl (b : Bool) : Da K H (.bl b) (.bool b)
  | int (i : Int) : Da K H (.int i) (.int i)
  | str (x : Str) : Da K H (.str x) (.str x)
  | lst {a : Addr} {xs : List V} {ds : List PyData} : H a = some (.lst xs) → DaAll K H xs ds → Da K H (.ref a) (.list ds)
  | tup {a : Addr} {xs : List V} {ds : List PyData} : SqT K H a xs → DaAll K H xs ds → Da K H (.ref a) (.tuple ds)
  | dk {a : Addr} {kvs : List (Key × V)} {ds : List PyData} : H a = some (.dK kvs) → DaAll K H (kvs.map (·.2)) ds → Da K H (.ref a) (.dict ((kvs.map fun p => keyD p.1).zip ds))
  | dt {a : Addr} {kvs : List (List Key × V)} {ds : List PyData} : H a = some (.dT kvs) → kvs ≠ [] → DaAll K H (kvs.map (·.2)) ds → Da K H (.ref a) (.dict ((kvs.map fun p => .tuple (p.1.map keyD)).zip ds))
inductive DaAll (K : PySem.W.Frag) (H : Hp) : List V → List PyData → Prop
  | nil : DaAll K H [] []
  | cons {v : V} {vs : List V} {d : PyData} {ds : List PyData} : Da K H v d → DaAll K H vs ds → DaAll K H (v :: vs) (d :: ds)
end
section
variable {K : PySem.W.Frag} {H H' : Hp}
theorem rd_ext (e : ExtN H H') {a : Addr} {o : HO} (ho : ∀ ps, o ≠ .tbl ps) (h : Rd H a o) : Rd H' a o := by
  rcases h with h | ⟨ob, h⟩
  · exact .inl (e _ _ h ho)
  · exact .inr ⟨ob, e _ _ h fun ps z => by cases z⟩
theorem sqL_ext (e : ExtN H H') {a : Addr} {xs : List V} (h : SqL K H a xs) : SqL K H' a xs := by
  rcases h with h | h
  · exact .inl (rd_ext e (fun ps z => by cases z) h)
  · exact .inr h
theorem sqT_ext (e : ExtN H H') {a : Addr} {xs : List V} (h : SqT K H a xs) : SqT K H' a xs := by
  rcases h with h | h
  · exact .inl (rd_ext e (fun ps z => by cases z) h)
  · exact .inr h
mutual
theorem Da.ext (e : ExtN H H') : ∀ {v : V} {d : PyData}, Da K H v d → Da K H' v d
  | _, _, .non => .non
  | _, _, .bl b => .bl b
  | _, _, .int i => .int i
  | _, _, .str x => .str x
  | _, _, .lst h r => .lst (e _ _ h fun ps z => by cases z) (DaAll.ext e r)
  | _, _, .tup h r => .tup (sqT_ext e h) (DaAll.ext e r)
  | _, _, .dk h r => .dk (e _ _ h fun ps z => by cases z) (DaAll.ext e r)
  | _, _, .dt h n r => .dt (e _ _ h fun ps z => by cases z) n (DaAll.ext e r)
theorem DaAll.ext (e : ExtN H H') : ∀ {vs : List V} {ds : List PyData}, DaAll K H vs ds → DaAll K H' vs ds
  | _, _, .nil => .nil
  | _, _, .cons h r => .cons (Da.ext e h) (DaAll.ext e r)
end
theorem DaAll.length : ∀ {vs : List V} {ds : List PyData}, DaAll K H vs ds → vs.length = ds.length
  | _, _, .nil => rfl
  | _, _, .cons _ r => congrArg (· + 1) (DaAll.length r)
theorem DaAll.get : ∀ {vs : List V} {ds : List PyData} {i : Nat} {v : V}, DaAll K H vs ds → vs[i]? = some v → ∃ d, ds[i]? = some d ∧ Da K H v d
  | _, _, _, _, .nil, e => by simp at e
  | _, _, 0, _, .cons h _, e => by simp at e; subst e; exact ⟨_, rfl, h⟩
  | _, _, i + 1, _, .cons _ r, e => by
    obtain ⟨d, h1, h2⟩ := DaAll.get (i := i) r (by simpa using e)
    exact ⟨d, by simpa using h1, h2⟩
theorem DaAll.getD : ∀ {vs : List V} {ds : List PyData} {i : Nat} {d : PyData}, DaAll K H vs ds → ds[i]? = some d → ∃ v, vs[i]? = some v ∧ Da K H v d
  | _, _, _, _, .nil, e => by simp at e
  | _, _, 0, _, .cons h _, e => by simp at e; subst e; exact ⟨_, rfl, h⟩
  | _, _, i + 1, _, .cons _ r, e => by
    obtain ⟨d, h1, h2⟩ := DaAll.getD (i := i) r (by simpa using e)
    exact ⟨d, by simpa using h1, h2⟩
theorem DaAll.append : ∀ {vs ws : List V} {ds es : List PyData}, DaAll K H vs ds → DaAll K H ws es → DaAll K H (vs ++ ws) (ds ++ es)
  | _, _, _, _, .nil, s => s
  | _, _, _, _, .cons h r, s => .cons h (DaAll.append r s)
theorem DaAll.take : ∀ {vs : List V} {ds : List PyData} (n : Nat), DaAll K H vs ds → DaAll K H (vs.take n) (ds.take n)
  | _, _, 0, _ => .nil
  | _, _, _ + 1, .nil => .nil
  | _, _, n + 1, .cons h r => .cons h (DaAll.take n r)
theorem DaAll.drop : ∀ {vs : List V} {ds : List PyData} (n : Nat), DaAll K H vs ds → DaAll K H (vs.drop n) (ds.drop n)
  | _, _, 0, r => r
  | _, _, _ + 1, .nil => .nil
  | _, _, n + 1, .cons _ r => DaAll.drop n r
theorem DaAll.set {v : V} {d : PyData} (h : Da K H v d) : ∀ {vs : List V} {ds : List PyData} (i : Nat), DaAll K H vs ds → DaAll K H (vs.set i v) (ds.set i d)
  | _, _, _, .nil => .nil
  | _, _, 0, .cons _ r => .cons h r
  | _, _, i + 1, .cons q r => .cons q (DaAll.set h i r)
theorem DaAll.reverse {vs : List V} {ds : List PyData} (h : DaAll K H vs ds) : DaAll K H vs.reverse ds.reverse := by
  induction vs generalizing ds with
  | nil => cases h; exact .nil
  | cons v r ih =>
    cases h with
    | cons h1 h2 =>
      rw [List.reverse_cons, List.reverse_cons]
      exact (ih h2).append (.cons h1 .nil)
theorem DaAll.ints : ∀ {vs : List V} (ns : List Int), DaAll K H vs (ns.map .int) → vs = ns.map V.int
  | _, [], .nil => rfl
  | _, n :: r, .cons h t => by
    cases h
    rw [DaAll.ints r t]
    rfl
theorem daAll_ints : ∀ (ns : List Int), DaAll K H (ns.map V.int) (ns.map .int)
  | [] => .nil
  | n :: r => .cons (.int n) (daAll_ints r)

mutual
theorem Da.dp : ∀ {v : V} {d : PyData}, Da K H v d → PyData.plain d = true → Dp K H v d
  | _, _, .non, _ => .non
  | _, _, .bl b, _ => .bl b
  | _, _, .int i, _ => .int i
  | _, _, .str x, _ => .str x
  | _, _, .lst h r, p => .lst (SqL.of h) (DaAll.dp r (by simpa [PyData.plain] using p))
  | _, _, .tup h r, p => .tup h (DaAll.dp r (by simpa [PyData.plain] using p))
  | _, _, .dk _ _, p => by simp [PyData.plain] at p
  | _, _, .dt _ _ _, p => by simp [PyData.plain] at p
theorem DaAll.dp : ∀ {vs : List V} {ds : List PyData}, DaAll K H vs ds → PyData.plainAll ds = true → DpAll K H vs ds
  | _, _, .nil, _ => .nil
  | _, _, .cons h r, p => by
    simp only [PyData.plainAll, Bool.and_eq_true] at p
    exact .cons (Da.dp h p.1) (DaAll.dp r p.2)
end
end

/-! ### what stands apart -/
def hide (O : List Addr) (H : Hp) : Hp := fun b => if b ∈ O then none else H b
section
variable {O : List Addr} {H H' : Hp} {a b : Addr} {o : HO}
theorem hide_in (h : b ∈ O) : hide O H b = none := if_pos h
theorem hide_out (h : b ∉ O) : hide O H b = H b := if_neg h
theorem hide_some (h : hide O H b = some o) : b ∉ O ∧ H b = some o := by
  by_cases hb : b ∈ O
  · rw [hide_in hb] at h
    cases h
  · rw [hide_out hb] at h
    exact ⟨hb, h⟩
theorem hide_nil : hide [] H = H := by
  funext b
  exact if_neg (by simp)
/-- a new object of ours -/
theorem hide_new (h : H a = none) : hide (a :: O) (upd H a o) = hide O H := by
  funext b
  by_cases hb : b = a
  · subst hb
    rw [hide_in (List.mem_cons_self)]
    unfold hide
    split
    · rfl
    · exact h.symm
  · by_cases hO : b ∈ O
    · rw [hide_in hO, hide_in (List.mem_cons_of_mem _ hO)]
    · rw [hide_out hO, hide_out (fun z => (List.mem_cons.mp z).elim hb hO), upd_ne hb]
/-- an object of ours is written -/
theorem hide_upd (h : a ∈ O) : hide O (upd H a o) = hide O H := by
  funext b
  by_cases hO : b ∈ O
  · rw [hide_in hO, hide_in hO]
  · rw [hide_out hO, hide_out hO, upd_ne (fun z => hO (by rw [z]; exact h))]
theorem ext_hide (e : ∀ b o, b ∉ O → H b = some o → (∀ ps, o ≠ .tbl ps) → H' b = some o) : ExtN (hide O H) (hide O H') := fun b o h n => by
  obtain ⟨h1, h2⟩ := hide_some h
  rw [hide_out h1]
  exact e b o h1 h2 n
theorem ext_sub {O' : List Addr} (h : ∀ b ∈ O', b ∈ O) : ExtN (hide O H) (hide O' H) := fun b o e _ => by
  obtain ⟨h1, h2⟩ := hide_some e
  rw [hide_out (fun z => h1 (h b z))]
  exact h2
end

/-! ### slots -/
/-- where the tables of code objects stand: of generator expressions; of lambdas, with their names -/
structure Tb where
  tg : List Addr
  tl : List (Addr × Str)
  dc : List Addr := []
structure TOk (T : Tb) (H : Hp) : Prop where
  g : ∀ P ∈ T.tg, GxR.TabG H P
  l : Tabs T.tl H
theorem TOk.keep {T : Tb} {H H' : Hp} (t : TOk T H) (e : ∀ b o, H b = some o → H' b = some o) : TOk T H' :=
  ⟨fun P hP => by obtain ⟨ps, h1, h2⟩ := t.g P hP; exact ⟨ps, e _ _ h1, h2⟩, t.l.ext e⟩

inductive Sl where
  | un
  | sh (d : PyData)
  | ol (ds : List PyData)
  | ok (kvs : List (Key × PyData))
  | ot (kvs : List (List Key × PyData))
  | dice
  | scr (ns : List Int)
abbrev En := List Sl
def Sl.owned : Sl → Bool
  | .un => false
  | .sh _ => false
  | .dice => false
  | .scr _ => false
  | _ => true

def Own (D0 O : List Addr) (a : Addr) : Prop := a ∈ O ∧ a ∉ D0
def SlOk (K : PySem.W.Frag) (D0 O : List Addr) (H : Hp) : Sl → Option V → Prop
  | .un, _ => True
  | .sh d, v => ∃ x, v = some x ∧ Da K (hide O H) x d
  | .ol ds, v => ∃ a vs, v = some (.ref a) ∧ Own D0 O a ∧ H a = some (.lst vs) ∧ DaAll K (hide O H) vs ds
  | .ok kvs, v => ∃ a vs, v = some (.ref a) ∧ Own D0 O a ∧ H a = some (.dK vs) ∧ vs.map (·.1) = kvs.map (·.1) ∧ DaAll K (hide O H) (vs.map (·.2)) (kvs.map (·.2))
  | .ot kvs, v => ∃ a vs, v = some (.ref a) ∧ Own D0 O a ∧ H a = some (.dT vs) ∧ vs.map (·.1) = kvs.map (·.1) ∧ DaAll K (hide O H) (vs.map (·.2)) (kvs.map (·.2))
  | .dice, v => ∃ a, v = some (.ref a) ∧ a ∈ D0
  | .scr ns, v => ∃ a, v = some (.ref a) ∧ SqL K (hide O H) a (ns.map V.int)

/-- Hb: what stood; O: what is ours alone; fl: ours, in flight -/
structure Gh where
  Hb : Hp
  O : List Addr
  fl : List (Addr × HO)
structure Rep (T : Tb) (K : PySem.W.Frag) (G : Gh) (ρ : En) (σ : L2.St) (H : Hp) : Prop where
  len : ρ.length = σ.length
  slot : ∀ (i : Nat) (s : Sl), ρ[i]? = some s → ∃ v, σ[i]? = some v ∧ SlOk K T.dc G.O H s v
  sep : ∀ (i j : Nat) (s t : Sl) (a : Addr), i ≠ j → ρ[i]? = some s → ρ[j]? = some t → s.owned = true → t.owned = true → σ[i]? = some (some (.ref a)) → σ[j]? = some (some (.ref a)) → False
  tab : TOk T H
  ext : ExtN G.Hb (hide G.O H)
  dom : ∀ a ∈ G.O, ∃ o, H a = some o ∧ ∀ ps, o ≠ .tbl ps
  fly : ∀ p ∈ G.fl, p.1 ∈ G.O ∧ H p.1 = some p.2
  dcs : ∀ a ∈ T.dc, a ∈ G.O ∧ (∃ x y z, H a = some (.lst [.int x, .int y, .int z])) ∧ ∀ q ∈ G.fl, q.1 ≠ a

section
variable {T : Tb} {K : PySem.W.Frag} {G : Gh} {ρ : En} {σ : L2.St} {H H' : Hp}
theorem SlOk.ext {D0 O : List Addr} {s : Sl} {v : Option V} (h : SlOk K D0 O H s v) (e : ExtN (hide O H) (hide O H')) (ho : ∀ a ∈ O, a ∉ D0 → H' a = H a) : SlOk K D0 O H' s v := by
  cases s with
  | un => trivial
  | sh d => obtain ⟨x, h1, h2⟩ := h; exact ⟨x, h1, h2.ext e⟩
  | ol ds => obtain ⟨a, vs, h1, h2, h3, h4⟩ := h; exact ⟨a, vs, h1, h2, (ho a h2.1 h2.2).trans h3, h4.ext e⟩
  | ok ds => obtain ⟨a, vs, h1, h2, h3, h4, h5⟩ := h; exact ⟨a, vs, h1, h2, (ho a h2.1 h2.2).trans h3, h4, h5.ext e⟩
  | ot ds => obtain ⟨a, vs, h1, h2, h3, h4, h5⟩ := h; exact ⟨a, vs, h1, h2, (ho a h2.1 h2.2).trans h3, h4, h5.ext e⟩
  | dice => exact h
  | scr ns => obtain ⟨a, h1, h2⟩ := h; exact ⟨a, h1, sqL_ext e h2⟩
theorem Rep.stepD (R : Rep T K G ρ σ H) (e : ExtN (hide G.O H) (hide G.O H')) (ho : ∀ a ∈ G.O, a ∉ T.dc → H' a = H a) (hd : ∀ a ∈ T.dc, ∃ x y z, H' a = some (.lst [.int x, .int y, .int z])) (t : TOk T H') : Rep T K G ρ σ H' where
  len := R.len
  slot i s h := by obtain ⟨v, h1, h2⟩ := R.slot i s h; exact ⟨v, h1, h2.ext e ho⟩
  sep := R.sep
  tab := t
  ext := R.ext.trans e
  dom a ha := by
    by_cases z : a ∈ T.dc
    · obtain ⟨x, y, z, h⟩ := hd a z; exact ⟨_, h, fun ps e => by cases e⟩
    · rw [ho a ha z]; exact R.dom a ha
  fly p hp := by obtain ⟨h1, h2⟩ := R.fly p hp; exact ⟨h1, (ho _ h1 fun z => (R.dcs _ z).2.2 p hp rfl).trans h2⟩
  dcs a ha := ⟨(R.dcs a ha).1, hd a ha, (R.dcs a ha).2.2⟩
theorem Rep.step (R : Rep T K G ρ σ H) (e : ExtN (hide G.O H) (hide G.O H')) (ho : ∀ a ∈ G.O, H' a = H a) (t : TOk T H') : Rep T K G ρ σ H' :=
  R.stepD e (fun a ha _ => ho a ha) (fun a ha => by obtain ⟨h1, h2, _⟩ := R.dcs a ha; rw [ho a h1]; exact h2) t
/-- objects are laid -/
theorem Rep.alloc (R : Rep T K G ρ σ H) (e : ∀ b o, H b = some o → H' b = some o) : Rep T K G ρ σ H' :=
  R.step (ext_hide fun b o _ h _ => e b o h) (fun a ha => by obtain ⟨o, h, _⟩ := R.dom a ha; rw [h, e _ _ h]) (R.tab.keep e)
theorem Rep.rebase (R : Rep T K G ρ σ H) : Rep T K ⟨hide G.O H, G.O, G.fl⟩ ρ σ H := ⟨R.len, R.slot, R.sep, R.tab, ExtN.refl _, R.dom, R.fly, R.dcs⟩
theorem Rep.unbase {Hb : Hp} (R : Rep T K ⟨Hb, G.O, G.fl⟩ ρ σ H) (e : ExtN G.Hb Hb) : Rep T K G ρ σ H := ⟨R.len, R.slot, R.sep, R.tab, e.trans R.ext, R.dom, R.fly, R.dcs⟩
end

/-! ### expressions -/
/-- an exception: its class, its field -/
structure Exn where
  cls : Addr
  fld : Option (Str × PyData)
def ExR (K : PySem.W.Frag) (x : Exn) (cls : Value) (dd : Option Addr) (H : Hp) : Prop := cls = .ref x.cls ∧ match x.fld with
  | none => dd = none
  | some (f, d) => ∃ a v, dd = some a ∧ H a = some (.xd [(f, v)]) ∧ Da K H v d
abbrev PW := En → (PyData → Prop) → (Exn → Prop) → Prop
abbrev PWB := En → (Bool → Prop) → (Exn → Prop) → Prop
abbrev PWs := En → (List PyData → Prop) → (Exn → Prop) → Prop

section
variable (T : Tb) (K : PySem.W.Frag) (W : WX)
/-- what an exception does -/
def exOut (G : Gh) (ρ : En) (σ : L2.St) : Exn → Prop := fun x => ∀ H' cls dd, Rep T K G ρ σ H' → ExR K x cls dd (hide G.O H') → W cls dd σ H'
def lift (w : PW) : TE := fun σ H Q => ∃ G ρ, Rep T K G ρ σ H ∧ w ρ (fun d => ∀ v H', Rep T K G ρ σ H' → Da K (hide G.O H') v d → Q v H') (exOut T K W G ρ σ)
def liftB (w : PWB) : TT := fun σ H Q => ∃ G ρ, Rep T K G ρ σ H ∧ w ρ (fun b => ∀ H', Rep T K G ρ σ H' → Q b H') (exOut T K W G ρ σ)
def liftA (w : PWs) : TA := fun σ H Q => ∃ G ρ, Rep T K G ρ σ H ∧ w ρ (fun ds => ∀ vs H', Rep T K G ρ σ H' → DaAll K (hide G.O H') vs ds → Q vs H') (exOut T K W G ρ σ)
/-- a new object, ours -/
def Apt (ρ : En) (σ : L2.St) (a : Addr) : Prop := ∀ (i : Nat) (s : Sl), ρ[i]? = some s → s.owned = true → σ[i]? ≠ some (some (.ref a))
/-- a new list, ours -/
def liftF (w : PW) : TE := fun σ H Q => ∃ G ρ, Rep T K G ρ σ H ∧ w ρ (fun d => ∀ a vs ds H', d = .list ds → Rep T K ⟨G.Hb, a :: G.O, G.fl⟩ ρ σ H' → a ∉ G.O → Apt ρ σ a → H' a = some (.lst vs) → DaAll K (hide (a :: G.O) H') vs ds → Q (.ref a) H') (exOut T K W G ρ σ)
/-- a value, or a list or dict of ours that is read only -/
inductive Top (D0 O : List Addr) (H : Hp) : V → PyData → Prop
  | sh {v : V} {d : PyData} : Da K (hide O H) v d → Top D0 O H v d
  | ol {a : Addr} {vs : List V} {ds : List PyData} : a ∈ O → H a = some (.lst vs) → DaAll K (hide O H) vs ds → a ∉ D0 → Top D0 O H (.ref a) (.list ds)
  | ok {a : Addr} {vs : List (Key × V)} {ds : List PyData} : a ∈ O → H a = some (.dK vs) → DaAll K (hide O H) (vs.map (·.2)) ds → a ∉ D0 → Top D0 O H (.ref a) (.dict ((vs.map fun p => keyD p.1).zip ds))
  | ot {a : Addr} {vs : List (List Key × V)} {ds : List PyData} : a ∈ O → H a = some (.dT vs) → DaAll K (hide O H) (vs.map (·.2)) ds → a ∉ D0 → Top D0 O H (.ref a) (.dict ((vs.map fun p => .tuple (p.1.map keyD)).zip ds))
def liftR (w : PW) : TE := fun σ H Q => ∃ G ρ, Rep T K G ρ σ H ∧ w ρ (fun d => ∀ v H', Rep T K G ρ σ H' → Top K T.dc G.O H' v d → Q v H') (exOut T K W G ρ σ)
end
def Mono {α : Type} (w : En → (α → Prop) → (Exn → Prop) → Prop) : Prop := ∀ ρ Q Q' E E', (∀ d, Q d → Q' d) → (∀ x, E x → E' x) → w ρ Q E → w ρ Q' E'

structure DE (T : Tb) (X : Cx) (W : WX) (e : Expr) (w : PW) : Prop where
  pe : PE X e (lift T X.K W w)
  mono : Mono w
structure DT (T : Tb) (X : Cx) (W : WX) (e : Expr) (w : PWB) : Prop where
  pt : PT X e (liftB T X.K W w)
  mono : Mono w
structure DA (T : Tb) (X : Cx) (W : WX) (es : List Expr) (w : PWs) : Prop where
  pa : PA X es (liftA T X.K W w)
  mono : Mono w
structure DF (T : Tb) (X : Cx) (W : WX) (e : Expr) (w : PW) : Prop where
  pe : PE X e (liftF T X.K W w)
  mono : Mono w

structure DR (T : Tb) (X : Cx) (W : WX) (e : Expr) (w : PW) : Prop where
  pe : PE X e (liftR T X.K W w)
  mono : Mono w

theorem pe_mono {X : Cx} {e : Expr} {t t' : TE} (h : PE X e t) (i : ∀ σ H Q, t' σ H Q → t σ H Q) : PE X e t' := ⟨fun pins s σ H Q I q => h.run pins s σ H Q I (i _ _ _ q)⟩
theorem pt_mono {X : Cx} {e : Expr} {t t' : TT} (h : PT X e t) (i : ∀ σ H Q, t' σ H Q → t σ H Q) : PT X e t' := ⟨fun pins s σ H Q I q => h.run pins s σ H Q I (i _ _ _ q)⟩

section
variable {T : Tb} {X : Cx} {W : WX} {K : PySem.W.Frag} {G : Gh} {ρ : En} {σ : L2.St} {H : Hp}
/-- going on: what is behind knows how the heap grew -/
theorem lift_intro {w : PW} {R : VK} (m : Mono w) (r : Rep T K G ρ σ H)
    (h : w ρ (fun d => ∀ v H', Rep T K G ρ σ H' → ExtN (hide G.O H) (hide G.O H') → Da K (hide G.O H') v d → R v H') (exOut T K W G ρ σ)) : lift T K W w σ H R :=
  ⟨⟨hide G.O H, G.O, G.fl⟩, ρ, r.rebase, m _ _ _ _ _ (fun d hd v H' r' a => hd v H' (r'.unbase r.ext) r'.ext a) (fun x hx H' cls dd r' q => hx H' cls dd (r'.unbase r.ext) q) h⟩
/-- what is in flight stays -/
theorem Rep.fly1 {a : Addr} {o : HO} (r : Rep T K G ρ σ H) (ha : a ∈ G.O) (h : H a = some o) (nd : a ∉ T.dc) : Rep T K ⟨G.Hb, G.O, (a, o) :: G.fl⟩ ρ σ H :=
  ⟨r.len, r.slot, r.sep, r.tab, r.ext, r.dom, fun p hp => by
    rcases List.mem_cons.mp hp with e | hp
    · rw [e]; exact ⟨ha, h⟩
    · exact r.fly p hp, fun b hb => ⟨(r.dcs b hb).1, (r.dcs b hb).2.1, fun q hq => by
    rcases List.mem_cons.mp hq with e | hq
    · rw [e]; exact fun z => nd (by rw [show a = b from z]; exact hb)
    · exact (r.dcs b hb).2.2 q hq⟩⟩
theorem Rep.land {p : Addr × HO} {Hb : Hp} {O : List Addr} {fl : List (Addr × HO)} (r : Rep T K ⟨Hb, O, p :: fl⟩ ρ σ H) : Rep T K ⟨Hb, O, fl⟩ ρ σ H ∧ H p.1 = some p.2 :=
  ⟨⟨r.len, r.slot, r.sep, r.tab, r.ext, r.dom, fun q hq => r.fly q (List.mem_cons_of_mem _ hq), fun b hb => ⟨(r.dcs b hb).1, (r.dcs b hb).2.1, fun q hq => (r.dcs b hb).2.2 q (List.mem_cons_of_mem _ hq)⟩⟩, (r.fly p List.mem_cons_self).2⟩
theorem liftR_intro {w : PW} {R : VK} (m : Mono w) (r : Rep T K G ρ σ H)
    (h : w ρ (fun d => ∀ v H', Rep T K G ρ σ H' → ExtN (hide G.O H) (hide G.O H') → Top K T.dc G.O H' v d → R v H') (exOut T K W G ρ σ)) : liftR T K W w σ H R :=
  ⟨⟨hide G.O H, G.O, G.fl⟩, ρ, r.rebase, m _ _ _ _ _ (fun d hd v H' r' a => hd v H' (r'.unbase r.ext) r'.ext a) (fun x hx H' cls dd r' q => hx H' cls dd (r'.unbase r.ext) q) h⟩
theorem liftF_intro {w : PW} {R : VK} (m : Mono w) (r : Rep T K G ρ σ H)
    (h : w ρ (fun d => ∀ a vs ds H', d = .list ds → Rep T K ⟨G.Hb, a :: G.O, G.fl⟩ ρ σ H' → ExtN (hide G.O H) (hide (a :: G.O) H') → a ∉ G.O → Apt ρ σ a → H' a = some (.lst vs) → DaAll K (hide (a :: G.O) H') vs ds → R (.ref a) H') (exOut T K W G ρ σ)) : liftF T K W w σ H R :=
  ⟨⟨hide G.O H, G.O, G.fl⟩, ρ, r.rebase, m _ _ _ _ _ (fun d hd a vs ds H' e r' na ap x y => hd a vs ds H' e (r'.unbase (G := ⟨G.Hb, a :: G.O, G.fl⟩) r.ext) r'.ext na ap x y) (fun x hx H' cls dd r' q => hx H' cls dd (r'.unbase r.ext) q) h⟩
theorem liftB_intro {w : PWB} {R : Bool → Hp → Prop} (m : Mono w) (r : Rep T K G ρ σ H)
    (h : w ρ (fun b => ∀ H', Rep T K G ρ σ H' → ExtN (hide G.O H) (hide G.O H') → R b H') (exOut T K W G ρ σ)) : liftB T K W w σ H R :=
  ⟨⟨hide G.O H, G.O, G.fl⟩, ρ, r.rebase, m _ _ _ _ _ (fun d hd H' r' => hd H' (r'.unbase r.ext) r'.ext) (fun x hx H' cls dd r' q => hx H' cls dd (r'.unbase r.ext) q) h⟩
theorem liftA_intro {w : PWs} {R : List V → Hp → Prop} (m : Mono w) (r : Rep T K G ρ σ H)
    (h : w ρ (fun ds => ∀ vs H', Rep T K G ρ σ H' → ExtN (hide G.O H) (hide G.O H') → DaAll K (hide G.O H') vs ds → R vs H') (exOut T K W G ρ σ)) : liftA T K W w σ H R :=
  ⟨⟨hide G.O H, G.O, G.fl⟩, ρ, r.rebase, m _ _ _ _ _ (fun d hd vs H' r' a => hd vs H' (r'.unbase r.ext) r'.ext a) (fun x hx H' cls dd r' q => hx H' cls dd (r'.unbase r.ext) q) h⟩
end
end PL
set_option Elab.async false
set_option linter.all false
set_option maxRecDepth 100000
set_option maxHeartbeats 2000000
namespace PL
open PySem PySem.Spec PyProof.Rows L2
open LamX (ExtN Tabs TabS)
section
variable {T : Tb} {K : PySem.W.Frag} {G : Gh} {ρ : En} {σ : L2.St} {H H' : Hp}
theorem Rep.drop {a : Addr} (r0 : Rep T K G ρ σ H) (r : Rep T K ⟨G.Hb, a :: G.O, G.fl⟩ ρ σ H') (ap : Apt ρ σ a) : Rep T K G ρ σ H' where
  len := r.len
  slot i s h := by
    obtain ⟨v, h1, h2⟩ := r.slot i s h
    have e : ExtN (hide (a :: G.O) H') (hide G.O H') := ext_sub fun b hb => List.mem_cons_of_mem _ hb
    have mem : ∀ b, s.owned = true → v = some (.ref b) → Own T.dc (a :: G.O) b → Own T.dc G.O b := fun b ho ev hb => ⟨by
      rcases List.mem_cons.mp hb.1 with z | z
      · rw [ev, z] at h1
        exact absurd h1 (ap i s h ho)
      · exact z, hb.2⟩
    refine ⟨v, h1, ?_⟩
    cases s with
    | un => trivial
    | sh d => obtain ⟨x, h3, h4⟩ := h2; exact ⟨x, h3, h4.ext e⟩
    | ol ds => obtain ⟨b, vs, h3, h4, h5, h6⟩ := h2; exact ⟨b, vs, h3, mem b rfl h3 h4, h5, h6.ext e⟩
    | ok ds => obtain ⟨b, vs, h3, h4, h5, h6, h7⟩ := h2; exact ⟨b, vs, h3, mem b rfl h3 h4, h5, h6, h7.ext e⟩
    | ot ds => obtain ⟨b, vs, h3, h4, h5, h6, h7⟩ := h2; exact ⟨b, vs, h3, mem b rfl h3 h4, h5, h6, h7.ext e⟩
    | dice => exact h2
    | scr ns => obtain ⟨b, h3, h4⟩ := h2; exact ⟨b, h3, sqL_ext e h4⟩
  sep := r.sep
  tab := r.tab
  ext := r.ext.trans (ext_sub fun b hb => List.mem_cons_of_mem _ hb)
  dom b hb := r.dom b (List.mem_cons_of_mem _ hb)
  fly p hp := ⟨(r0.fly p hp).1, (r.fly p hp).2⟩
  dcs b hb := ⟨(r0.dcs b hb).1, (r.dcs b hb).2⟩
/-- a new list is laid, ours -/
theorem Rep.own {a : Addr} {o : HO} (r : Rep T K G ρ σ H) (h : H a = none) (ho : ∀ ps, o ≠ .tbl ps) : Rep T K ⟨G.Hb, a :: G.O, G.fl⟩ ρ σ (upd H a o) ∧ hide (a :: G.O) (upd H a o) = hide G.O H ∧ a ∉ G.O ∧ Apt ρ σ a := by
  have na : a ∉ G.O := fun z => by obtain ⟨o, e, _⟩ := r.dom a z; rw [h] at e; cases e
  have eh : hide (a :: G.O) (upd H a o) = hide G.O H := hide_new h
  have at_ : ∀ b ∈ G.O, upd H a o b = H b := fun b hb => upd_ne fun z => na (by rw [← z]; exact hb)
  have al : ∀ b o', H b = some o' → upd H a o b = some o' := fun b o' e => by rw [upd_ne (ne_of_none e h)]; exact e
  refine ⟨⟨r.len, fun i s hs => ?_, r.sep, r.tab.keep al, by rw [eh]; exact r.ext, fun b hb => ?_, fun p hp => ?_, fun b hb => ⟨List.mem_cons_of_mem _ (r.dcs b hb).1, by rw [at_ b (r.dcs b hb).1]; exact (r.dcs b hb).2.1, (r.dcs b hb).2.2⟩⟩, eh, na, fun i s hs hw e => ?_⟩
  · obtain ⟨v, h1, h2⟩ := r.slot i s hs
    refine ⟨v, h1, ?_⟩
    cases s with
    | un => trivial
    | sh d => obtain ⟨x, h3, h4⟩ := h2; exact ⟨x, h3, by rw [eh]; exact h4⟩
    | ol ds => obtain ⟨b, vs, h3, h4, h5, h6⟩ := h2; exact ⟨b, vs, h3, ⟨List.mem_cons_of_mem _ h4.1, h4.2⟩, (at_ b h4.1).trans h5, by rw [eh]; exact h6⟩
    | ok ds => obtain ⟨b, vs, h3, h4, h5, h6, h7⟩ := h2; exact ⟨b, vs, h3, ⟨List.mem_cons_of_mem _ h4.1, h4.2⟩, (at_ b h4.1).trans h5, h6, by rw [eh]; exact h7⟩
    | ot ds => obtain ⟨b, vs, h3, h4, h5, h6, h7⟩ := h2; exact ⟨b, vs, h3, ⟨List.mem_cons_of_mem _ h4.1, h4.2⟩, (at_ b h4.1).trans h5, h6, by rw [eh]; exact h7⟩
    | dice => exact h2
    | scr ns => obtain ⟨b, h3, h4⟩ := h2; exact ⟨b, h3, by rw [eh]; exact h4⟩
  · rcases List.mem_cons.mp hb with z | z
    · rw [z, upd_same]; exact ⟨o, rfl, ho⟩
    · rw [at_ b z]; exact r.dom b z
  · obtain ⟨h1, h2⟩ := r.fly p hp
    exact ⟨List.mem_cons_of_mem _ h1, (at_ _ h1).trans h2⟩
  · obtain ⟨v, h1, h2⟩ := r.slot i s hs
    rw [e] at h1
    cases h1
    have : a ∈ G.O := by
      cases s with
      | un => cases hw
      | sh d => cases hw
      | ol ds => obtain ⟨b, vs, h3, h4, _⟩ := h2; cases h3; exact h4.1
      | ok ds => obtain ⟨b, vs, h3, h4, _⟩ := h2; cases h3; exact h4.1
      | ot ds => obtain ⟨b, vs, h3, h4, _⟩ := h2; cases h3; exact h4.1
      | dice => obtain ⟨b, h3, h4⟩ := h2; cases h3; exact (r.dcs _ h4).1
      | scr ns => cases hw
    exact na this
theorem Top.ext {D0 O : List Addr} {v : V} {d : PyData} (h : Top K D0 O H v d) (e : ExtN (hide O H) (hide O H')) (hv : ∀ a, v = .ref a → a ∈ O → a ∉ D0 → H' a = H a) : Top K D0 O H' v d := by
  cases h with
  | sh h => exact .sh (h.ext e)
  | ol h1 h2 h3 h4 => exact .ol h1 ((hv _ rfl h1 h4).trans h2) (h3.ext e) h4
  | ok h1 h2 h3 h4 => exact .ok h1 ((hv _ rfl h1 h4).trans h2) (h3.ext e) h4
  | ot h1 h2 h3 h4 => exact .ot h1 ((hv _ rfl h1 h4).trans h2) (h3.ext e) h4
/-- without regard to whose it is -/
theorem Top.da {D0 O : List Addr} {v : V} {ds : List PyData} (h : Top K D0 O H v (.list ds)) : ∃ a vs, v = .ref a ∧ H a = some (.lst vs) ∧ DaAll K (hide O H) vs ds := by
  cases h with
  | sh h => cases h with
    | lst h1 h2 => exact ⟨_, _, rfl, (hide_some h1).2, h2⟩
  | ol h1 h2 h3 => exact ⟨_, _, rfl, h2, h3⟩
theorem Da.whole {O : List Addr} {v : V} {d : PyData} (h : Da K (hide O H) v d) : Da K H v d := h.ext fun b o e _ => (hide_some e).2
theorem DaAll.whole {O : List Addr} {vs : List V} {ds : List PyData} (h : DaAll K (hide O H) vs ds) : DaAll K H vs ds := h.ext fun b o e _ => (hide_some e).2
theorem Top.whole {D0 O : List Addr} {v : V} {d : PyData} (h : Top K D0 O H v d) (p : PyData.plain d = true) : Da K H v d := by
  cases h with
  | sh h => exact h.whole
  | ol h1 h2 h3 => exact .lst h2 h3.whole
  | ok h1 h2 h3 => simp [PyData.plain] at p
  | ot h1 h2 h3 => simp [PyData.plain] at p
end

section
variable {T : Tb} {X : Cx} {W : WX} {pos : Pos} {e a b : Expr}
/-! ### names, constants -/
def wVar (i : Nat) : PW := fun ρ Q _ => match ρ[i]? with
  | some (.sh d) => Q d
  | _ => False
def wRd (i : Nat) : PW := fun ρ Q _ => match ρ[i]? with
  | some (.sh d) => Q d
  | some (.ol ds) => Q (.list ds)
  | some (.ok kvs) => Q (.dict (kvs.map fun p => (keyD p.1, p.2)))
  | some (.ot kvs) => Q (.dict (kvs.map fun p => (.tuple (p.1.map keyD), p.2)))
  | _ => False
def wC (d : PyData) : PW := fun _ Q _ => Q d
theorem mono_C {d : PyData} : Mono (wC d) := fun _ _ _ _ _ hq _ h => hq _ h
theorem mono_var {i : Nat} : Mono (wVar i) := fun ρ Q Q' E E' hq _ h => by
  unfold wVar at h ⊢
  split at h
  · exact hq _ h
  · exact h
theorem mono_rd {i : Nat} : Mono (wRd i) := fun ρ Q Q' E E' hq _ h => by
  unfold wRd at h ⊢
  split at h
  · exact hq _ h
  · exact hq _ h
  · exact hq _ h
  · exact hq _ h
  · exact h
theorem de_var (i : Nat) (p : PE X e (tVar i)) : DE T X W e (wVar i) := ⟨pe_mono p fun σ H Q h => by
  obtain ⟨G, ρ, r, h⟩ := h
  unfold wVar at h
  split at h
  · rename_i d hd
    obtain ⟨v, h1, x, h2, h3⟩ := r.slot i _ hd
    rw [h2] at h1
    exact ⟨x, h1, h x H r h3⟩
  · exact h.elim, mono_var⟩
theorem zip_map {α : Type} (f : α → PyData) : ∀ (vs : List (α × V)) (kvs : List (α × PyData)), vs.map (·.1) = kvs.map (·.1) → (vs.map fun p => f p.1).zip (kvs.map (·.2)) = kvs.map fun p => (f p.1, p.2)
  | [], [], _ => rfl
  | [], _ :: _, h => by cases h
  | _ :: _, [], h => by cases h
  | p :: r, q :: t, h => by
    injection h with h1 h2
    simp only [List.map_cons, List.zip_cons_cons, h1, zip_map f r t h2]
theorem dr_var (i : Nat) (p : PE X e (tVar i)) : DR T X W e (wRd i) := ⟨pe_mono p fun σ H Q h => by
  obtain ⟨G, ρ, r, h⟩ := h
  unfold wRd at h
  split at h
  · rename_i d hd
    obtain ⟨v, h1, x, h2, h3⟩ := r.slot i _ hd
    rw [h2] at h1
    exact ⟨x, h1, h x H r (.sh h3)⟩
  · rename_i d hd
    obtain ⟨v, h1, a, vs, h2, h3, h4, h5⟩ := r.slot i _ hd
    rw [h2] at h1
    exact ⟨_, h1, h _ H r (.ol h3.1 h4 h5 h3.2)⟩
  · rename_i d hd
    obtain ⟨v, h1, a, vs, h2, h3, h4, h5, h6⟩ := r.slot i _ hd
    rw [h2] at h1
    refine ⟨_, h1, h _ H r ?_⟩
    rw [← zip_map keyD vs d h5]
    exact .ok h3.1 h4 h6 h3.2
  · rename_i d hd
    obtain ⟨v, h1, a, vs, h2, h3, h4, h5, h6⟩ := r.slot i _ hd
    rw [h2] at h1
    refine ⟨_, h1, h _ H r ?_⟩
    rw [← zip_map (fun k => .tuple (k.map keyD)) vs d h5]
    exact .ot h3.1 h4 h6 h3.2
  · exact h.elim, mono_rd⟩
theorem de_c {v : V} {d : PyData} (p : PE X e (tC v)) (h : ∀ H, Da X.K H v d) : DE T X W e (wC d) := ⟨pe_mono p fun σ H Q q => by
  obtain ⟨G, ρ, r, q⟩ := q
  exact q v H r (h _), mono_C⟩
theorem de_int {i j} : DE T X W (.Constant (.int i) j pos) (wC (.int i)) := de_c pe_int fun _ => .int i
theorem de_bl {b j} : DE T X W (.Constant (.bool b) j pos) (wC (.bool b)) := de_c pe_bl fun _ => .bl b
theorem de_non {j} : DE T X W (.Constant .none j pos) (wC .none) := de_c pe_non fun _ => .non
theorem de_str {x j} : DE T X W (.Constant (.str x) j pos) (wC (.str x)) := de_c pe_str fun _ => .str x
/-! ### from one to the other -/
theorem dr_of {w : PW} (h : DE T X W e w) : DR T X W e w := ⟨pe_mono h.pe fun σ H Q q => by
  obtain ⟨G, ρ, r, q⟩ := q
  exact ⟨G, ρ, r, h.mono _ _ _ _ _ (fun d hd v H' r' a => hd v H' r' (.sh a)) (fun _ z => z) q⟩, h.mono⟩
def wL (w : PW) : PW := fun ρ Q E => w ρ (fun d => match d with | .list ds => Q (.list ds) | _ => False) E
theorem mono_L {w : PW} (m : Mono w) : Mono (wL w) := fun ρ Q Q' E E' hq he h => m _ _ _ _ _ (fun d hd => by cases d <;> first | exact hq _ hd | exact hd) he h
theorem de_fresh {w : PW} (h : DF T X W e w) : DE T X W e w := ⟨pe_mono h.pe fun σ H Q q => by
  obtain ⟨G, ρ, r, q⟩ := q
  refine ⟨G, ρ, r, h.mono _ _ _ _ _ (fun d hd a vs ds H' ed r' na ap h1 h2 => ?_) (fun _ z => z) q⟩
  subst ed
  exact hd _ H' (r.drop r' ap) (.lst (by rw [hide_out na]; exact h1) (h2.ext (ext_sub fun b hb => List.mem_cons_of_mem _ hb))), h.mono⟩
/-! ### two operands -/
def w2 (f : PyData → PyData → (PyData → Prop) → Prop) (wa wb : PW) : PW := fun ρ Q E => wa ρ (fun x => wb ρ (fun y => f x y Q) E) E
def MonoF (f : PyData → PyData → (PyData → Prop) → Prop) : Prop := ∀ x y Q Q', (∀ d, Q d → Q' d) → f x y Q → f x y Q'
theorem mono_2 {f : PyData → PyData → (PyData → Prop) → Prop} {wa wb : PW} (mf : MonoF f) (ma : Mono wa) (mb : Mono wb) : Mono (w2 f wa wb) := fun ρ Q Q' E E' hq he h =>
  ma _ _ _ _ _ (fun x hx => mb _ _ _ _ _ (fun y hy => mf _ _ _ _ hq hy) he hx) he h
/-- what an operator does to data -/
def OpD (T : Tb) (X : Cx) (g : Value → Value → Sem Value) (f : PyData → PyData → (PyData → Prop) → Prop) : Prop :=
  OpR X g fun x y H Q => ∃ (G : Gh) (ρ : En) (σ : L2.St) (d e : PyData), Rep T X.K G ρ σ H ∧ Top X.K T.dc G.O H x d ∧ Top X.K T.dc G.O H y e ∧ f d e fun r => ∀ v H', Rep T X.K G ρ σ H' → Da X.K (hide G.O H') v r → Q v H'
/-- .. that makes a new list -/
def OpF (T : Tb) (X : Cx) (g : Value → Value → Sem Value) (f : PyData → PyData → (PyData → Prop) → Prop) : Prop :=
  OpR X g fun x y H Q => ∃ (G : Gh) (ρ : En) (σ : L2.St) (d e : PyData), Rep T X.K G ρ σ H ∧ Top X.K T.dc G.O H x d ∧ Top X.K T.dc G.O H y e ∧ f d e fun r => ∀ a vs ds H', r = .list ds → Rep T X.K ⟨G.Hb, a :: G.O, G.fl⟩ ρ σ H' → a ∉ G.O → Apt ρ σ a → H' a = some (.lst vs) → DaAll X.K (hide (a :: G.O) H') vs ds → Q (.ref a) H'
theorem both {K : PySem.W.Frag} {G : Gh} {ρ : En} {σ : L2.St} {H : Hp} {wa wb : PW} {P : PyData → PyData → Prop} {R : V → V → Hp → Prop} (ma : Mono wa) (mb : Mono wb) (r : Rep T K G ρ σ H)
    (hP : ∀ v u H' x y, Rep T K G ρ σ H' → ExtN (hide G.O H) (hide G.O H') → Top K T.dc G.O H' v x → Top K T.dc G.O H' u y → P x y → R v u H')
    (h : wa ρ (fun x => wb ρ (P x) (exOut T K W G ρ σ)) (exOut T K W G ρ σ)) : liftR T K W wa σ H fun v H1 => liftR T K W wb σ H1 fun u H2 => R v u H2 := by
  refine liftR_intro ma r (ma _ _ _ _ _ (fun x hx v H1 r1 e1 t1 => ?_) (fun _ z => z) h)
  by_cases own : ∃ a o, v = .ref a ∧ a ∈ G.O ∧ a ∉ T.dc ∧ H1 a = some o
  · obtain ⟨a, o, ev, ha, nd, ho⟩ := own
    refine liftR_intro (G := ⟨G.Hb, G.O, (a, o) :: G.fl⟩) mb (r1.fly1 ha ho nd) (mb _ _ _ _ _ (fun y hy u H2 r2 e2 t2 => ?_) (fun ex hex H' cls dd r' q => hex H' cls dd r'.land.1 q) hx)
    obtain ⟨r2', k⟩ := r2.land
    exact hP v u H2 x y r2' (e1.trans e2) (t1.ext e2 fun b eb hb _ => by rw [ev] at eb; cases eb; rw [show H2 a = some o from k, ho]) t2 hy
  · refine liftR_intro mb r1 (mb _ _ _ _ _ (fun y hy u H2 r2 e2 t2 => ?_) (fun _ z => z) hx)
    exact hP v u H2 x y r2 (e1.trans e2) (t1.ext e2 fun b eb hb nd => by
      obtain ⟨o, ho, _⟩ := r1.dom b hb
      exact absurd ⟨b, o, eb, hb, nd, ho⟩ own) t2 hy
theorem de_op {op : Operator} {f : PyData → PyData → (PyData → Prop) → Prop} {wa wb : PW} (ho : OpD T X (binaryOp op) f) (mf : MonoF f) (ha : DR T X W a wa) (hb : DR T X W b wb) : DE T X W (.BinOp a op b pos) (w2 f wa wb) :=
  ⟨pe_mono (pe_op ho ha.pe hb.pe) fun σ H Q q => by
    obtain ⟨G, ρ, r, q⟩ := q
    exact both (P := fun x y => f x y fun d => ∀ v H', Rep T X.K G ρ σ H' → Da X.K (hide G.O H') v d → Q v H') ha.mono hb.mono r (fun v u H' x y r' e tv tu p => ⟨G, ρ, σ, x, y, r', tv, tu, p⟩) q, mono_2 mf ha.mono hb.mono⟩
theorem df_op {op : Operator} {f : PyData → PyData → (PyData → Prop) → Prop} {wa wb : PW} (ho : OpF T X (binaryOp op) f) (mf : MonoF f) (ha : DR T X W a wa) (hb : DR T X W b wb) : DF T X W (.BinOp a op b pos) (w2 f wa wb) :=
  ⟨pe_mono (pe_op ho ha.pe hb.pe) fun σ H Q q => by
    obtain ⟨G, ρ, r, q⟩ := q
    exact both ha.mono hb.mono r (fun v u H' x y r' e tv tu p => ⟨G, ρ, σ, x, y, r', tv, tu, p⟩) q, mono_2 mf ha.mono hb.mono⟩
theorem de_cmp {op : CmpOp} {f : PyData → PyData → (PyData → Prop) → Prop} {wa wb : PW} (ho : OpD T X (compareOp op) f) (mf : MonoF f) (ha : DR T X W a wa) (hb : DR T X W b wb) (hm : behindInMarks op b = false) : DE T X W (.Compare a [op] [b] pos) (w2 f wa wb) :=
  ⟨pe_mono (pe_cmpR ho ha.pe hb.pe hm) fun σ H Q q => by
    obtain ⟨G, ρ, r, q⟩ := q
    exact both (P := fun x y => f x y fun d => ∀ v H', Rep T X.K G ρ σ H' → Da X.K (hide G.O H') v d → Q v H') ha.mono hb.mono r (fun v u H' x y r' e tv tu p => ⟨G, ρ, σ, x, y, r', tv, tu, p⟩) q, mono_2 mf ha.mono hb.mono⟩
end
end PL
set_option Elab.async false
set_option linter.all false
set_option maxRecDepth 100000
set_option maxHeartbeats 2000000
namespace PL
open PySem PySem.Spec PyProof.Rows L2
open LamX (ExtN Tabs TabS)
section
variable {K : PySem.W.Frag} {D0 O : List Addr} {H : Hp} {v : V}
theorem Top.int {i : Int} (h : Top K D0 O H v (.int i)) : v = .int i := by cases h with | sh h => cases h; rfl
theorem Top.str {x : Str} (h : Top K D0 O H v (.str x)) : v = .str x := by cases h with | sh h => cases h; rfl
theorem Top.bl {x : Bool} (h : Top K D0 O H v (.bool x)) : v = .bl x := by cases h with | sh h => cases h; rfl
theorem Top.non (h : Top K D0 O H v .none) : v = .non := by cases h with | sh h => cases h; rfl
theorem sqT_whole {a : Addr} {xs : List V} (h : SqT K (hide O H) a xs) : SqT K H a xs := sqT_ext (fun b o e _ => (hide_some e).2) h
theorem Top.tup {ds : List PyData} (h : Top K D0 O H v (.tuple ds)) : ∃ a xs, v = .ref a ∧ SqT K (hide O H) a xs ∧ SqT K H a xs ∧ DaAll K (hide O H) xs ds := by
  cases h with
  | sh h => cases h with
    | tup h1 h2 => exact ⟨_, _, rfl, h1, sqT_whole h1, h2⟩
theorem Da.int_ {i : Int} (h : Da K H v (.int i)) : v = .int i := by cases h; rfl
theorem Da.str_ {x : Str} (h : Da K H v (.str x)) : v = .str x := by cases h; rfl
theorem Da.bl_ {x : Bool} (h : Da K H v (.bool x)) : v = .bl x := by cases h; rfl
end
section
variable {T : Tb} {X : Cx} {W : WX} {pos : Pos} {e a b : Expr} {K : PySem.W.Frag} {G : Gh} {ρ : En} {σ : L2.St} {H H' : Hp}
/-! ### operators -/
def fI (C : Int → Int → Prop) (g : Int → Int → Int) : PyData → PyData → (PyData → Prop) → Prop
  | .int i, .int j, Q => C i j ∧ Q (.int (g i j))
  | _, _, _ => False
theorem mono_fI {C : Int → Int → Prop} {g : Int → Int → Int} : MonoF (fI C g) := fun x y Q Q' hq h => by
  unfold fI at h ⊢
  split at h
  · exact ⟨h.1, hq _ h.2⟩
  · exact h
theorem opD_int {f : Value → Value → Sem Value} {C : Int → Int → Prop} {g : Int → Int → Int} (h : OpR X f (rI C fun i j => .int (g i j))) : OpD T X f (fI C g) := by
  intro pins s σ0 H x y v u Q I rx ry q
  obtain ⟨G, ρ, σ, d, e, r, tx, ty, q⟩ := q
  unfold fI at q
  split at q
  · rename_i i j
    exact h pins s σ0 H x y v u Q I rx ry ⟨i, j, tx.int, ty.int, q.1, q.2 _ H r (.int _)⟩
  · exact q.elim
abbrev CT : Int → Int → Prop := fun _ _ => True
theorem opD_sub : OpD T X (binaryOp .Sub) (fI CT fun i j => i - j) := opD_int fun pins s σ H x y v u Q I rx ry h => op_sub pins s σ H x y v u Q I rx ry (by obtain ⟨i, j, a, b, _, c⟩ := h; exact ⟨i, j, a, b, c⟩)
theorem opD_fdiv : OpD T X (binaryOp .FloorDiv) (fI CDiv fun i j => i / j) := opD_int op_fdiv
theorem opD_mod : OpD T X (binaryOp .Mod) (fI (fun _ j => 0 < j) fun i j => i % j) := opD_int op_mod
theorem opD_pow : OpD T X (binaryOp .Pow) (fI CPow fun i j => i ^ j.toNat) := opD_int op_pow
theorem iopD_sub : OpD T X (inplaceOp .Sub) (fI CT fun i j => i - j) := opD_int fun pins s σ H x y v u Q I rx ry h => iop_sub pins s σ H x y v u Q I rx ry (by obtain ⟨i, j, a, b, _, c⟩ := h; exact ⟨i, j, a, b, c⟩)

def fAdd : PyData → PyData → (PyData → Prop) → Prop
  | .int i, .int j, Q => Q (.int (i + j))
  | .str x, .str y, Q => x.length + y.length ≤ sizeLine ∧ Q (.str (x ++ y))
  | .tuple xs, .tuple ys, Q => xs.length + ys.length ≤ sizeLine ∧ Q (.tuple (xs ++ ys))
  | _, _, _ => False
theorem mono_add : MonoF fAdd := fun x y Q Q' hq h => by
  unfold fAdd at h ⊢
  split at h
  · exact hq _ h
  · exact ⟨h.1, hq _ h.2⟩
  · exact ⟨h.1, hq _ h.2⟩
  · exact h
theorem Rep.new (r : Rep T K G ρ σ H) {p : Addr} {o : HO} (h : H p = none) : Rep T K G ρ σ (upd H p o) ∧ ExtN (hide G.O H) (hide G.O (upd H p o)) ∧ p ∉ G.O ∧ hide G.O (upd H p o) p = some o := by
  have np : p ∉ G.O := fun z => by obtain ⟨o, e, _⟩ := r.dom p z; rw [h] at e; cases e
  have al : ∀ b o', H b = some o' → upd H p o b = some o' := fun b o' e => by rw [upd_ne (ne_of_none e h)]; exact e
  exact ⟨r.alloc al, ext_hide fun b o' _ e _ => al b o' e, np, by rw [hide_out np, upd_same]⟩
theorem opD_add : OpD T X (binaryOp .Add) fAdd := by
  intro pins s σ0 H x y v u Q I rx ry q
  obtain ⟨G, ρ, σ, d, e, r, tx, ty, q⟩ := q
  unfold fAdd at q
  split at q
  · rename_i i j
    exact op_add pins s σ0 H x y v u Q I rx ry ⟨i, j, tx.int, ty.int, q _ H r (.int _)⟩
  · rename_i i j
    exact op_add_str pins s σ0 H x y v u Q I rx ry ⟨i, j, tx.str, ty.str, q.1, q.2 _ H r (.str _)⟩
  · obtain ⟨a, xs, rfl, ha', ha, hx⟩ := tx.tup
    obtain ⟨b, ys, rfl, hb', hb, hy⟩ := ty.tup
    refine op_catA pins s σ0 H _ _ v u Q I rx ry ⟨a, b, xs, ys, rfl, rfl, ha, hb, by rw [hx.length, hy.length]; exact q.1, fun ex => ?_, fun _ ey => ?_, fun _ _ p hp => ?_⟩
    · subst ex
      cases hx
      exact q.2 _ H r (.tup hb' hy)
    · subst ey
      cases hy
      refine q.2 _ H r ?_
      rw [List.append_nil]
      exact .tup ha' hx
    · obtain ⟨r', e', np, hh⟩ := r.new (o := .tup (xs ++ ys)) hp
      exact q.2 _ _ r' (.tup (SqT.of hh) ((hx.append hy).ext e'))
  · exact q.elim
theorem iopD_addS : OpD T X (inplaceOp .Add) (fun x y Q => match x, y with | .int i, .int j => Q (.int (i + j)) | .str x, .str y => x.length + y.length ≤ sizeLine ∧ Q (.str (x ++ y)) | _, _ => False) := by
  intro pins s σ0 H x y v u Q I rx ry q
  obtain ⟨G, ρ, σ, d, e, r, tx, ty, q⟩ := q
  simp only at q
  split at q
  · rename_i i j
    exact iop_add pins s σ0 H x y v u Q I rx ry ⟨i, j, tx.int, ty.int, q _ H r (.int _)⟩
  · rename_i i j
    exact iop_add_str pins s σ0 H x y v u Q I rx ry ⟨i, j, tx.str, ty.str, q.1, q.2 _ H r (.str _)⟩
  · exact q.elim
/-- xs + ys, new -/
def fCat : PyData → PyData → (PyData → Prop) → Prop
  | .list xs, .list ys, Q => xs.length + ys.length ≤ sizeLine ∧ Q (.list (xs ++ ys))
  | _, _, _ => False
theorem mono_cat : MonoF fCat := fun x y Q Q' hq h => by
  unfold fCat at h ⊢
  split at h
  · exact ⟨h.1, hq _ h.2⟩
  · exact h
theorem Rep.newL (r : Rep T K G ρ σ H) {p : Addr} {vs : List V} {ds : List PyData} (h : H p = none) (a : DaAll K (hide G.O H) vs ds) :
    Rep T K ⟨G.Hb, p :: G.O, G.fl⟩ ρ σ (upd H p (.lst vs)) ∧ p ∉ G.O ∧ Apt ρ σ p ∧ upd H p (.lst vs) p = some (.lst vs) ∧ DaAll K (hide (p :: G.O) (upd H p (.lst vs))) vs ds := by
  obtain ⟨r', eh, na, ap⟩ := r.own (o := .lst vs) h (fun ps z => by cases z)
  exact ⟨r', na, ap, upd_same, by rw [eh]; exact a⟩
theorem opF_cat : OpF T X (binaryOp .Add) fCat := by
  intro pins s σ0 H x y v u Q I rx ry q
  obtain ⟨G, ρ, σ, d, e, r, tx, ty, q⟩ := q
  unfold fCat at q
  split at q
  · obtain ⟨a, xs, rfl, ha, hx⟩ := tx.da
    obtain ⟨b, ys, rfl, hb, hy⟩ := ty.da
    refine op_cat pins s σ0 H _ _ v u Q I rx ry ⟨a, b, xs, ys, rfl, rfl, ha, hb, by rw [hx.length, hy.length]; exact q.1, fun p hp => ?_⟩
    obtain ⟨r', na, ap, h1, h2⟩ := r.newL hp (hx.append hy)
    exact q.2 p _ _ _ rfl r' na ap h1 h2
  · exact q.elim
/-- xs * n, new -/
def fRep : PyData → PyData → (PyData → Prop) → Prop
  | .list xs, .int k, Q => (-(2 ^ 63) ≤ k ∧ k < 2 ^ 63 ∧ xs.length * k.toNat ≤ sizeLine) ∧ Q (.list (List.replicate k.toNat xs).flatten)
  | _, _, _ => False
theorem mono_rep : MonoF fRep := fun x y Q Q' hq h => by
  unfold fRep at h ⊢
  split at h
  · exact ⟨h.1, hq _ h.2⟩
  · exact h
theorem daAll_rep {vs : List V} {ds : List PyData} (h : DaAll K H vs ds) : ∀ n : Nat, DaAll K H (List.replicate n vs).flatten (List.replicate n ds).flatten
  | 0 => .nil
  | n + 1 => by
    rw [List.replicate_succ, List.replicate_succ, List.flatten_cons, List.flatten_cons]
    exact h.append (daAll_rep h n)
theorem opF_rep : OpF T X (binaryOp .Mult) fRep := by
  intro pins s σ0 H x y v u Q I rx ry q
  obtain ⟨G, ρ, σ, d, e, r, tx, ty, q⟩ := q
  unfold fRep at q
  split at q
  · rename_i xs0 k
    obtain ⟨a, xs, rfl, ha, hx⟩ := tx.da
    refine op_rep pins s σ0 H _ _ v u Q I rx ry ⟨a, k, xs, rfl, ty.int, ha, q.1.1, q.1.2.1, by rw [hx.length]; exact q.1.2.2, fun p hp => ?_⟩
    obtain ⟨r', na, ap, h1, h2⟩ := r.newL hp (daAll_rep hx k.toNat)
    exact q.2 p _ _ _ rfl r' na ap h1 h2
  · exact q.elim
/-- i * j; a text n times -/
def repS (x : Str) (n : Nat) : Str := ⟨(List.replicate n x.cps).foldl (· ++ ·) #[]⟩
def fMul : PyData → PyData → (PyData → Prop) → Prop
  | .int i, .int j, Q => CMul i j ∧ Q (.int (i * j))
  | .str x, .int n, Q => (-(2 ^ 63) ≤ n ∧ x.length * n.toNat ≤ sizeLine ∧ n < 2 ^ 20) ∧ Q (.str (repS x n.toNat))
  | _, _, _ => False
theorem mono_mul : MonoF fMul := fun x y Q Q' hq h => by
  unfold fMul at h ⊢
  split at h
  · exact ⟨h.1, hq _ h.2⟩
  · exact ⟨h.1, hq _ h.2⟩
  · exact h
/-! ### comparisons -/
def Pl (d : PyData) : Prop := d.plain = true ∧ d.depth ≤ 30
def fEq (neg : Bool) : PyData → PyData → (PyData → Prop) → Prop := fun x y Q => (Pl x ∧ Pl y) ∧ Q (.bool (if neg then !PyData.eqv x y else PyData.eqv x y))
theorem mono_eq {n : Bool} : MonoF (fEq n) := fun _ _ _ _ hq h => ⟨h.1, hq _ h.2⟩
theorem opD_eq {k : Nat} (hr : Room k X.A) : OpD T X (compareOp .Eq) (fEq false) := by
  intro pins s σ0 H x y v u Q I rx ry q
  obtain ⟨G, ρ, σ, d, e, r, tx, ty, ⟨⟨pd, dd⟩, pe, de⟩, q⟩ := q
  obtain ⟨as, r1⟩ := Dp.reads I d x v ((tx.whole pd).dp pd) rx
  obtain ⟨bs, r2⟩ := Dp.reads I e y u ((ty.whole pe).dp pe) ry
  exact SeqAt.eq_plain r1 r2 pd pe (by have := hr.un; have : min d.depth e.depth ≤ d.depth := Nat.min_le_left _ _; omega) ⟨.bl _, H, I, rfl, q _ H r (.bl _)⟩
theorem opD_ne {k : Nat} (hr : Room k X.A) : OpD T X (compareOp .NotEq) (fEq true) := by
  intro pins s σ0 H x y v u Q I rx ry q
  obtain ⟨G, ρ, σ, d, e, r, tx, ty, ⟨⟨pd, dd⟩, pe, de⟩, q⟩ := q
  obtain ⟨as, r1⟩ := Dp.reads I d x v ((tx.whole pd).dp pd) rx
  obtain ⟨bs, r2⟩ := Dp.reads I e y u ((ty.whole pe).dp pe) ry
  exact SeqAt.ne_plain r1 r2 pd pe (by have := hr.un; have : min d.depth e.depth ≤ d.depth := Nat.min_le_left _ _; omega) ⟨.bl _, H, I, rfl, q _ H r (.bl _)⟩
/-- order, of data place by place alike -/
def fOrd (g : PyData → PyData → Bool) : PyData → PyData → (PyData → Prop) → Prop := fun x y Q => (Pl x ∧ Pl y ∧ PySem.W.alike x y = true ∧ x ≠ .none) ∧ Q (.bool (g x y))
theorem mono_ord {g : PyData → PyData → Bool} : MonoF (fOrd g) := fun _ _ _ _ hq h => ⟨h.1, hq _ h.2⟩
theorem opD_lt {k : Nat} (hr : Room k X.A) : OpD T X (compareOp .Lt) (fOrd fun x y => PySem.W.dataLt x y) := by
  intro pins s σ0 H x y v u Q I rx ry q
  obtain ⟨G, ρ, σ, d, e, r, tx, ty, ⟨⟨pd, dd⟩, ⟨pe, de⟩, al, nn⟩, q⟩ := q
  obtain ⟨as, r1⟩ := Dp.reads I d x v ((tx.whole pd).dp pd) rx
  obtain ⟨bs, r2⟩ := Dp.reads I e y u ((ty.whole pe).dp pe) ry
  exact PySem.W.lt_data r1 r2 al nn (by have := hr.un; have : min d.depth e.depth ≤ d.depth := Nat.min_le_left _ _; omega) ⟨.bl _, H, I, rfl, q _ H r (.bl _)⟩
theorem opD_gt {k : Nat} (hr : Room k X.A) : OpD T X (compareOp .Gt) (fOrd fun x y => PySem.W.dataLt y x) := by
  intro pins s σ0 H x y v u Q I rx ry q
  obtain ⟨G, ρ, σ, d, e, r, tx, ty, ⟨⟨pd, dd⟩, ⟨pe, de⟩, al, nn⟩, q⟩ := q
  obtain ⟨as, r1⟩ := Dp.reads I d x v ((tx.whole pd).dp pd) rx
  obtain ⟨bs, r2⟩ := Dp.reads I e y u ((ty.whole pe).dp pe) ry
  exact PySem.W.gt_data r1 r2 al nn (by have := hr.un; have : min d.depth e.depth ≤ d.depth := Nat.min_le_left _ _; omega) ⟨.bl _, H, I, rfl, q _ H r (.bl _)⟩
theorem opD_le {k : Nat} (hr : Room k X.A) : OpD T X (compareOp .LtE) (fOrd fun x y => !PySem.W.dataLt y x) := by
  intro pins s σ0 H x y v u Q I rx ry q
  obtain ⟨G, ρ, σ, d, e, r, tx, ty, ⟨⟨pd, dd⟩, ⟨pe, de⟩, al, nn⟩, q⟩ := q
  obtain ⟨as, r1⟩ := Dp.reads I d x v ((tx.whole pd).dp pd) rx
  obtain ⟨bs, r2⟩ := Dp.reads I e y u ((ty.whole pe).dp pe) ry
  exact PySem.W.le_data r1 r2 al nn (by have := hr.un; have : min d.depth e.depth ≤ d.depth := Nat.min_le_left _ _; omega) ⟨.bl _, H, I, rfl, q _ H r (.bl _)⟩
theorem opD_ge {k : Nat} (hr : Room k X.A) : OpD T X (compareOp .GtE) (fOrd fun x y => !PySem.W.dataLt x y) := by
  intro pins s σ0 H x y v u Q I rx ry q
  obtain ⟨G, ρ, σ, d, e, r, tx, ty, ⟨⟨pd, dd⟩, ⟨pe, de⟩, al, nn⟩, q⟩ := q
  obtain ⟨as, r1⟩ := Dp.reads I d x v ((tx.whole pd).dp pd) rx
  obtain ⟨bs, r2⟩ := Dp.reads I e y u ((ty.whole pe).dp pe) ry
  exact PySem.W.ge_data r1 r2 al nn (by have := hr.un; have : min d.depth e.depth ≤ d.depth := Nat.min_le_left _ _; omega) ⟨.bl _, H, I, rfl, q _ H r (.bl _)⟩
/-- of ints -/
def fC (g : Int → Int → Bool) : PyData → PyData → (PyData → Prop) → Prop
  | .int i, .int j, Q => Q (.bool (g i j))
  | _, _, _ => False
theorem mono_fC {g : Int → Int → Bool} : MonoF (fC g) := fun x y Q Q' hq h => by
  unfold fC at h ⊢
  split at h
  · exact hq _ h
  · exact h
theorem opD_cmp {f : Value → Value → Sem Value} {g : Int → Int → Bool} (h : OpR X f (rI0 fun i j => .bl (g i j))) : OpD T X f (fC g) := by
  intro pins s σ0 H x y v u Q I rx ry q
  obtain ⟨G, ρ, σ, d, e, r, tx, ty, q⟩ := q
  unfold fC at q
  split at q
  · rename_i i j
    exact h pins s σ0 H x y v u Q I rx ry ⟨i, j, tx.int, ty.int, q _ H r (.bl _)⟩
  · exact q.elim
theorem opD_ltI : OpD T X (compareOp .Lt) (fC fun i j => decide (i < j)) := opD_cmp op_lt
theorem opD_leI : OpD T X (compareOp .LtE) (fC fun i j => decide (i ≤ j)) := opD_cmp op_le
theorem opD_gtI : OpD T X (compareOp .Gt) (fC fun i j => decide (j < i)) := opD_cmp op_gt
theorem opD_geI : OpD T X (compareOp .GtE) (fC fun i j => decide (j ≤ i)) := opD_cmp op_ge
/-- is None -/
def isN : PyData → Bool
  | .none => true
  | _ => false
theorem isN_of {v : V} {d : PyData} {D0 O : List Addr} (h : Top K D0 O H v d) : decide (v = .non) = isN d := by
  cases h with
  | sh h => cases h <;> rfl
  | ol => rfl
  | ok => rfl
  | ot => rfl
theorem opD_isN : OpD T X (compareOp .Is) (fun x y Q => y = .none ∧ Q (.bool (isN x))) := by
  intro pins s σ0 H x y v u Q I rx ry q
  obtain ⟨G, ρ, σ, d, e, r, tx, ty, rfl, q⟩ := q
  exact op_isN pins s σ0 H x y v u Q I rx ry ⟨ty.non, by rw [isN_of tx]; exact q _ H r (.bl _)⟩
theorem opD_notN : OpD T X (compareOp .IsNot) (fun x y Q => y = .none ∧ Q (.bool (!isN x))) := by
  intro pins s σ0 H x y v u Q I rx ry q
  obtain ⟨G, ρ, σ, d, e, r, tx, ty, rfl, q⟩ := q
  exact op_notN pins s σ0 H x y v u Q I rx ry ⟨ty.non, by rw [isN_of tx]; exact q _ H r (.bl _)⟩
theorem inroom {k u a b : Nat} (hu : u + 16 * k + 200 < cLine) (dd : b ≤ 30) : u + 1 + min a b < cLine := by
  have : min a b ≤ b := Nat.min_le_right _ _
  omega
/-- x in xs; a text in a text -/
def fIn (neg : Bool) : PyData → PyData → (PyData → Prop) → Prop
  | x, .list ys, Q => (Pl x ∧ Pl (.list ys)) ∧ Q (.bool (if neg then !(ys.any fun z => PyData.eqv z x) else ys.any fun z => PyData.eqv z x))
  | x, .tuple ys, Q => (Pl x ∧ Pl (.tuple ys)) ∧ Q (.bool (if neg then !(ys.any fun z => PyData.eqv z x) else ys.any fun z => PyData.eqv z x))
  | .str a, .str b, Q => Q (.bool (if neg then !(!(Builtin.Str.occurrences b a 0 b.length 1).isEmpty) else !(Builtin.Str.occurrences b a 0 b.length 1).isEmpty))
  | _, _, _ => False
theorem mono_in {n : Bool} : MonoF (fIn n) := fun x y Q Q' hq h => by
  unfold fIn at h ⊢
  split at h
  · exact ⟨h.1, hq _ h.2⟩
  · exact ⟨h.1, hq _ h.2⟩
  · exact hq _ h
  · exact h
theorem opD_in {k : Nat} (hr : Room k X.A) : OpD T X (compareOp .In) (fIn false) := by
  intro pins s σ0 H x y v u Q I rx ry q
  obtain ⟨G, ρ, σ, d, e, r, tx, ty, q⟩ := q
  have hu := hr.un
  unfold fIn at q
  split at q
  · rename_i ys
    obtain ⟨⟨⟨pd, dd⟩, pe, de⟩, q⟩ := q
    obtain ⟨as, r1⟩ := Dp.reads I _ x v ((tx.whole pd).dp pd) rx
    obtain ⟨bs, r2⟩ := Dp.reads I _ y u ((ty.whole pe).dp pe) ry
    exact SeqAt.in_list_data r2 r1 (by simpa [PyData.plain] using pe) pd (inroom hu dd) ⟨.bl _, H, I, rfl, q _ H r (.bl _)⟩
  · rename_i ys
    obtain ⟨⟨⟨pd, dd⟩, pe, de⟩, q⟩ := q
    obtain ⟨as, r1⟩ := Dp.reads I _ x v ((tx.whole pd).dp pd) rx
    obtain ⟨bs, r2⟩ := Dp.reads I _ y u ((ty.whole pe).dp pe) ry
    exact SeqAt.in_tuple_data r2 r1 (by simpa [PyData.plain] using pe) pd (inroom hu dd) ⟨.bl _, H, I, rfl, q _ H r (.bl _)⟩
  · rename_i i j
    exact op_in_str pins s σ0 H x y v u Q I rx ry ⟨i, j, tx.str, ty.str, q _ H r (.bl _)⟩
  · exact q.elim
theorem opD_notIn {k : Nat} (hr : Room k X.A) : OpD T X (compareOp .NotIn) (fIn true) := by
  intro pins s σ0 H x y v u Q I rx ry q
  obtain ⟨G, ρ, σ, d, e, r, tx, ty, q⟩ := q
  have hu := hr.un
  unfold fIn at q
  split at q
  · rename_i ys
    obtain ⟨⟨⟨pd, dd⟩, pe, de⟩, q⟩ := q
    obtain ⟨as, r1⟩ := Dp.reads I _ x v ((tx.whole pd).dp pd) rx
    obtain ⟨bs, r2⟩ := Dp.reads I _ y u ((ty.whole pe).dp pe) ry
    exact SeqAt.notIn_list_data r2 r1 (by simpa [PyData.plain] using pe) pd (inroom hu dd) ⟨.bl _, H, I, rfl, q _ H r (.bl _)⟩
  · rename_i ys
    obtain ⟨⟨⟨pd, dd⟩, pe, de⟩, q⟩ := q
    obtain ⟨as, r1⟩ := Dp.reads I _ x v ((tx.whole pd).dp pd) rx
    obtain ⟨bs, r2⟩ := Dp.reads I _ y u ((ty.whole pe).dp pe) ry
    exact SeqAt.notIn_tuple_data r2 r1 (by simpa [PyData.plain] using pe) pd (inroom hu dd) ⟨.bl _, H, I, rfl, q _ H r (.bl _)⟩
  · rename_i i j
    exact op_notin_str pins s σ0 H x y v u Q I rx ry ⟨i, j, tx.str, ty.str, q _ H r (.bl _)⟩
  · exact q.elim
end
end PL
set_option Elab.async false
set_option linter.all false
set_option maxRecDepth 100000
set_option maxHeartbeats 2000000
namespace PL
open PySem PySem.Spec PyProof.Rows L2
open LamX (ExtN Tabs TabS)
section
variable {T : Tb} {X : Cx} {W : WX} {pos : Pos} {e a b c : Expr} {K : PySem.W.Frag} {G : Gh} {ρ : En} {σ : L2.St} {H H' : Hp}
/-! ### tests -/
def wT (w : PW) : PWB := fun ρ Q E => w ρ (fun d => match d with | .bool k => Q k | _ => False) E
theorem mono_T {w : PW} (m : Mono w) : Mono (wT w) := fun ρ Q Q' E E' hq he h => m _ _ _ _ _ (fun d hd => by cases d <;> first | exact hq _ hd | exact hd) he h
theorem dt_val {w : PW} (h : DE T X W e w) (he : ∀ whole, isTrue e X.env whole = (do let v ← whole; standAt e.pos; holding [v] (truthy v)) := by intro _; rfl) : DT T X W e (wT w) :=
  ⟨pt_mono (pt_val h.pe he) fun σ H Q q => by
    obtain ⟨G, ρ, r, q⟩ := q
    refine ⟨G, ρ, r, h.mono _ _ _ _ _ (fun d hd v H' r' a => ?_) (fun _ z => z) q⟩
    cases a <;> first | exact ⟨_, rfl, hd H' r'⟩ | exact hd.elim, mono_T h.mono⟩
theorem dt_cmp {op : CmpOp} {f : PyData → PyData → (PyData → Prop) → Prop} {wa wb : PW} (ho : OpD T X (compareOp op) f) (mf : MonoF f) (ha : DR T X W a wa) (hb : DR T X W b wb) (hm : behindInMarks op b = false) : DT T X W (.Compare a [op] [b] pos) (wT (w2 f wa wb)) :=
  ⟨pt_mono (pt_cmpR ho ha.pe hb.pe hm) fun σ H Q q => by
    obtain ⟨G, ρ, r, q⟩ := q
    refine both (P := fun x y => f x y fun d => match d with | .bool k => ∀ H', Rep T X.K G ρ σ H' → Q k H' | _ => False) ha.mono hb.mono r (fun v u H' x y r' e tv tu p => ⟨G, ρ, σ, x, y, r', tv, tu, mf _ _ _ _ (fun d hd v H'' r'' a => ?_) p⟩) q
    cases a <;> first | exact ⟨_, rfl, hd H'' r''⟩ | exact hd.elim, mono_T (mono_2 mf ha.mono hb.mono)⟩
def wNot (w : PWB) : PWB := fun ρ Q E => w ρ (fun b => Q (!b)) E
theorem dt_not {w : PWB} (h : DT T X W a w) : DT T X W (.UnaryOp .Not a pos) (wNot w) :=
  ⟨pt_mono (pt_not h.pt) fun σ H Q q => by
    obtain ⟨G, ρ, r, q⟩ := q
    exact ⟨G, ρ, r, q⟩, fun ρ Q Q' E E' hq he q => h.mono _ _ _ _ _ (fun b hb => hq _ hb) he q⟩
structure DW (T : Tb) (X : Cx) (W : WX) (e : Expr) (w : PWB) : Prop where
  pw : L2.PW X e (liftB T X.K W w)
  mono : Mono w
def wAnd (u v : PWB) : PWB := fun ρ Q E => u ρ (fun b => if b = true then v ρ Q E else Q false) E
def wOr (u v : PWB) : PWB := fun ρ Q E => u ρ (fun b => if b = true then Q true else v ρ Q E) E
theorem mono_And {u v : PWB} (mu : Mono u) (mv : Mono v) : Mono (wAnd u v) := fun ρ Q Q' E E' hq he h => mu _ _ _ _ _ (fun b hb => by
  by_cases z : b = true
  · rw [if_pos z] at hb ⊢; exact mv _ _ _ _ _ hq he hb
  · rw [if_neg z] at hb ⊢; exact hq _ hb) he h
theorem mono_Or {u v : PWB} (mu : Mono u) (mv : Mono v) : Mono (wOr u v) := fun ρ Q Q' E E' hq he h => mu _ _ _ _ _ (fun b hb => by
  by_cases z : b = true
  · rw [if_pos z] at hb ⊢; exact hq _ hb
  · rw [if_neg z] at hb ⊢; exact mv _ _ _ _ _ hq he hb) he h
theorem pw_mono {X : Cx} {e : Expr} {t t' : TT} (h : L2.PW X e t) (i : ∀ σ H Q, t' σ H Q → t σ H Q) : L2.PW X e t' := ⟨fun whole pins s σ H Q I q => h.run whole pins s σ H Q I (i _ _ _ q)⟩
theorem dw_and1 {w : PWB} (h : DT T X W a w) : DW T X W (.BoolOp .And [a] pos) w := ⟨pw_and1 h.pt, h.mono⟩
theorem dw_or1 {w : PWB} (h : DT T X W a w) : DW T X W (.BoolOp .Or [a] pos) w := ⟨pw_or1 h.pt, h.mono⟩
theorem dw_and {u v : PWB} {rest : List Expr} (ha : DT T X W a u) (hb : DW T X W (.BoolOp .And (b :: rest) pos) v) : DW T X W (.BoolOp .And (a :: b :: rest) pos) (wAnd u v) :=
  ⟨pw_mono (pw_and ha.pt hb.pw) fun σ H Q q => by
    obtain ⟨G, ρ, r, q⟩ := q
    refine liftB_intro ha.mono r (ha.mono _ _ _ _ _ (fun k hk H1 r1 e1 => ?_) (fun _ z => z) q)
    by_cases z : k = true
    · rw [if_pos z] at hk ⊢; exact ⟨G, ρ, r1, hk⟩
    · rw [if_neg z] at hk ⊢; exact hk H1 r1, mono_And ha.mono hb.mono⟩
theorem dw_or {u v : PWB} {rest : List Expr} (ha : DT T X W a u) (hb : DW T X W (.BoolOp .Or (b :: rest) pos) v) : DW T X W (.BoolOp .Or (a :: b :: rest) pos) (wOr u v) :=
  ⟨pw_mono (pw_or ha.pt hb.pw) fun σ H Q q => by
    obtain ⟨G, ρ, r, q⟩ := q
    refine liftB_intro ha.mono r (ha.mono _ _ _ _ _ (fun k hk H1 r1 e1 => ?_) (fun _ z => z) q)
    by_cases z : k = true
    · rw [if_pos z] at hk ⊢; exact hk H1 r1
    · rw [if_neg z] at hk ⊢; exact ⟨G, ρ, r1, hk⟩, mono_Or ha.mono hb.mono⟩
theorem dt_bool {w : PWB} (h : DW T X W e w) : DT T X W e w := ⟨L2.PW.pt h.pw, h.mono⟩
/-! ### and, or, not as values, all bools -/
def wNotV (w : PW) : PW := fun ρ Q E => w ρ (fun d => match d with | .bool k => Q (.bool (!k)) | _ => False) E
theorem de_not {w : PW} (h : DE T X W a w) : DE T X W (.UnaryOp .Not a pos) (wNotV w) :=
  ⟨pe_mono (pe_not h.pe) fun σ H Q q => by
    obtain ⟨G, ρ, r, q⟩ := q
    refine ⟨G, ρ, r, h.mono _ _ _ _ _ (fun d hd v H' r' a => ?_) (fun _ z => z) q⟩
    cases a <;> first | exact ⟨_, rfl, hd _ H' r' (.bl _)⟩ | exact hd.elim, fun ρ Q Q' E E' hq he q => h.mono _ _ _ _ _ (fun d hd => by cases d <;> first | exact hq _ hd | exact hd) he q⟩
def wAndV (u v : PW) : PW := fun ρ Q E => u ρ (fun d => match d with | .bool true => v ρ Q E | .bool false => Q (.bool false) | _ => False) E
def wOrV (u v : PW) : PW := fun ρ Q E => u ρ (fun d => match d with | .bool true => Q (.bool true) | .bool false => v ρ Q E | _ => False) E
theorem de_one {op} {w : PW} (h : DE T X W a w) : DE T X W (.BoolOp op [a] pos) w := ⟨pe_one h.pe, h.mono⟩
theorem de_and {u v : PW} {rest : List Expr} (ha : DE T X W a u) (hb : DE T X W (.BoolOp .And (b :: rest) pos) v) : DE T X W (.BoolOp .And (a :: b :: rest) pos) (wAndV u v) :=
  ⟨pe_mono (pe_and ha.pe hb.pe) fun σ H Q q => by
    obtain ⟨G, ρ, r, q⟩ := q
    refine ⟨G, ρ, r, ha.mono _ _ _ _ _ (fun d hd v H' r' a => ?_) (fun _ z => z) q⟩
    cases a with
    | bl k =>
      refine ⟨k, rfl, ?_⟩
      cases k with
      | true => exact ⟨G, ρ, r', hd⟩
      | false => exact hd _ H' r' (.bl _)
    | _ => exact hd.elim, fun ρ Q Q' E E' hq he q => ha.mono _ _ _ _ _ (fun d hd => by
      split at hd
      · exact hb.mono _ _ _ _ _ hq he hd
      · exact hq _ hd
      · exact hd.elim) he q⟩
theorem de_or {u v : PW} {rest : List Expr} (ha : DE T X W a u) (hb : DE T X W (.BoolOp .Or (b :: rest) pos) v) : DE T X W (.BoolOp .Or (a :: b :: rest) pos) (wOrV u v) :=
  ⟨pe_mono (pe_or ha.pe hb.pe) fun σ H Q q => by
    obtain ⟨G, ρ, r, q⟩ := q
    refine ⟨G, ρ, r, ha.mono _ _ _ _ _ (fun d hd v H' r' a => ?_) (fun _ z => z) q⟩
    cases a with
    | bl k =>
      refine ⟨k, rfl, ?_⟩
      cases k with
      | true => exact hd _ H' r' (.bl _)
      | false => exact ⟨G, ρ, r', hd⟩
    | _ => exact hd.elim, fun ρ Q Q' E E' hq he q => ha.mono _ _ _ _ _ (fun d hd => by
      split at hd
      · exact hq _ hd
      · exact hb.mono _ _ _ _ _ hq he hd
      · exact hd.elim) he q⟩
def wIf (t : PWB) (u v : PW) : PW := fun ρ Q E => t ρ (fun k => if k = true then u ρ Q E else v ρ Q E) E
theorem de_if {t : PWB} {u v : PW} (hc : DT T X W c t) (ha : DE T X W a u) (hb : DE T X W b v) : DE T X W (.IfExp c a b pos) (wIf t u v) :=
  ⟨pe_mono (pe_ifExp hc.pt ha.pe hb.pe) fun σ H Q q => by
    obtain ⟨G, ρ, r, q⟩ := q
    refine ⟨G, ρ, r, hc.mono _ _ _ _ _ (fun k hk H' r' => ?_) (fun _ z => z) q⟩
    by_cases z : k = true
    · rw [if_pos z] at hk ⊢; exact ⟨G, ρ, r', hk⟩
    · rw [if_neg z] at hk ⊢; exact ⟨G, ρ, r', hk⟩, fun ρ Q Q' E E' hq he q => hc.mono _ _ _ _ _ (fun k hk => by
      by_cases z : k = true
      · rw [if_pos z] at hk ⊢; exact ha.mono _ _ _ _ _ hq he hk
      · rw [if_neg z] at hk ⊢; exact hb.mono _ _ _ _ _ hq he hk) he q⟩
/-! ### chains of two, the middle one ours to read -/
def wCh (f g : PyData → PyData → (PyData → Prop) → Prop) (wa wb wc : PW) : PW := fun ρ Q E => wa ρ (fun x => wb ρ (fun y => f x y fun z => match z with
  | .bool true => wc ρ (fun w => g y w Q) E
  | .bool false => Q (.bool false)
  | _ => False) E) E
theorem mono_Ch {f g : PyData → PyData → (PyData → Prop) → Prop} {wa wb wc : PW} (mf : MonoF f) (mg : MonoF g) (ma : Mono wa) (mb : Mono wb) (mc : Mono wc) : Mono (wCh f g wa wb wc) := fun ρ Q Q' E E' hq he h =>
  ma _ _ _ _ _ (fun x hx => mb _ _ _ _ _ (fun y hy => mf _ _ _ _ (fun z hz => by
    split at hz
    · exact mc _ _ _ _ _ (fun w hw => mg _ _ _ _ hq hw) he hz
    · exact hq _ hz
    · exact hz.elim) hy) he hx) he h
theorem chain_core {f g : PyData → PyData → (PyData → Prop) → Prop} {op op' : CmpOp} {wa wb wc : PW} {Q : VK} {G : Gh} {ρ : En} {σ : L2.St} {H : Hp} {P : PyData → Prop} (mf : MonoF f) (ha : DE T X W a wa) (hb : DE T X W b wb) (hc : DE T X W c wc) (r : Rep T X.K G ρ σ H)
    (hP : ∀ d v H', P d → Rep T X.K G ρ σ H' → Da X.K (hide G.O H') v d → Q v H') (mg : MonoF g)
    (q : wCh f g wa wb wc ρ P (exOut T X.K W G ρ σ)) :
    tChain (fun x y H Q => ∃ (G : Gh) (ρ : En) (σ : L2.St) (d e : PyData), Rep T X.K G ρ σ H ∧ Top X.K T.dc G.O H x d ∧ Top X.K T.dc G.O H y e ∧ f d e fun r => ∀ v H', Rep T X.K G ρ σ H' → Da X.K (hide G.O H') v r → Q v H')
      (fun x y H Q => ∃ (G : Gh) (ρ : En) (σ : L2.St) (d e : PyData), Rep T X.K G ρ σ H ∧ Top X.K T.dc G.O H x d ∧ Top X.K T.dc G.O H y e ∧ g d e fun r => ∀ v H', Rep T X.K G ρ σ H' → Da X.K (hide G.O H') v r → Q v H')
      (lift T X.K W wa) (lift T X.K W wb) (lift T X.K W wc) σ H Q := by
  refine lift_intro ha.mono r (ha.mono _ _ _ _ _ (fun x hx v1 H1 r1 e1 d1 => ?_) (fun _ z => z) q)
  refine lift_intro hb.mono r1 (hb.mono _ _ _ _ _ (fun y hy v2 H2 r2 e2 d2 => ?_) (fun _ z => z) hx)
  refine ⟨⟨hide G.O H2, G.O, G.fl⟩, ρ, σ, x, y, r2.rebase, .sh (d1.ext e2), .sh d2, mf _ _ _ _ (fun z hz v H3 r3 a3 => ?_) hy⟩
  have e3 := r3.ext
  have r3' : Rep T X.K G ρ σ H3 := r3.unbase r2.ext
  cases a3 with
  | bl k =>
    refine ⟨k, rfl, ?_⟩
    cases k with
    | true =>
      refine lift_intro hc.mono r3' (hc.mono _ _ _ _ _ (fun w hw v4 H4 r4 e4 d4 => ?_) (fun _ z => z) hz)
      exact ⟨G, ρ, σ, y, w, r4, .sh ((d2.ext e3).ext e4), .sh d4, mg _ _ _ _ (fun d hd v H' r' a => hP d v H' hd r' a) hw⟩
    | false => exact hP _ _ H3 hz r3' (.bl _)
  | _ => exact hz.elim
theorem de_chain {f g : PyData → PyData → (PyData → Prop) → Prop} {op op' : CmpOp} {wa wb wc : PW} (ho : OpD T X (compareOp op) f) (ho' : OpD T X (compareOp op') g) (mf : MonoF f) (mg : MonoF g) (ha : DE T X W a wa) (hb : DE T X W b wb) (hc : DE T X W c wc)
    (hm : lastMarks [op, op'] [b, c] = false := by with_unfolding_all rfl) : DE T X W (.Compare a [op, op'] [b, c] pos) (wCh f g wa wb wc) :=
  ⟨pe_mono (pe_chain ho ho' ha.pe hb.pe hc.pe hm) fun σ H Q q => by
    obtain ⟨G, ρ, r, q⟩ := q
    exact chain_core (op := op) (op' := op') mf ha hb hc r (fun d v H' h r' a => h v H' r' a) mg q, mono_Ch mf mg ha.mono hb.mono hc.mono⟩
theorem dt_chain {f g : PyData → PyData → (PyData → Prop) → Prop} {op op' : CmpOp} {wa wb wc : PW} (ho : OpD T X (compareOp op) f) (ho' : OpD T X (compareOp op') g) (mf : MonoF f) (mg : MonoF g) (ha : DE T X W a wa) (hb : DE T X W b wb) (hc : DE T X W c wc)
    (hm : lastMarks [op, op'] [b, c] = false := by with_unfolding_all rfl) : DT T X W (.Compare a [op, op'] [b, c] pos) (wT (wCh f g wa wb wc)) :=
  ⟨pt_mono (pt_chain ho ho' ha.pe hb.pe hc.pe hm) fun σ H Q q => by
    obtain ⟨G, ρ, r, q⟩ := q
    exact chain_core (op := op) (op' := op') (Q := fun x H' => ∃ k, x = .bl k ∧ Q k H') mf ha hb hc r (fun d v H' h r' a => by cases a <;> first | exact ⟨_, rfl, h H' r'⟩ | exact h.elim) mg q, mono_T (mono_Ch mf mg ha.mono hb.mono hc.mono)⟩
/-! ### rows of expressions, tuples, lists -/
def wNil : PWs := fun _ Q _ => Q []
def wCons (w : PW) (ws : PWs) : PWs := fun ρ Q E => w ρ (fun d => ws ρ (fun ds => Q (d :: ds)) E) E
theorem da_nil : DA T X W [] wNil := ⟨⟨fun p pins s σ H Q I h => by
  obtain ⟨G, ρ, r, q⟩ := h
  exact pa_nil.run p pins s σ H Q I (q [] H r .nil)⟩, fun _ _ _ _ _ hq _ h => hq _ h⟩
theorem mono_cons {w : PW} {ws : PWs} (m : Mono w) (ms : Mono ws) : Mono (wCons w ws) := fun ρ Q Q' E E' hq he h => m _ _ _ _ _ (fun d hd => ms _ _ _ _ _ (fun ds hds => hq _ hds) he hd) he h
theorem da_cons {es : List Expr} {w : PW} {ws : PWs} (ha : DE T X W e w) (hr : DA T X W es ws) (hs : starEach (e :: es) X.env = (false, eval e X.env) :: starEach es X.env := by rfl) : DA T X W (e :: es) (wCons w ws) :=
  ⟨⟨fun p pins s σ H Q I h => (pa_cons ha.pe hr.pa hs).run p pins s σ H Q I (by
    obtain ⟨G, ρ, r, q⟩ := h
    refine lift_intro ha.mono r (ha.mono _ _ _ _ _ (fun d hd v H1 r1 e1 a1 => ?_) (fun _ z => z) q)
    refine liftA_intro hr.mono r1 (hr.mono _ _ _ _ _ (fun ds hds vs H2 r2 e2 a2 => ?_) (fun _ z => z) hd)
    exact hds _ H2 r2 (.cons (a1.ext e2) a2))⟩, mono_cons ha.mono hr.mono⟩
def wTup (ws : PWs) : PW := fun ρ Q E => ws ρ (fun ds => ds.length ≤ sizeLine ∧ Q (.tuple ds)) E
def wLst (ws : PWs) : PW := fun ρ Q E => ws ρ (fun ds => ds.length ≤ sizeLine ∧ Q (.list ds)) E
theorem de_tup {es : List Expr} {ws : PWs} {k} (h : DA T X W es ws) : DE T X W (.Tuple es k pos) (wTup ws) :=
  ⟨pe_mono (pe_tup h.pa) fun σ H Q q => by
    obtain ⟨G, ρ, r, q⟩ := q
    refine ⟨G, ρ, r, h.mono _ _ _ _ _ (fun ds hds vs H' r' a => ⟨by rw [a.length]; exact hds.1, fun p hp => ?_⟩) (fun _ z => z) q⟩
    obtain ⟨r2, e2, np, hh⟩ := r'.new (o := .tup vs) hp
    exact hds.2 _ _ r2 (.tup (SqT.of hh) (a.ext e2)), fun ρ Q Q' E E' hq he q => h.mono _ _ _ _ _ (fun ds hd => ⟨hd.1, hq _ hd.2⟩) he q⟩
theorem df_lst {es : List Expr} {ws : PWs} (h : DA T X W es ws) : DF T X W (.List es pos) (wLst ws) :=
  ⟨pe_mono (pe_lst h.pa) fun σ H Q q => by
    obtain ⟨G, ρ, r, q⟩ := q
    refine ⟨G, ρ, r, h.mono _ _ _ _ _ (fun ds hds vs H' r' a => ⟨by rw [a.length]; exact hds.1, fun p hp => ?_⟩) (fun _ z => z) q⟩
    obtain ⟨r2, na, ap, h1, h2⟩ := r'.newL hp a
    exact hds.2 p _ _ _ rfl r2 na ap h1 h2, fun ρ Q Q' E E' hq he q => h.mono _ _ _ _ _ (fun ds hd => ⟨hd.1, hq _ hd.2⟩) he q⟩
/-! ### subscripts -/
def fIx : PyData → PyData → (PyData → Prop) → Prop
  | .list xs, .int i, Q => match atI xs i with | some d => Q d | none => False
  | .tuple xs, .int i, Q => match atI xs i with | some d => Q d | none => False
  | .str z, .int i, Q => z.length ≤ sizeLine ∧ match atI z.cps.toList i with | some c => Q (.str ⟨#[c]⟩) | none => False
  | _, _, _ => False
theorem mono_ix : MonoF fIx := fun x y Q Q' hq h => by
  unfold fIx at h ⊢
  split at h
  · split at h
    · exact hq _ h
    · exact h
  · split at h
    · exact hq _ h
    · exact h
  · refine ⟨h.1, ?_⟩
    have h2 := h.2
    split at h2
    · exact hq _ h2
    · exact h2
  · exact h
theorem atI_da {vs : List V} {ds : List PyData} {i : Int} {d : PyData} (h : DaAll K H vs ds) (e : atI ds i = some d) : ∃ v, atI vs i = some v ∧ Da K H v d := by
  unfold atI at e ⊢
  rw [h.length]
  cases z : ixN ds.length i with
  | none => rw [z] at e; cases e
  | some j =>
    rw [z] at e
    obtain ⟨v, h1, h2⟩ := h.getD (i := j) e
    exact ⟨v, h1, h2⟩
theorem ixR_d : IxR X fun x y H Q => ∃ (G : Gh) (ρ : En) (σ : L2.St) (d e : PyData), Rep T X.K G ρ σ H ∧ Top X.K T.dc G.O H x d ∧ Top X.K T.dc G.O H y e ∧ fIx d e fun r => ∀ v H', Rep T X.K G ρ σ H' → Da X.K (hide G.O H') v r → Q v H' := by
  intro value slice pins s σ0 H x y v u Q I rx ry q hs
  obtain ⟨G, ρ, σ, d, e, r, tx, ty, q⟩ := q
  unfold fIx at q
  split at q
  · split at q
    · rename_i d' hd
      obtain ⟨a, xs, rfl, ha, hx⟩ := tx.da
      obtain ⟨w, h1, h2⟩ := atI_da hx hd
      exact ix_list value slice pins s σ0 H _ y v u Q I rx ry ⟨a, xs, _, w, rfl, ty.int, SqL.of ha, h1, q _ H r h2⟩ hs
    · exact q.elim
  · split at q
    · rename_i d' hd
      obtain ⟨a, xs, rfl, _, ha, hx⟩ := tx.tup
      obtain ⟨w, h1, h2⟩ := atI_da hx hd
      exact ix_tup value slice pins s σ0 H _ y v u Q I rx ry ⟨a, xs, _, w, rfl, ty.int, ha, h1, q _ H r h2⟩ hs
    · exact q.elim
  · obtain ⟨hz, q⟩ := q
    split at q
    · rename_i c' hc
      exact ix_str value slice pins s σ0 H x y v u Q I rx ry ⟨_, _, c', tx.str, ty.int, hz, hc, q _ H r (.str _)⟩ hs
    · exact q.elim
  · exact q.elim
theorem de_ix {wa wb : PW} (ha : DR T X W a wa) (hb : DR T X W b wb) (hs : PlainIx b := by intro _ _; rfl) : DE T X W (.Subscript a b pos) (w2 fIx wa wb) :=
  ⟨pe_mono (pe_ix (ixR_d (T := T)) ha.pe hb.pe hs) fun σ H Q q => by
    obtain ⟨G, ρ, r, q⟩ := q
    exact both (P := fun x y => fIx x y fun d => ∀ v H', Rep T X.K G ρ σ H' → Da X.K (hide G.O H') v d → Q v H') ha.mono hb.mono r (fun v u H' x y r' e tv tu p => ⟨G, ρ, σ, x, y, r', tv, tu, p⟩) q, mono_2 mono_ix ha.mono hb.mono⟩
end
end PL
set_option Elab.async false
set_option linter.all false
set_option maxRecDepth 100000
set_option maxHeartbeats 2000000
namespace PL
open PySem PySem.Spec PyProof.Rows L2
open LamX (ExtN Tabs TabS)
section
variable {T : Tb} {X : Cx} {W : WX} {pos p : Pos} {e a b c : Expr} {K : PySem.W.Frag} {G : Gh} {ρ : En} {σ : L2.St} {H H' : Hp}
/-! ### holding on to a value -/
theorem Rep.hold {v : V} {d : PyData} (r : Rep T K G ρ σ H) (t : Top K T.dc G.O H v d) : ∃ G1 : Gh, G1.O = G.O ∧ Rep T K G1 ρ σ H ∧ ∀ H', Rep T K G1 ρ σ H' → Rep T K G ρ σ H' ∧ Top K T.dc G.O H' v d ∧ ExtN (hide G.O H) (hide G.O H') := by
  by_cases own : ∃ a o, v = .ref a ∧ a ∈ G.O ∧ a ∉ T.dc ∧ H a = some o
  · obtain ⟨a, o, ev, ha, nd, ho⟩ := own
    refine ⟨⟨hide G.O H, G.O, (a, o) :: G.fl⟩, rfl, (r.rebase).fly1 (G := ⟨hide G.O H, G.O, G.fl⟩) ha ho nd, fun H' r' => ?_⟩
    obtain ⟨r2, k⟩ := r'.land
    have e := r2.ext
    exact ⟨r2.unbase r.ext, t.ext e fun b eb hb _ => by rw [ev] at eb; cases eb; rw [show H' a = some o from k, ho], e⟩
  · refine ⟨⟨hide G.O H, G.O, G.fl⟩, rfl, r.rebase, fun H' r' => ⟨r'.unbase r.ext, t.ext r'.ext fun b eb hb nd => ?_, r'.ext⟩⟩
    obtain ⟨o, ho, _⟩ := r.dom b hb
    exact absurd ⟨b, o, eb, hb, nd, ho⟩ own
theorem exOut_hold {G1 : Gh} (eO : G1.O = G.O) (h : ∀ H', Rep T K G1 ρ σ H' → Rep T K G ρ σ H') (x : Exn) (hx : exOut T K W G ρ σ x) : exOut T K W G1 ρ σ x := fun H' cls dd r' q => hx H' cls dd (h H' r') (by rw [← eO]; exact q)
/-! ### slices -/
abbrev PWo := En → (Option Int → Prop) → (Exn → Prop) → Prop
def wNo : PWo := fun _ Q _ => Q none
def wSo (w : PW) : PWo := fun ρ Q E => w ρ (fun d => match d with | .int i => Q (some i) | _ => False) E
structure DO (T : Tb) (X : Cx) (W : WX) (e : Option Expr) (w : PWo) : Prop where
  po : ∃ t : TO, PO X e t ∧ ∀ G ρ σ H R, Rep T X.K G ρ σ H → w ρ (fun o => ∀ H', Rep T X.K G ρ σ H' → R o H') (exOut T X.K W G ρ σ) → t σ H R
  mono : Mono w
theorem do_none : DO T X W none wNo := ⟨⟨tNoPart, po_none, fun G ρ σ H R r h => h H r⟩, fun _ _ _ _ _ hq _ h => hq _ h⟩
theorem do_some {w : PW} (h : DE T X W e w) : DO T X W (some e) (wSo w) := ⟨⟨_, po_some h.pe, fun G ρ σ H R r q => ⟨G, ρ, r, h.mono _ _ _ _ _ (fun d hd v H' r' a => by cases a <;> first | exact ⟨_, rfl, hd H' r'⟩ | exact hd.elim) (fun _ z => z) q⟩⟩,
  fun ρ Q Q' E E' hq he q => h.mono _ _ _ _ _ (fun d hd => by cases d <;> first | exact hq _ hd | exact hd) he q⟩
def cutD (xs : List PyData) (lo hi : Option Int) : List PyData := (xs.drop (HT.sIx xs.length 0 lo)).take (HT.sIx xs.length xs.length hi - HT.sIx xs.length 0 lo)
theorem cut_da {vs : List V} {ds : List PyData} (h : DaAll K H vs ds) (lo hi : Option Int) : DaAll K H (cutV vs lo hi) (cutD ds lo hi) := by
  unfold cutV cutD
  rw [h.length]
  exact (h.drop _).take _
def fSlL (x : PyData) (lo hi : Option Int) (Q : PyData → Prop) : Prop := match x with
  | .list xs => Q (.list (cutD xs lo hi))
  | _ => False
def fSlS (x : PyData) (lo hi : Option Int) (Q : PyData → Prop) : Prop := match x with
  | .tuple xs => Q (.tuple (cutD xs lo hi))
  | .str z => z.length ≤ sizeLine ∧ Q (.str (cutS z lo hi))
  | _ => False
def wSl (f : PyData → Option Int → Option Int → (PyData → Prop) → Prop) (w : PW) (wl wh : PWo) : PW := fun ρ Q E => w ρ (fun x => wl ρ (fun l => wh ρ (fun h => f x l h Q) E) E) E
theorem mono_Sl {f : PyData → Option Int → Option Int → (PyData → Prop) → Prop} {w : PW} {wl wh : PWo} (mf : ∀ x l h Q Q', (∀ d, Q d → Q' d) → f x l h Q → f x l h Q') (m : Mono w) (ml : Mono wl) (mh : Mono wh) : Mono (wSl f w wl wh) := fun ρ Q Q' E E' hq he q =>
  m _ _ _ _ _ (fun x hx => ml _ _ _ _ _ (fun l hl => mh _ _ _ _ _ (fun h hh => mf _ _ _ _ _ hq hh) he hl) he hx) he q
theorem mono_SlL : ∀ x l h Q Q', (∀ d, Q d → Q' d) → fSlL x l h Q → fSlL x l h Q' := fun x l h Q Q' hq q => by cases x <;> first | exact hq _ q | exact q
theorem mono_SlS : ∀ x l h Q Q', (∀ d, Q d → Q' d) → fSlS x l h Q → fSlS x l h Q' := fun x l h Q Q' hq q => by cases x <;> first | exact hq _ q | exact ⟨q.1, hq _ q.2⟩ | exact q
theorem sl_core {w : PW} {wl wh : PWo} {lo hi : Option Expr} {P : PyData → Option Int → Option Int → Prop} {R : V → Option Int → Option Int → Hp → Prop} {tl th : TO} (h : DR T X W e w) (ml : Mono wl) (mh : Mono wh)
    (hl : ∀ G ρ σ H R, Rep T X.K G ρ σ H → wl ρ (fun o => ∀ H', Rep T X.K G ρ σ H' → R o H') (exOut T X.K W G ρ σ) → tl σ H R) (hh : ∀ G ρ σ H R, Rep T X.K G ρ σ H → wh ρ (fun o => ∀ H', Rep T X.K G ρ σ H' → R o H') (exOut T X.K W G ρ σ) → th σ H R)
    (r : Rep T X.K G ρ σ H) (hR : ∀ v d l h H', P d l h → Rep T X.K G ρ σ H' → Top X.K T.dc G.O H' v d → R v l h H')
    (q : w ρ (fun x => wl ρ (fun l => wh ρ (fun h => P x l h) (exOut T X.K W G ρ σ)) (exOut T X.K W G ρ σ)) (exOut T X.K W G ρ σ)) :
    liftR T X.K W w σ H fun v H1 => tl σ H1 fun l H2 => th σ H2 fun u H3 => R v l u H3 := by
  refine ⟨G, ρ, r, h.mono _ _ _ _ _ (fun x hx v H1 r1 t1 => ?_) (fun _ z => z) q⟩
  obtain ⟨G1, eO, r1', keep⟩ := r1.hold t1
  refine hl G1 ρ σ H1 _ r1' (ml _ _ _ _ _ (fun l hl2 H2 r2 => ?_) (fun x hx => exOut_hold eO (fun H' z => (keep H' z).1) x hx) hx)
  refine hh G1 ρ σ H2 _ r2 (mh _ _ _ _ _ (fun u hu H3 r3 => ?_) (fun x hx => exOut_hold eO (fun H' z => (keep H' z).1) x hx) hl2)
  obtain ⟨r4, t4, _⟩ := keep H3 r3
  exact hR v x l u H3 hu r4 t4
theorem df_sl {w : PW} {wl wh : PWo} {lo hi : Option Expr} {p2 : Pos} (h : DR T X W e w) (hl : DO T X W lo wl) (hh : DO T X W hi wh) : DF T X W (.Subscript e (.Slice lo hi none p2) pos) (wSl fSlL w wl wh) := by
  obtain ⟨⟨tl, pl, ql⟩, ml⟩ := hl
  obtain ⟨⟨th, ph, qh⟩, mh⟩ := hh
  refine ⟨pe_mono (pe_slice sl_list h.pe pl ph) fun σ H Q q => ?_, mono_Sl mono_SlL h.mono ml mh⟩
  obtain ⟨G, ρ, r, q⟩ := q
  refine sl_core (lo := lo) (hi := hi) h ml mh ql qh r (fun v d l u H' hd r' t => ?_) q
  cases d with
  | list xs =>
    obtain ⟨a, vs, rfl, ha, hx⟩ := t.da
    refine ⟨a, vs, rfl, SqL.of ha, fun p hp => ?_⟩
    obtain ⟨r2, na, ap, h1, h2⟩ := r'.newL hp (cut_da hx l u)
    exact hd p _ _ _ rfl r2 na ap h1 h2
  | _ => exact hd.elim
theorem sl_d : SlR X fun x lo hi H Q => rSlA X.K x lo hi H Q ∨ rSlS x lo hi H Q := by
  intro pins s σ H x v vl vu lo hi sl Q I rx hs pl pu h
  rcases h with h | h
  · exact sl_tupA pins s σ H x v vl vu lo hi sl Q I rx hs pl pu h
  · exact sl_str pins s σ H x v vl vu lo hi sl Q I rx hs pl pu h
theorem cut_whole (xs : List PyData) (lo hi : Option Int) (h : HT.sIx xs.length 0 lo = 0 ∧ HT.sIx xs.length xs.length hi = xs.length) : cutD xs lo hi = xs := by
  unfold cutD
  rw [h.1, h.2, List.drop_zero, Nat.sub_zero, List.take_length]
theorem de_sl {w : PW} {wl wh : PWo} {lo hi : Option Expr} {p2 : Pos} (h : DR T X W e w) (hl : DO T X W lo wl) (hh : DO T X W hi wh) : DE T X W (.Subscript e (.Slice lo hi none p2) pos) (wSl fSlS w wl wh) := by
  obtain ⟨⟨tl, pl, ql⟩, ml⟩ := hl
  obtain ⟨⟨th, ph, qh⟩, mh⟩ := hh
  refine ⟨pe_mono (pe_slice sl_d h.pe pl ph) fun σ H Q q => ?_, mono_Sl mono_SlS h.mono ml mh⟩
  obtain ⟨G, ρ, r, q⟩ := q
  refine sl_core (lo := lo) (hi := hi) h ml mh ql qh r (fun v d l u H' hd r' t => ?_) q
  cases d with
  | tuple xs =>
    obtain ⟨a, vs, rfl, ha', ha, hx⟩ := t.tup
    refine .inl ⟨a, vs, rfl, ha, fun hw => hd _ H' r' ?_, fun _ p hp => ?_⟩
    · rw [cut_whole xs l u (by rw [← hx.length]; exact hw)]
      exact .tup ha' hx
    · obtain ⟨r2, e2, np, h2⟩ := r'.new (o := .tup (cutV vs l u)) hp
      exact hd _ _ r2 (.tup (SqT.of h2) ((cut_da hx l u).ext e2))
  | str z =>
    have e := t.str
    subst e
    exact .inr ⟨z, rfl, hd.1, hd.2 _ H' r' (.str _)⟩
  | _ => exact hd.elim
/-! ### built-ins of one argument -/
def w1 (f : PyData → (PyData → Prop) → Prop) (w : PW) : PW := fun ρ Q E => w ρ (fun x => f x Q) E
def MonoF1 (f : PyData → (PyData → Prop) → Prop) : Prop := ∀ x Q Q', (∀ d, Q d → Q' d) → f x Q → f x Q'
theorem mono_1 {f : PyData → (PyData → Prop) → Prop} {w : PW} (mf : MonoF1 f) (m : Mono w) : Mono (w1 f w) := fun ρ Q Q' E E' hq he h => m _ _ _ _ _ (fun x hx => mf _ _ _ hq hx) he h
def CallD (T : Tb) (X : Cx) (g : Value) (f : PyData → (PyData → Prop) → Prop) : Prop :=
  CallR X g fun xs H Q => ∃ (x : V) (G : Gh) (ρ : En) (σ : L2.St) (d : PyData), xs = [x] ∧ Rep T X.K G ρ σ H ∧ Top X.K T.dc G.O H x d ∧ f d fun r => ∀ v H', Rep T X.K G ρ σ H' → Da X.K (hide G.O H') v r → Q v H'
def CallF (T : Tb) (X : Cx) (g : Value) (f : PyData → (PyData → Prop) → Prop) : Prop :=
  CallR X g fun xs H Q => ∃ (x : V) (G : Gh) (ρ : En) (σ : L2.St) (d : PyData), xs = [x] ∧ Rep T X.K G ρ σ H ∧ Top X.K T.dc G.O H x d ∧ f d fun r => ∀ a vs ds H', r = .list ds → Rep T X.K ⟨G.Hb, a :: G.O, G.fl⟩ ρ σ H' → a ∉ G.O → Apt ρ σ a → H' a = some (.lst vs) → DaAll X.K (hide (a :: G.O) H') vs ds → Q (.ref a) H'
/-- a row of one, read only -/
theorem pa_one {te : TE} {t : V → Hp → Prop} (h : PE X e te) (hs : starEach [e] X.env = (false, eval e X.env) :: starEach [] X.env := by rfl) : PA X [e] (tCons te tNil) := pa_cons h pa_nil hs
theorem one_core {w : PW} {f : PyData → (PyData → Prop) → Prop} {Q : VK} {P : PyData → Prop} {R : List V → Hp → Prop} (h : DR T X W e w) (r : Rep T X.K G ρ σ H) (q : w ρ (fun d => f d P) (exOut T X.K W G ρ σ))
    (hR : ∀ v d H', f d P → Rep T X.K G ρ σ H' → Top X.K T.dc G.O H' v d → R [v] H') : tCons (liftR T X.K W w) tNil σ H R :=
  ⟨G, ρ, r, h.mono _ _ _ _ _ (fun d hd v H' r' t => hR v d H' hd r' t) (fun _ z => z) q⟩
theorem de_callB {x : Str} {id : String} {f : PyData → (PyData → Prop) → Prop} {w : PW} (hc : CallD T X (.builtin id) f) (mf : MonoF1 f) (hg : Gl X x) (hm : X.mg x = none) (hv : bootBuiltins x = some (.builtin id)) (h : DR T X W e w)
    (hn : x ≠ "__name__" := by decide) (hdb : (x == ("__debug__" : Str)) = false := by decide) (he : starEach [e] X.env = (false, eval e X.env) :: starEach [] X.env := by rfl) :
    DE T X W (.Call (.Name x p) [e] [] pos) (w1 f w) :=
  ⟨pe_mono (pe_callB hc hg hm hv (pa_cons h.pe pa_nil he) hn hdb he rfl) fun σ H Q q => by
    obtain ⟨G, ρ, r, q⟩ := q
    exact one_core (Q := Q) h r q fun v d H' hd r' t => ⟨v, G, ρ, σ, d, rfl, r', t, hd⟩, mono_1 mf h.mono⟩
theorem de_callTy {x : Str} {id : String} {f : PyData → (PyData → Prop) → Prop} {w : PW} (hc : CallD T X (.type id) f) (mf : MonoF1 f) (hg : Gl X x) (hm : X.mg x = none) (hv : bootBuiltins x = some (.type id)) (h : DR T X W e w)
    (hn : x ≠ "__name__" := by decide) (hdb : (x == ("__debug__" : Str)) = false := by decide) (he : starEach [e] X.env = (false, eval e X.env) :: starEach [] X.env := by rfl) :
    DE T X W (.Call (.Name x p) [e] [] pos) (w1 f w) :=
  ⟨pe_mono (pe_callTy hc hg hm hv (pa_cons h.pe pa_nil he) hn hdb he rfl) fun σ H Q q => by
    obtain ⟨G, ρ, r, q⟩ := q
    exact one_core (Q := Q) h r q fun v d H' hd r' t => ⟨v, G, ρ, σ, d, rfl, r', t, hd⟩, mono_1 mf h.mono⟩
theorem df_callB {x : Str} {id : String} {f : PyData → (PyData → Prop) → Prop} {w : PW} (hc : CallF T X (.builtin id) f) (mf : MonoF1 f) (hg : Gl X x) (hm : X.mg x = none) (hv : bootBuiltins x = some (.builtin id)) (h : DR T X W e w)
    (hn : x ≠ "__name__" := by decide) (hdb : (x == ("__debug__" : Str)) = false := by decide) (he : starEach [e] X.env = (false, eval e X.env) :: starEach [] X.env := by rfl) :
    DF T X W (.Call (.Name x p) [e] [] pos) (w1 f w) :=
  ⟨pe_mono (pe_callB hc hg hm hv (pa_cons h.pe pa_nil he) hn hdb he rfl) fun σ H Q q => by
    obtain ⟨G, ρ, r, q⟩ := q
    exact one_core (Q := Q) h r q fun v d H' hd r' t => ⟨v, G, ρ, σ, d, rfl, r', t, hd⟩, mono_1 mf h.mono⟩
theorem df_callTy {x : Str} {id : String} {f : PyData → (PyData → Prop) → Prop} {w : PW} (hc : CallF T X (.type id) f) (mf : MonoF1 f) (hg : Gl X x) (hm : X.mg x = none) (hv : bootBuiltins x = some (.type id)) (h : DR T X W e w)
    (hn : x ≠ "__name__" := by decide) (hdb : (x == ("__debug__" : Str)) = false := by decide) (he : starEach [e] X.env = (false, eval e X.env) :: starEach [] X.env := by rfl) :
    DF T X W (.Call (.Name x p) [e] [] pos) (w1 f w) :=
  ⟨pe_mono (pe_callTy hc hg hm hv (pa_cons h.pe pa_nil he) hn hdb he rfl) fun σ H Q q => by
    obtain ⟨G, ρ, r, q⟩ := q
    exact one_core (Q := Q) h r q fun v d H' hd r' t => ⟨v, G, ρ, σ, d, rfl, r', t, hd⟩, mono_1 mf h.mono⟩
/-- len -/
def fLen : PyData → (PyData → Prop) → Prop
  | .list xs, Q => Q (.int xs.length)
  | .tuple xs, Q => Q (.int xs.length)
  | .str z, Q => z.length ≤ sizeLine ∧ Q (.int z.length)
  | _, _ => False
theorem mono_len : MonoF1 fLen := fun x Q Q' hq h => by cases x <;> first | exact hq _ h | exact ⟨h.1, hq _ h.2⟩ | exact h
theorem cd_len : CallD T X (.builtin "len") fLen := by
  intro pins s σ0 H xs us Q I rx q
  obtain ⟨x, G, ρ, σ, d, rfl, r, t, q⟩ := q
  cases d with
  | list ds =>
    obtain ⟨a, vs, rfl, ha, hx⟩ := t.da
    exact call_len pins s σ0 H _ us Q I rx ⟨_, vs.length, rfl, .inl ⟨vs, SqL.of ha, rfl⟩, by rw [hx.length]; exact q _ H r (.int _)⟩
  | tuple ds =>
    obtain ⟨a, vs, rfl, _, ha, hx⟩ := t.tup
    exact call_len pins s σ0 H _ us Q I rx ⟨_, vs.length, rfl, .inr ⟨vs, ha, rfl⟩, by rw [hx.length]; exact q _ H r (.int _)⟩
  | str z =>
    have e := t.str
    subst e
    exact call_len pins s σ0 H _ us Q I rx ⟨_, z.length, rfl, ⟨q.1, rfl⟩, q.2 _ H r (.int _)⟩
  | _ => exact q.elim
/-- tuple(xs) -/
def fTuple : PyData → (PyData → Prop) → Prop
  | .list xs, Q => Q (.tuple xs)
  | .tuple xs, Q => Q (.tuple xs)
  | _, _ => False
theorem mono_tuple : MonoF1 fTuple := fun x Q Q' hq h => by cases x <;> first | exact hq _ h | exact h
theorem cd_tuple : CallD T X (.type "tuple") fTuple := by
  intro pins s σ0 H xs us Q I rx q
  obtain ⟨x, G, ρ, σ, d, rfl, r, t, q⟩ := q
  cases d with
  | list ds =>
    obtain ⟨a, vs, rfl, ha, hx⟩ := t.da
    refine call_tuple_of pins s σ0 H _ us Q I rx ⟨a, vs, rfl, .inl ⟨SqL.of ha, fun p hp => ?_⟩⟩
    obtain ⟨r2, e2, np, h2⟩ := r.new (o := .tup vs) hp
    exact q _ _ r2 (.tup (SqT.of h2) (hx.ext e2))
  | tuple ds =>
    obtain ⟨a, vs, rfl, ha', ha, hx⟩ := t.tup
    exact call_tuple_of pins s σ0 H _ us Q I rx ⟨a, vs, rfl, .inr ⟨ha, q _ H r (.tup ha' hx)⟩⟩
  | _ => exact q.elim
/-- list(xs), new -/
def fList : PyData → (PyData → Prop) → Prop
  | .list xs, Q => Q (.list xs)
  | .tuple xs, Q => Q (.list xs)
  | _, _ => False
theorem mono_list : MonoF1 fList := fun x Q Q' hq h => by cases x <;> first | exact hq _ h | exact h
theorem cf_list : CallF T X (.type "list") fList := by
  intro pins s σ0 H xs us Q I rx q
  obtain ⟨x, G, ρ, σ, d, rfl, r, t, q⟩ := q
  cases d with
  | list ds =>
    obtain ⟨a, vs, rfl, ha, hx⟩ := t.da
    refine call_list_of pins s σ0 H _ us Q I rx ⟨a, vs, rfl, .inl (SqL.of ha), fun p hp => ?_⟩
    obtain ⟨r2, na, ap, h1, h2⟩ := r.newL hp hx
    exact q p _ _ _ rfl r2 na ap h1 h2
  | tuple ds =>
    obtain ⟨a, vs, rfl, ha', ha, hx⟩ := t.tup
    refine call_list_of pins s σ0 H _ us Q I rx ⟨a, vs, rfl, .inr ha, fun p hp => ?_⟩
    obtain ⟨r2, na, ap, h1, h2⟩ := r.newL hp hx
    exact q p _ _ _ rfl r2 na ap h1 h2
  | _ => exact q.elim
/-- int(n), int(flag); str(n); abs(n) -/
def fInt : PyData → (PyData → Prop) → Prop
  | .int i, Q => Q (.int i)
  | .bool k, Q => Q (.int (if k then 1 else 0))
  | _, _ => False
theorem mono_int : MonoF1 fInt := fun x Q Q' hq h => by cases x <;> first | exact hq _ h | exact h
theorem cd_int : CallD T X (.type "int") fInt := by
  intro pins s σ0 H xs us Q I rx q
  obtain ⟨x, G, ρ, σ, d, rfl, r, t, q⟩ := q
  cases d with
  | int i => have e := t.int; subst e; exact call_int1 pins s σ0 H _ us Q I rx (.inl ⟨i, rfl, q _ H r (.int _)⟩)
  | bool i => have e := t.bl; subst e; exact call_int1 pins s σ0 H _ us Q I rx (.inr ⟨i, rfl, q _ H r (.int _)⟩)
  | _ => exact q.elim
def fStrI : PyData → (PyData → Prop) → Prop
  | .int i, Q => i.natAbs.log2 < 1920 ∧ Q (.str (toString i))
  | _, _ => False
theorem mono_strI : MonoF1 fStrI := fun x Q Q' hq h => by cases x <;> first | exact ⟨h.1, hq _ h.2⟩ | exact h
theorem cd_strI : CallD T X (.type "str") fStrI := by
  intro pins s σ0 H xs us Q I rx q
  obtain ⟨x, G, ρ, σ, d, rfl, r, t, q⟩ := q
  cases d with
  | int i => have e := t.int; subst e; exact call_str_int pins s σ0 H _ us Q I rx ⟨i, rfl, q.1, q.2 _ H r (.str _)⟩
  | _ => exact q.elim
def fAbs : PyData → (PyData → Prop) → Prop
  | .int i, Q => Q (.int (if i < 0 then -i else i))
  | _, _ => False
theorem mono_abs : MonoF1 fAbs := fun x Q Q' hq h => by cases x <;> first | exact hq _ h | exact h
theorem cd_abs : CallD T X (.builtin "abs") fAbs := by
  intro pins s σ0 H xs us Q I rx q
  obtain ⟨x, G, ρ, σ, d, rfl, r, t, q⟩ := q
  cases d with
  | int i => have e := t.int; subst e; exact call_abs pins s σ0 H _ us Q I rx ⟨i, rfl, q _ H r (.int _)⟩
  | _ => exact q.elim
end
end PL
set_option Elab.async false
set_option linter.all false
set_option maxRecDepth 100000
set_option maxHeartbeats 2000000
namespace PL
open PySem PySem.Spec PyProof.Rows L2
open LamX (ExtN Tabs TabS)
section
variable {T : Tb} {X : Cx} {W : WX} {pos p apos : Pos} {e a b c o : Expr} {K : PySem.W.Frag} {G : Gh} {ρ : En} {σ : L2.St} {H H' : Hp}
/-! ### the first least, the first greatest -/
def fMin : PyData → (PyData → Prop) → Prop
  | .list (x :: xs), Q => (PyData.plainAll (x :: xs) = true ∧ PyData.depthAll (x :: xs) ≤ 30 ∧ PySem.W.AlikeAll (x :: xs)) ∧ Q (PySem.W.minD x xs)
  | .tuple (x :: xs), Q => (PyData.plainAll (x :: xs) = true ∧ PyData.depthAll (x :: xs) ≤ 30 ∧ PySem.W.AlikeAll (x :: xs)) ∧ Q (PySem.W.minD x xs)
  | _, _ => False
def fMax : PyData → (PyData → Prop) → Prop
  | .list (x :: xs), Q => (PyData.plainAll (x :: xs) = true ∧ PyData.depthAll (x :: xs) ≤ 30 ∧ PySem.W.AlikeAll (x :: xs)) ∧ Q (PySem.W.maxD x xs)
  | .tuple (x :: xs), Q => (PyData.plainAll (x :: xs) = true ∧ PyData.depthAll (x :: xs) ≤ 30 ∧ PySem.W.AlikeAll (x :: xs)) ∧ Q (PySem.W.maxD x xs)
  | _, _ => False
theorem mono_min : MonoF1 fMin := fun x Q Q' hq h => by
  unfold fMin at h ⊢
  split at h
  · exact ⟨h.1, hq _ h.2⟩
  · exact ⟨h.1, hq _ h.2⟩
  · exact h
theorem mono_max : MonoF1 fMax := fun x Q Q' hq h => by
  unfold fMax at h ⊢
  split at h
  · exact ⟨h.1, hq _ h.2⟩
  · exact ⟨h.1, hq _ h.2⟩
  · exact h
theorem plain_of_mem : ∀ {ds : List PyData} {d : PyData}, PyData.plainAll ds = true → d ∈ ds → d.plain = true
  | [], _, _, h => by cases h
  | x :: xs, d, p, h => by
    simp only [PyData.plainAll, Bool.and_eq_true] at p
    rcases List.mem_cons.mp h with e | h
    · rw [e]; exact p.1
    · exact plain_of_mem p.2 h
/-- an item that reads as m is m -/
theorem item_is {pins : List (Addr × Obj)} {σ' : L2.St} {s : Shared} {O : List Addr} {vs : List V} {us : List Value} {ds : List PyData} {i : Nat} {u : Value} {m : PyData} {h' : Heap} {bs : List Addr} (I : Inv X pins σ' H s) (rv : Vals vs us) (ha : DaAll X.K (hide O H) vs ds) (pl : PyData.plainAll ds = true)
    (hu : us[i]? = some u) (k : ∀ b o, s.heap.get? b = some o → h'.get? b = some o) (rd : Reads h' u m bs) : ∃ v, RelV v u ∧ Da X.K (hide O H) v m := by
  obtain ⟨v, hv⟩ : ∃ v, vs[i]? = some v := by
    have : i < us.length := (List.getElem?_eq_some_iff.mp hu).1
    exact ⟨_, List.getElem?_eq_getElem (by rw [rv.length]; exact this)⟩
  obtain ⟨u', hu', r⟩ := rv.get hv
  rw [hu] at hu'
  cases hu'
  obtain ⟨d, hd, hda⟩ := ha.get hv
  have pd := plain_of_mem pl (List.mem_of_getElem? hd)
  obtain ⟨as, rr⟩ := Dp.reads I d v u (hda.whole.dp pd) r
  have e := SeqAt.plain_unique d m u as bs pd (PyProof.Rows.Reads.keeps k rr) rd
  exact ⟨v, r, by rw [← e]; exact hda⟩
theorem cd_min {k : Nat} (hr : Room k X.A) : CallD T X (.builtin "min") fMin := by
  intro pins s σ0 H xs us Q I rx q
  obtain ⟨x, G, ρ, σ, d, rfl, r, t, q⟩ := q
  have hu := hr.un
  unfold fMin at q
  cases rx with
  | cons r1 r2 =>
    cases r2
    split at q
    · rename_i y ys
      obtain ⟨⟨pl, dp, al⟩, q⟩ := q
      obtain ⟨a, vs, rfl, ha, hx⟩ := t.da
      cases r1
      obtain ⟨its, rv, pl', hz⟩ := I.list (SqL.of ha)
      obtain ⟨as, rr⟩ := Dp.readsAll I _ vs its (hx.whole.dp pl) rv
      refine PySem.W.min_list_data hr.hd (by obtain ⟨o, n, e1, e2, e3, e4⟩ := pl'; exact ⟨o, e1, e2, n, e4⟩) rr al (by omega) fun i v h' tk bs hi rd kp => ?_
      obtain ⟨w, rw', hw⟩ := item_is I rv hx pl (by simpa using hi) kp rd
      exact ⟨w, H, I.kept kp, rw', q w H r hw⟩
    · rename_i y ys
      obtain ⟨⟨pl, dp, al⟩, q⟩ := q
      obtain ⟨a, vs, rfl, _, ha, hx⟩ := t.tup
      cases r1
      obtain ⟨its, rv, pl', hz⟩ := I.tuple ha
      obtain ⟨as, rr⟩ := Dp.readsAll I _ vs its (hx.whole.dp pl) rv
      refine PySem.W.min_tuple_data hr.hd pl' rr al (by omega) fun i v h' tk bs hi rd kp => ?_
      obtain ⟨w, rw', hw⟩ := item_is I rv hx pl (by simpa using hi) kp rd
      exact ⟨w, H, I.kept kp, rw', q w H r hw⟩
    · exact q.elim
theorem cd_max {k : Nat} (hr : Room k X.A) : CallD T X (.builtin "max") fMax := by
  intro pins s σ0 H xs us Q I rx q
  obtain ⟨x, G, ρ, σ, d, rfl, r, t, q⟩ := q
  have hu := hr.un
  unfold fMax at q
  cases rx with
  | cons r1 r2 =>
    cases r2
    split at q
    · rename_i y ys
      obtain ⟨⟨pl, dp, al⟩, q⟩ := q
      obtain ⟨a, vs, rfl, ha, hx⟩ := t.da
      cases r1
      obtain ⟨its, rv, pl', hz⟩ := I.list (SqL.of ha)
      obtain ⟨as, rr⟩ := Dp.readsAll I _ vs its (hx.whole.dp pl) rv
      refine PySem.W.max_list_data hr.hd (by obtain ⟨o, n, e1, e2, e3, e4⟩ := pl'; exact ⟨o, e1, e2, n, e4⟩) rr al (by omega) fun i v h' tk bs hi rd kp => ?_
      obtain ⟨w, rw', hw⟩ := item_is I rv hx pl (by simpa using hi) kp rd
      exact ⟨w, H, I.kept kp, rw', q w H r hw⟩
    · rename_i y ys
      obtain ⟨⟨pl, dp, al⟩, q⟩ := q
      obtain ⟨a, vs, rfl, _, ha, hx⟩ := t.tup
      cases r1
      obtain ⟨its, rv, pl', hz⟩ := I.tuple ha
      obtain ⟨as, rr⟩ := Dp.readsAll I _ vs its (hx.whole.dp pl) rv
      refine PySem.W.max_tuple_data hr.hd pl' rr al (by omega) fun i v h' tk bs hi rd kp => ?_
      obtain ⟨w, rw', hw⟩ := item_is I rv hx pl (by simpa using hi) kp rd
      exact ⟨w, H, I.kept kp, rw', q w H r hw⟩
    · exact q.elim
/-! ### sorted of a list -/
def fSorted : PyData → (PyData → Prop) → Prop
  | .list xs, Q => (PyData.plainAll xs = true ∧ (∀ d ∈ xs, d.depth ≤ 30) ∧ PySem.W.AllAlike xs ∧ PySem.W.Sortable xs) ∧ Q (.list (xs.mergeSort (PySem.W.dataLe false id)))
  | _, _ => False
theorem mono_sorted : MonoF1 fSorted := fun x Q Q' hq h => by
  unfold fSorted at h ⊢
  split at h
  · exact ⟨h.1, hq _ h.2⟩
  · exact h
theorem each_da {O : List Addr} : ∀ {vs : List V} {us : List Value} {ds : List PyData}, Vals vs us → DaAll K (hide O H) vs ds → PySem.W.EachIs (fun u d => ∃ v, RelV v u ∧ Da K (hide O H) v d) us ds
  | _, _, _, .nil, .nil => .nil
  | _, _, _, .cons r rs, .cons h hs => .cons ⟨_, r, h⟩ (each_da rs hs)
theorem each_out {O : List Addr} : ∀ {us : List Value} {ds : List PyData}, PySem.W.EachIs (fun u d => ∃ v, RelV v u ∧ Da K (hide O H) v d) us ds → ∃ vs, Vals vs us ∧ DaAll K (hide O H) vs ds
  | _, _, .nil => ⟨[], .nil, .nil⟩
  | _, _, .cons ⟨v, r, h⟩ t => by
    obtain ⟨vs, rs, hs⟩ := each_out t
    exact ⟨v :: vs, .cons r rs, .cons h hs⟩
theorem each_reads {pins : List (Addr × Obj)} {σ' : L2.St} {s : Shared} {O : List Addr} (I : Inv X pins σ' H s) : ∀ {vs : List V} {us : List Value} {ds : List PyData}, Vals vs us → DaAll X.K (hide O H) vs ds → PyData.plainAll ds = true → PySem.W.EachIs (fun u d => ∃ as, Reads s.heap u (id d) as) us ds
  | _, _, _, .nil, .nil, _ => .nil
  | _, _, _, .cons r rs, .cons h hs, p => by
    simp only [PyData.plainAll, Bool.and_eq_true] at p
    exact .cons (Dp.reads I _ _ _ (h.whole.dp p.1) r) (each_reads I rs hs p.2)
theorem cf_sorted {k : Nat} (hr : Room k X.A) : CallF T X (.builtin "sorted") fSorted := by
  intro pins s σ0 H xs us Q I rx q
  obtain ⟨x, G, ρ, σ, d, rfl, r, t, q⟩ := q
  have hu := hr.un
  unfold fSorted at q
  cases rx with
  | cons r1 r2 =>
    cases r2
    split at q
    · rename_i ds
      obtain ⟨⟨pl, dp, al, so⟩, q⟩ := q
      obtain ⟨a, vs, rfl, ha, hx⟩ := t.da
      cases r1
      obtain ⟨its, rv, pl', hz⟩ := I.list (SqL.of ha)
      refine PySem.W.sorted_data (R := fun u d => ∃ v, RelV v u ∧ Da X.K (hide G.O H) v d) (enc := id) (by obtain ⟨o, n, e1, e2, e3, e4⟩ := pl'; exact ⟨o, e1, e2, n, e4⟩) (each_da rv hx) (each_reads I rv hx pl) (by rw [List.map_id]; exact al) (by rw [List.map_id]; exact so) (by rw [← hx.length]; exact hz) (fun b hb => by have := dp b hb; show _ + 2 + b.depth < _; omega) fun out hl eo => ?_
      obtain ⟨ws, rw', hw⟩ := each_out eo
      obtain ⟨ep, he'⟩ := PyProof.Rows.sortedAll_at s.heap its out.toArray
      have hn : H (s.heap.objs.size + 1) = none := I.hok.fresh (Nat.le_succ _)
      have hlen : ws.length ≤ sizeLine := by rw [rw'.length, hl, ← hx.length]; exact hz
      obtain ⟨r2, na, ap, h1, h2⟩ := r.newL hn hw
      exact ⟨.ref _, upd H (s.heap.objs.size + 1) (.lst ws), I.laid (t' := s.toks) (fun _ _ => PyProof.Rows.sortedAll_old) (Nat.le_succ _) ⟨hlen, out, ep, rw', he'⟩, rfl, q _ _ _ _ rfl r2 na ap h1 h2⟩
    · exact q.elim
/-! ### sum of a list of ints -/
def allInts : List PyData → Option (List Int)
  | [] => some []
  | .int i :: r => (allInts r).map (i :: ·)
  | _ :: _ => none
theorem allInts_eq : ∀ {ds : List PyData} {ns : List Int}, allInts ds = some ns → ds = ns.map .int
  | [], ns, h => by cases h; rfl
  | d :: r, ns, h => by
    cases d <;> simp only [allInts] at h <;> try cases h
    rename_i i
    cases e : allInts r with
    | none => rw [e] at h; cases h
    | some ms =>
      rw [e] at h
      cases h
      rw [allInts_eq e]
      rfl
theorem allInts_map : ∀ ns : List Int, allInts (ns.map .int) = some ns
  | [] => rfl
  | n :: r => by
    rw [List.map_cons]
    show (allInts (r.map .int)).map (n :: ·) = _
    rw [allInts_map r]
    rfl
def fSum : PyData → (PyData → Prop) → Prop
  | .list xs, Q => match allInts xs with | some ns => Q (.int ns.sum) | none => False
  | _, _ => False
theorem mono_sum : MonoF1 fSum := fun x Q Q' hq h => by
  unfold fSum at h ⊢
  split at h
  · split at h
    · exact hq _ h
    · exact h
  · exact h
theorem cd_sum {k : Nat} (hr : Room k X.A) : CallD T X (.builtin "sum") fSum := by
  intro pins s σ0 H xs us Q I rx q
  obtain ⟨x, G, ρ, σ, d, rfl, r, t, q⟩ := q
  unfold fSum at q
  cases rx with
  | cons r1 r2 =>
    cases r2
    split at q
    · split at q
      · rename_i ns hns
        have e := allInts_eq hns
        subst e
        obtain ⟨a, vs, rfl, ha, hx⟩ := t.da
        have e := hx.ints
        subst e
        cases r1
        obtain ⟨its, rv, pl', hz⟩ := I.list (SqL.of ha)
        exact sum_raw hr.hd pl'.isList rv.ints fun h' tk t' hk => ⟨.int _, H, I.kept hk, ⟨_, rfl⟩, q _ H r (.int _)⟩
      · exact q.elim
    · exact q.elim
/-! ### built-ins of several arguments -/
def wA (f : List PyData → (PyData → Prop) → Prop) (ws : PWs) : PW := fun ρ Q E => ws ρ (fun ds => f ds Q) E
def MonoFA (f : List PyData → (PyData → Prop) → Prop) : Prop := ∀ x Q Q', (∀ d, Q d → Q' d) → f x Q → f x Q'
theorem mono_A {f : List PyData → (PyData → Prop) → Prop} {w : PWs} (mf : MonoFA f) (m : Mono w) : Mono (wA f w) := fun ρ Q Q' E E' hq he h => m _ _ _ _ _ (fun x hx => mf _ _ _ hq hx) he h
def CallDA (T : Tb) (X : Cx) (g : Value) (f : List PyData → (PyData → Prop) → Prop) : Prop :=
  CallR X g fun xs H Q => ∃ (G : Gh) (ρ : En) (σ : L2.St) (ds : List PyData), Rep T X.K G ρ σ H ∧ DaAll X.K (hide G.O H) xs ds ∧ f ds fun r => ∀ v H', Rep T X.K G ρ σ H' → Da X.K (hide G.O H') v r → Q v H'
theorem de_callBA {x : Str} {id : String} {f : List PyData → (PyData → Prop) → Prop} {ws : PWs} {es : List Expr} (hc : CallDA T X (.builtin id) f) (mf : MonoFA f) (hg : Gl X x) (hm : X.mg x = none) (hv : bootBuiltins x = some (.builtin id)) (h : DA T X W (e :: es) ws)
    (hn : x ≠ "__name__" := by decide) (hdb : (x == ("__debug__" : Str)) = false := by decide) (he : starEach (e :: es) X.env = (false, eval e X.env) :: starEach es X.env := by rfl) (hpl : (backTo pos (starEach es X.env)).any (·.1) = false := by rfl) :
    DE T X W (.Call (.Name x p) (e :: es) [] pos) (wA f ws) :=
  ⟨pe_mono (pe_callB hc hg hm hv h.pa hn hdb he hpl) fun σ H Q q => by
    obtain ⟨G, ρ, r, q⟩ := q
    exact ⟨G, ρ, r, h.mono _ _ _ _ _ (fun ds hd vs H' r' a => ⟨G, ρ, σ, ds, r', a, hd⟩) (fun _ z => z) q⟩, mono_A mf h.mono⟩
def fMax2 : List PyData → (PyData → Prop) → Prop
  | [.int i, .int j], Q => Q (.int (if j > i then j else i))
  | _, _ => False
def fMin2 : List PyData → (PyData → Prop) → Prop
  | [.int i, .int j], Q => Q (.int (if j < i then j else i))
  | _, _ => False
theorem mono_max2 : MonoFA fMax2 := fun x Q Q' hq h => by
  unfold fMax2 at h ⊢
  split at h
  · exact hq _ h
  · exact h
theorem mono_min2 : MonoFA fMin2 := fun x Q Q' hq h => by
  unfold fMin2 at h ⊢
  split at h
  · exact hq _ h
  · exact h
theorem cda_max2 (hc : X.calm = true) : CallDA T X (.builtin "max") fMax2 := by
  intro pins s σ0 H xs us Q I rx q
  obtain ⟨G, ρ, σ, ds, r, a, q⟩ := q
  unfold fMax2 at q
  split at q
  · cases a with
    | cons h1 a => cases a with
      | cons h2 a =>
        cases a
        cases h1
        cases h2
        exact call_max2 hc pins s σ0 H _ us Q I rx ⟨_, _, rfl, q _ H r (.int _)⟩
  · exact q.elim
theorem cda_min2 (hc : X.calm = true) : CallDA T X (.builtin "min") fMin2 := by
  intro pins s σ0 H xs us Q I rx q
  obtain ⟨G, ρ, σ, ds, r, a, q⟩ := q
  unfold fMin2 at q
  split at q
  · cases a with
    | cons h1 a => cases a with
      | cons h2 a =>
        cases a
        cases h1
        cases h2
        exact call_min2 hc pins s σ0 H _ us Q I rx ⟨_, _, rfl, q _ H r (.int _)⟩
  · exact q.elim
/-! ### texts -/
def allStrs : List PyData → Option (List Str)
  | [] => some []
  | .str i :: r => (allStrs r).map (i :: ·)
  | _ :: _ => none
theorem allStrs_eq : ∀ {ds : List PyData} {ns : List Str}, allStrs ds = some ns → ds = ns.map .str
  | [], ns, h => by cases h; rfl
  | d :: r, ns, h => by
    cases d <;> simp only [allStrs] at h <;> try cases h
    rename_i i
    cases e : allStrs r with
    | none => rw [e] at h; cases h
    | some ms =>
      rw [e] at h
      cases h
      rw [allStrs_eq e]
      rfl
theorem allStrs_map : ∀ ns : List Str, allStrs (ns.map .str) = some ns
  | [] => rfl
  | n :: r => by
    rw [List.map_cons]
    show (allStrs (r.map .str)).map (n :: ·) = _
    rw [allStrs_map r]
    rfl
theorem DaAll.strs : ∀ {vs : List V} (ns : List Str), DaAll K H vs (ns.map .str) → vs = ns.map V.str
  | _, [], .nil => rfl
  | _, n :: r, .cons h t => by
    cases h
    rw [DaAll.strs r t]
    rfl
theorem daAll_strs : ∀ (ns : List Str), DaAll K H (ns.map V.str) (ns.map .str)
  | [] => .nil
  | n :: r => .cons (.str n) (daAll_strs r)
/-- a method of a text with one argument -/
def wM1 (f : Str → PyData → (PyData → Prop) → Prop) (wa wb : PW) : PW := fun ρ Q E => wa ρ (fun x => match x with | .str a => wb ρ (fun y => f a y Q) E | _ => False) E
def MonoM (f : Str → PyData → (PyData → Prop) → Prop) : Prop := ∀ x y Q Q', (∀ d, Q d → Q' d) → f x y Q → f x y Q'
theorem mono_M1 {f : Str → PyData → (PyData → Prop) → Prop} {wa wb : PW} (mf : MonoM f) (ma : Mono wa) (mb : Mono wb) : Mono (wM1 f wa wb) := fun ρ Q Q' E E' hq he h => ma _ _ _ _ _ (fun x hx => by
  cases x <;> first | exact mb _ _ _ _ _ (fun y hy => mf _ _ _ _ hq hy) he hx | exact hx) he h
theorem m1_core {wa wb : PW} {P : Str → PyData → Prop} {R : V → V → Hp → Prop} (ha : DE T X W o wa) (hb : DR T X W e wb) (r : Rep T X.K G ρ σ H)
    (hP : ∀ a u H' y, Rep T X.K G ρ σ H' → Top X.K T.dc G.O H' u y → P a y → R (.str a) u H')
    (q : wa ρ (fun x => match x with | .str a => wb ρ (P a) (exOut T X.K W G ρ σ) | _ => False) (exOut T X.K W G ρ σ)) :
    lift T X.K W wa σ H fun x H1 => (∃ a, x = .str a) ∧ liftR T X.K W wb σ H1 fun y H2 => R x y H2 :=
  ⟨G, ρ, r, ha.mono _ _ _ _ _ (fun x hx v H1 r1 a1 => by
    cases a1 <;> first | exact hx.elim | skip
    exact ⟨⟨_, rfl⟩, G, ρ, r1, hb.mono _ _ _ _ _ (fun y hy u H2 r2 t2 => hP _ u H2 y r2 t2 hy) (fun _ z => z) hx⟩) (fun _ z => z) q⟩
def fJoin (a : Str) : PyData → (PyData → Prop) → Prop
  | .list xs, Q => match allStrs xs with | some ys => (ys.map (·.length)).sum + ys.length * a.length ≤ 16777216 ∧ Q (.str (Txt.join a ys)) | none => False
  | .tuple xs, Q => match allStrs xs with | some ys => (ys.map (·.length)).sum + ys.length * a.length ≤ 16777216 ∧ Q (.str (Txt.join a ys)) | none => False
  | _, _ => False
theorem mono_join : MonoM fJoin := fun x y Q Q' hq h => by
  unfold fJoin at h ⊢
  split at h
  · split at h
    · exact ⟨h.1, hq _ h.2⟩
    · exact h
  · split at h
    · exact ⟨h.1, hq _ h.2⟩
    · exact h
  · exact h
theorem de_join {wa wb : PW} (ho : DE T X W o wa) (he : DR T X W e wb) (hs : starEach [e] X.env = [(false, eval e X.env)] := by rfl) (hbase : attributeBase o "join" X.env (eval o X.env) = eval o X.env := by rfl) (hline : (apos.endLine == pos.line) = true := by rfl) :
    DE T X W (.Call (.Attribute o "join" apos) [e] [] pos) (wM1 fJoin wa wb) :=
  ⟨pe_mono (pe_join ho.pe he.pe hs hbase hline) fun σ H Q q => by
    obtain ⟨G, ρ, r, q⟩ := q
    refine m1_core (P := fun a y => fJoin a y fun d => ∀ v H', Rep T X.K G ρ σ H' → Da X.K (hide G.O H') v d → Q v H') ho he r (fun a u H' y r' t hp => ?_) q
    unfold fJoin at hp
    split at hp
    · split at hp
      · rename_i xs ys hys
        have e := allStrs_eq hys
        subst e
        obtain ⟨b, vs, rfl, hb, hx⟩ := t.da
        have e := hx.strs
        subst e
        exact ⟨a, b, ys, rfl, rfl, .inl (SqL.of hb), hp.1, hp.2 _ H' r' (.str _)⟩
      · exact hp.elim
    · split at hp
      · rename_i xs ys hys
        have e := allStrs_eq hys
        subst e
        obtain ⟨b, vs, rfl, _, hb, hx⟩ := t.tup
        have e := hx.strs
        subst e
        exact ⟨a, b, ys, rfl, rfl, .inr hb, hp.1, hp.2 _ H' r' (.str _)⟩
      · exact hp.elim
    · exact hp.elim, mono_M1 mono_join ho.mono he.mono⟩
def fSplit (a : Str) : PyData → (PyData → Prop) → Prop
  | .str b, Q => ((b.length == 0) = false ∧ a.length + 2 ≤ sizeLine) ∧ Q (.list ((Txt.split a b).map .str))
  | _, _ => False
theorem mono_split : MonoM fSplit := fun x y Q Q' hq h => by
  unfold fSplit at h ⊢
  split at h
  · exact ⟨h.1, hq _ h.2⟩
  · exact h
theorem df_split {wa wb : PW} (ho : DE T X W o wa) (he : DE T X W e wb) (hs : starEach [e] X.env = [(false, eval e X.env)] := by rfl) (hbase : attributeBase o "split" X.env (eval o X.env) = eval o X.env := by rfl) (hline : (apos.endLine == pos.line) = true := by rfl) :
    DF T X W (.Call (.Attribute o "split" apos) [e] [] pos) (wM1 fSplit wa wb) :=
  ⟨pe_mono (pe_split ho.pe (dr_of he).pe hs hbase hline) fun σ H Q q => by
    obtain ⟨G, ρ, r, q⟩ := q
    refine m1_core ho (dr_of he) r (fun a u H' y r' t hp => ?_) q
    unfold fSplit at hp
    split at hp
    · rename_i b
      have e := t.str
      subst e
      refine ⟨a, b, rfl, rfl, hp.1.1, hp.1.2, fun p hpn => ?_⟩
      obtain ⟨r2, na, ap, h1, h2⟩ := r'.newL hpn (daAll_strs (Txt.split a b))
      exact hp.2 p _ _ _ rfl r2 na ap h1 h2
    · exact hp.elim, mono_M1 mono_split ho.mono he.mono⟩
def fPart (a : Str) : PyData → (PyData → Prop) → Prop
  | .str b, Q => ((b.length == 0) = false ∧ a.length ≤ sizeLine) ∧ Q (.tuple [.str (Txt.partition a b).1, .str (Txt.partition a b).2.1, .str (Txt.partition a b).2.2])
  | _, _ => False
theorem mono_part : MonoM fPart := fun x y Q Q' hq h => by
  unfold fPart at h ⊢
  split at h
  · exact ⟨h.1, hq _ h.2⟩
  · exact h
theorem de_partition {wa wb : PW} (ho : DE T X W o wa) (he : DE T X W e wb) (hs : starEach [e] X.env = [(false, eval e X.env)] := by rfl) (hbase : attributeBase o "partition" X.env (eval o X.env) = eval o X.env := by rfl) (hline : (apos.endLine == pos.line) = true := by rfl) :
    DE T X W (.Call (.Attribute o "partition" apos) [e] [] pos) (wM1 fPart wa wb) :=
  ⟨pe_mono (pe_partition ho.pe (dr_of he).pe hs hbase hline) fun σ H Q q => by
    obtain ⟨G, ρ, r, q⟩ := q
    refine m1_core (P := fun a y => fPart a y fun d => ∀ v H', Rep T X.K G ρ σ H' → Da X.K (hide G.O H') v d → Q v H') ho (dr_of he) r (fun a u H' y r' t hp => ?_) q
    unfold fPart at hp
    split at hp
    · rename_i b
      have e := t.str
      subst e
      refine ⟨a, b, rfl, rfl, hp.1.1, hp.1.2, fun p hpn => ?_⟩
      obtain ⟨r2, e2, np, h2⟩ := r'.new (o := .tup [.str (Txt.partition a b).1, .str (Txt.partition a b).2.1, .str (Txt.partition a b).2.2]) hpn
      exact hp.2 _ _ r2 (.tup (SqT.of h2) (.cons (.str _) (.cons (.str _) (.cons (.str _) .nil))))
    · exact hp.elim, mono_M1 mono_part ho.mono he.mono⟩
end
end PL
set_option Elab.async false
set_option linter.all false
set_option maxRecDepth 100000
set_option maxHeartbeats 2000000
namespace PL
open PySem PySem.Spec PyProof.Rows L2
open LamX (ExtN Tabs TabS)
abbrev W0 : WX := fun _ _ _ _ => False
/-! ### targets -/
abbrev GD := PyData → En → (En → Prop) → Prop
abbrev GDs := List PyData → En → (En → Prop) → Prop
def liftG (T : Tb) (K : PySem.W.Frag) (sl : List Nat) (g : GD) : TG := fun v σ H Q => ∃ G ρ d, Rep T K G ρ σ H ∧ Da K (hide G.O H) v d ∧ g d ρ fun ρ' => ∀ σ', Rep T K G ρ' σ' H → (∀ vs, (∀ i ∈ sl, i ∈ vs) → wipe σ' vs = wipe σ vs) → Q σ' H
def liftGs (T : Tb) (K : PySem.W.Frag) (sl : List Nat) (g : GDs) : TGs := fun v σ H Q => ∃ G ρ d, Rep T K G ρ σ H ∧ DaAll K (hide G.O H) v d ∧ g d ρ fun ρ' => ∀ σ', Rep T K G ρ' σ' H → (∀ vs, (∀ i ∈ sl, i ∈ vs) → wipe σ' vs = wipe σ vs) → Q σ' H
def Off (sl : List Nat) (ρ ρ' : En) : Prop := ∀ i, i ∉ sl → ρ'[i]? = ρ[i]?
def Shd (sl : List Nat) (ρ : En) : Prop := ∀ i ∈ sl, ∀ s, ρ[i]? = some s → s.owned = false
structure DG (T : Tb) (X : Cx) (sl : List Nat) (e : Expr) (g : GD) : Prop where
  pg : PG X e (liftG T X.K sl g)
  mono : ∀ d ρ Q Q', (∀ r, Q r → Q' r) → g d ρ Q → g d ρ Q'
  keep : ∀ d ρ Q, g d ρ Q → g d ρ fun ρ' => Q ρ' ∧ Off sl ρ ρ' ∧ Shd sl ρ'
structure DGs (T : Tb) (X : Cx) (sl : List Nat) (es : List Expr) (g : GDs) : Prop where
  pg : PGs X es (liftGs T X.K sl g)
  mono : ∀ d ρ Q Q', (∀ r, Q r → Q' r) → g d ρ Q → g d ρ Q'
  keep : ∀ d ρ Q, g d ρ Q → g d ρ fun ρ' => Q ρ' ∧ Off sl ρ ρ' ∧ Shd sl ρ'
theorem wipe_set {σ : L2.St} {i : Nat} {x : Option V} : ∀ {vs : List Nat}, i ∈ vs → wipe (σ.set i x) vs = wipe σ vs
  | [], h => by cases h
  | v :: vs, h => by
    show (wipe (σ.set i x) vs).set v none = (wipe σ vs).set v none
    by_cases hi : i ∈ vs
    · rw [wipe_set hi]
    · have e : i = v := (List.mem_cons.mp h).elim id fun z => absurd z hi
      subst e
      have key : ∀ {us : List Nat} {τ : L2.St}, i ∉ us → (wipe (τ.set i x) us) = (wipe τ us).set i x := fun {us} => by
        induction us with
        | nil => intro τ _; rfl
        | cons u r ih =>
          intro τ hn
          show (wipe (τ.set i x) r).set u none = ((wipe τ r).set u none).set i x
          rw [ih fun z => hn (List.mem_cons_of_mem _ z), List.set_comm _ _ (fun z => hn (by rw [z]; exact List.mem_cons_self))]
      rw [key hi, List.set_set]
theorem wipe_get {σ : L2.St} {i : Nat} : ∀ {vs : List Nat}, i ∉ vs → (wipe σ vs)[i]? = σ[i]?
  | [], _ => rfl
  | v :: vs, h => by
    show ((wipe σ vs).set v none)[i]? = _
    rw [List.getElem?_set_ne (fun z => h (by rw [z]; exact List.mem_cons_self)), wipe_get fun z => h (List.mem_cons_of_mem _ z)]
theorem wipe_in {σ : L2.St} {i : Nat} (hi : i < σ.length) : ∀ {vs : List Nat}, i ∈ vs → (wipe σ vs)[i]? = some none
  | [], h => by cases h
  | v :: vs, h => by
    show ((wipe σ vs).set v none)[i]? = _
    by_cases e : v = i
    · subst e
      rw [List.getElem?_set_self (by rw [wipe_length]; exact hi)]
    · rw [List.getElem?_set_ne e]
      exact wipe_in hi ((List.mem_cons.mp h).elim (fun z => absurd z.symm e) id)
def wipeE (ρ : En) : List Nat → En
  | [] => ρ
  | v :: vs => (wipeE ρ vs).set v .un
theorem wipeE_length (ρ : En) : ∀ vs, (wipeE ρ vs).length = ρ.length
  | [] => rfl
  | v :: vs => by
    show ((wipeE ρ vs).set v .un).length = _
    rw [List.length_set, wipeE_length ρ vs]
theorem wipeE_get {ρ : En} {i : Nat} : ∀ {vs : List Nat}, i ∉ vs → (wipeE ρ vs)[i]? = ρ[i]?
  | [], _ => rfl
  | v :: vs, h => by
    show ((wipeE ρ vs).set v .un)[i]? = _
    rw [List.getElem?_set_ne (fun z => h (by rw [z]; exact List.mem_cons_self)), wipeE_get fun z => h (List.mem_cons_of_mem _ z)]
theorem wipeE_in {ρ : En} {i : Nat} {s : Sl} : ∀ {vs : List Nat}, i ∈ vs → (wipeE ρ vs)[i]? = some s → s = .un
  | [], h, _ => by cases h
  | v :: vs, h, e => by
    have e : ((wipeE ρ vs).set v .un)[i]? = some s := e
    by_cases z : v = i
    · subst z
      by_cases hl : v < (wipeE ρ vs).length
      · rw [List.getElem?_set_self hl] at e
        exact (Option.some.inj e).symm
      · rw [List.getElem?_eq_none (by rw [List.length_set]; omega)] at e
        cases e
    · rw [List.getElem?_set_ne z] at e
      exact wipeE_in ((List.mem_cons.mp h).elim (fun y => absurd y.symm z) id) e
section
variable {T : Tb} {X : Cx} {W : WX} {pos p : Pos} {e a b c : Expr} {K : PySem.W.Frag} {G : Gh} {ρ ρ' : En} {σ σ' : L2.St} {H H' : Hp}
/-- a slot is set to a value -/
theorem Rep.setSh (r : Rep T K G ρ σ H) {i : Nat} {v : V} {d : PyData} (h : Da K (hide G.O H) v d) : Rep T K G (ρ.set i (.sh d)) (σ.set i (some v)) H where
  len := by rw [List.length_set, List.length_set]; exact r.len
  slot j s hs := by
    by_cases e : i = j
    · subst e
      have hl : i < ρ.length := by
        by_cases z : i < ρ.length
        · exact z
        · rw [List.getElem?_eq_none (by rw [List.length_set]; omega)] at hs; cases hs
      rw [List.getElem?_set_self hl] at hs
      cases hs
      exact ⟨some v, List.getElem?_set_self (by rw [← r.len]; exact hl), v, rfl, h⟩
    · rw [List.getElem?_set_ne e] at hs ⊢
      exact r.slot j s hs
  sep j k s t a hjk hj hk hs ht e1 e2 := by
    have nj : ∀ {l : Nat} {u : Sl}, (ρ.set i (.sh d))[l]? = some u → u.owned = true → l ≠ i := fun {l u} hl hu z => by
      subst z
      by_cases hz : l < ρ.length
      · rw [List.getElem?_set_self hz] at hl; cases hl; cases hu
      · rw [List.getElem?_eq_none (by rw [List.length_set]; omega)] at hl; cases hl
    have n1 := nj hj hs
    have n2 := nj hk ht
    rw [List.getElem?_set_ne (Ne.symm n1)] at hj e1
    rw [List.getElem?_set_ne (Ne.symm n2)] at hk e2
    exact r.sep j k s t a hjk hj hk hs ht e1 e2
  tab := r.tab
  ext := r.ext
  dom := r.dom
  fly := r.fly
  dcs := r.dcs
def gNameD (i : Nat) : GD := fun d ρ Q => Q (ρ.set i (.sh d))
theorem dg_name (i : Nat) (p : PG X e (gName i)) : DG T X [i] e (gNameD i) := ⟨⟨fun pins s σ H v u Q I rv h => p.run pins s σ H v u Q I rv (by
    obtain ⟨G, ρ, d, r, a, q⟩ := h
    exact q _ (r.setSh a) fun vs hv => wipe_set (hv i (List.mem_singleton.mpr rfl)))⟩, fun d ρ Q Q' hq h => hq _ h,
  fun d ρ Q h => ⟨h, fun j hj => List.getElem?_set_ne (fun z => hj (by rw [z]; exact List.mem_singleton.mpr rfl)), fun j hj s hs => by
    rw [List.mem_singleton.mp hj] at hs
    by_cases hl : i < ρ.length
    · rw [List.getElem?_set_self hl] at hs; cases hs; rfl
    · rw [List.getElem?_eq_none (by rw [List.length_set]; omega)] at hs; cases hs⟩⟩
def gNilD : GDs := fun ds ρ Q => ds = [] ∧ Q ρ
def gConsD (g : GD) (gs : GDs) : GDs := fun ds ρ Q => match ds with
  | d :: r => g d ρ fun ρ' => gs r ρ' Q
  | [] => False
theorem dgs_nil : DGs T X [] [] gNilD := ⟨⟨fun pins s σ H v u Q I rv h => pgs_nil.run pins s σ H v u Q I rv (by
    obtain ⟨G, ρ, d, r, a, rfl, q⟩ := h
    cases a
    exact ⟨rfl, q σ r fun _ _ => rfl⟩)⟩, fun d ρ Q Q' hq h => ⟨h.1, hq _ h.2⟩, fun d ρ Q h => ⟨h.1, h.2, fun _ _ => rfl, fun i hi => by cases hi⟩⟩
theorem dgs_cons {es : List Expr} {sl sls : List Nat} {g : GD} {gs : GDs} (h1 : DG T X sl e g) (h2 : DGs T X sls es gs)
    (hs : (assignEach (e :: es) X.env).map (·.2) = assign e X.env :: (assignEach es X.env).map (·.2) := by rfl) : DGs T X (sl ++ sls) (e :: es) (gConsD g gs) :=
  ⟨⟨fun pins s σ H v u Q I rv h => (pgs_cons h1.pg h2.pg hs).run pins s σ H v u Q I rv (by
    obtain ⟨G, ρ, ds, r, a, q⟩ := h
    cases a with
    | nil => exact q.elim
    | cons a1 a2 =>
      refine ⟨_, _, rfl, G, ρ, _, r, a1, h1.mono _ _ _ _ (fun ρ' q' σ' r' w' => ?_) q⟩
      exact ⟨G, ρ', _, r', a2, h2.mono _ _ _ _ (fun ρ'' q'' σ'' r'' w'' => q'' σ'' r'' fun vs hv => (w'' vs fun i hi => hv i (List.mem_append_right _ hi)).trans (w' vs fun i hi => hv i (List.mem_append_left _ hi))) q'⟩)⟩,
   fun ds ρ Q Q' hq h => by
    cases ds with
    | nil => exact h
    | cons d r => exact h1.mono _ _ _ _ (fun ρ' q' => h2.mono _ _ _ _ hq q') h,
   fun ds ρ Q h => by
    cases ds with
    | nil => exact h.elim
    | cons d r =>
      refine h1.mono _ _ _ _ (fun ρ' q' => ?_) (h1.keep _ _ _ h)
      refine h2.mono _ _ _ _ (fun ρ'' q'' => ⟨q''.1, fun i hi => (q''.2.1 i fun z => hi (List.mem_append_right _ z)).trans (q'.2.1 i fun z => hi (List.mem_append_left _ z)), fun i hi s hs => ?_⟩) (h2.keep _ _ _ q'.1)
      by_cases z : i ∈ sls
      · exact q''.2.2 i z s hs
      · rw [q''.2.1 i z] at hs
        exact q'.2.2 i ((List.mem_append.mp hi).resolve_right z) s hs⟩
def gTupD (n : Nat) (gs : GDs) : GD := fun d ρ Q => match d with
  | .tuple ds => ds.length = n ∧ gs ds ρ Q
  | _ => False
theorem dg_tup {es : List Expr} {k n : Nat} {sl : List Nat} {gs : GDs} (hc : X.calm = true) (h : DGs T X sl es gs) (hn : (assignEach es X.env).length = n := by rfl) (hst : (assignEach es X.env).findIdx? (·.1) = none := by rfl) : DG T X sl (.Tuple es k pos) (gTupD n gs) :=
  ⟨⟨fun pins s σ H v u Q I rv q => (pg_tup hc h.pg hn hst).run pins s σ H v u Q I rv (by
    obtain ⟨G, ρ, d, r, a, q⟩ := q
    cases d with
    | tuple ds =>
      obtain ⟨t, xs, rfl, ht', ht, hx⟩ := (Top.sh (D0 := []) a).tup
      exact ⟨t, xs, rfl, ht, by rw [hx.length]; exact q.1, G, ρ, ds, r, hx, q.2⟩
    | _ => exact q.elim)⟩,
   fun d ρ Q Q' hq q => by cases d <;> first | exact ⟨q.1, h.mono _ _ _ _ hq q.2⟩ | exact q,
   fun d ρ Q q => by cases d <;> first | exact ⟨q.1, h.keep _ _ _ q.2⟩ | exact q.elim⟩

/-! ### what is walked -/
/-- J hands out ds while what stood in B stands -/
def WkJ (K : PySem.W.Frag) (B : Hp) (J : It) (ds : List PyData) : Prop := ∀ (O : List Addr) (H : Hp), ExtN B (hide O H) → (∀ a ∈ O, H a ≠ none) →
  (∀ (i : Nat) (d : PyData), ds[i]? = some d → J.go i H ∧ ∀ x H3, J.yld i H x H3 → (∀ b o, H b = some o → H3 b = some o) ∧ Da K (hide O H3) x d) ∧ ∀ i : Nat, ds.length ≤ i → J.stop i H
def liftI (T : Tb) (K : PySem.W.Frag) (W : WX) (w : PWs) : TI := fun σ H R => ∃ G ρ, Rep T K G ρ σ H ∧ w ρ (fun ds => ∀ J H', Rep T K G ρ σ H' → WkJ K (hide G.O H') J ds → R J H') (exOut T K W G ρ σ)
structure DI (T : Tb) (X : Cx) (W : WX) (tg iter : Expr) (w : PWs) : Prop where
  pi : PI X tg iter (liftI T X.K W w)
  mono : Mono w
theorem pi_mono {tg iter : Expr} {t t' : TI} (h : PI X tg iter t) (i : ∀ σ H Q, t' σ H Q → t σ H Q) : PI X tg iter t' := ⟨fun pins s σ H Q I q => h.run pins s σ H Q I (i _ _ _ q)⟩
theorem wk_list {a : Addr} {vs : List V} {ds : List PyData} {B : Hp} (h : B a = some (.lst vs)) (hx : DaAll K B vs ds) : WkJ K B (Itl K a) ds := fun O H e dm => by
  have ha : hide O H a = some (.lst vs) := e _ _ h fun ps z => by cases z
  have ha2 := (hide_some ha).2
  refine ⟨fun i d hd => ?_, fun i hi => ⟨vs, SqL.of ha2, by rw [hx.length]; exact hi⟩⟩
  obtain ⟨v, h1, h2⟩ := hx.getD hd
  exact ⟨⟨vs, v, SqL.of ha2, h1⟩, fun x H3 hy => by
    obtain ⟨rfl, q⟩ := hy
    have := q vs (SqL.of ha2)
    rw [h1] at this
    cases this
    exact ⟨fun _ _ e => e, h2.ext e⟩⟩
theorem wk_tup {a : Addr} {vs : List V} {ds : List PyData} {B : Hp} (h : SqT K B a vs) (hx : DaAll K B vs ds) : WkJ K B (Itt K a) ds := fun O H e dm => by
  have ha2 : SqT K H a vs := sqT_whole (sqT_ext e h)
  refine ⟨fun i d hd => ?_, fun i hi => ⟨vs, ha2, by rw [hx.length]; exact hi⟩⟩
  obtain ⟨v, h1, h2⟩ := hx.getD hd
  exact ⟨⟨vs, v, ha2, h1⟩, fun x H3 hy => by
    obtain ⟨rfl, q⟩ := hy
    have := q vs ha2
    rw [h1] at this
    cases this
    exact ⟨fun _ _ e => e, h2.ext e⟩⟩
def rangeD (lo : Int) (n : Nat) : List PyData := (List.range n).map fun i => .int (lo + (i : Nat))
theorem wk_range {lo : Int} {n : Nat} {B : Hp} : WkJ K B (Itr lo n) (rangeD lo n) := fun O H e dm => by
  have hl : (rangeD lo n).length = n := by unfold rangeD; simp
  refine ⟨fun i d hd => ?_, fun i hi => by rw [hl] at hi; exact hi⟩
  have hi : i < n := by
    have := (List.getElem?_eq_some_iff.mp hd).1
    rw [hl] at this; exact this
  have ed : d = .int (lo + (i : Nat)) := by
    unfold rangeD at hd
    rw [List.getElem?_map, List.getElem?_range hi] at hd
    exact (Option.some.inj hd).symm
  subst ed
  exact ⟨hi, fun x H3 hy => by
    obtain ⟨rfl, rfl⟩ := hy
    exact ⟨fun _ _ e => e, .int _⟩⟩
def wItL (w : PW) : PWs := fun ρ Q E => w ρ (fun d => match d with | .list ds => Q ds | _ => False) E
def wItT (w : PW) : PWs := fun ρ Q E => w ρ (fun d => match d with | .tuple ds => Q ds | _ => False) E
theorem di_list {tg : Expr} {w : PW} (h : DE T X W e w) : DI T X W tg e (wItL w) := ⟨pi_mono (pi_list h.pe) fun σ H R q => by
    obtain ⟨G, ρ, r, q⟩ := q
    refine ⟨G, ρ, r, h.mono _ _ _ _ _ (fun d hd v H' r' a => ?_) (fun _ z => z) q⟩
    cases a with
    | lst h1 h2 => exact ⟨_, rfl, ⟨_, SqL.of (hide_some h1).2⟩, hd _ H' r' (wk_list h1 h2)⟩
    | _ => exact hd.elim, fun ρ Q Q' E E' hq he q => h.mono _ _ _ _ _ (fun d hd => by cases d <;> first | exact hq _ hd | exact hd) he q⟩
theorem di_tup {tg : Expr} {w : PW} (h : DE T X W e w) : DI T X W tg e (wItT w) := ⟨pi_mono (pi_tup h.pe) fun σ H R q => by
    obtain ⟨G, ρ, r, q⟩ := q
    refine ⟨G, ρ, r, h.mono _ _ _ _ _ (fun d hd v H' r' a => ?_) (fun _ z => z) q⟩
    cases a with
    | tup h1 h2 => exact ⟨_, rfl, ⟨_, sqT_whole h1⟩, hd _ H' r' (wk_tup h1 h2)⟩
    | _ => exact hd.elim, fun ρ Q Q' E E' hq he q => h.mono _ _ _ _ _ (fun d hd => by cases d <;> first | exact hq _ hd | exact hd) he q⟩
def wRng1 (ws : PWs) : PWs := fun ρ Q E => ws ρ (fun ds => match ds with | [.int j] => (-(2 ^ 62) ≤ j ∧ j < 2 ^ 62) ∧ Q (rangeD 0 j.toNat) | _ => False) E
def wRng2 (ws : PWs) : PWs := fun ρ Q E => ws ρ (fun ds => match ds with | [.int i, .int j] => (-(2 ^ 62) ≤ i ∧ i < 2 ^ 62 ∧ -(2 ^ 62) ≤ j ∧ j < 2 ^ 62) ∧ Q (rangeD i (j - i).toNat) | _ => False) E
theorem di_range1 {tg : Expr} {ws : PWs} (hg : Gl X "range") (hm : X.mg "range" = none) (h : DA T X W [a] ws) (hs : starEach [a] X.env = [(false, eval a X.env)] := by rfl) : DI T X W tg (.Call (.Name "range" p) [a] [] pos) (wRng1 ws) :=
  ⟨pi_mono (pi_range1 hg hm h.pa hs) fun σ H R q => by
    obtain ⟨G, ρ, r, q⟩ := q
    refine ⟨G, ρ, r, h.mono _ _ _ _ _ (fun ds hd vs H' r' a => ?_) (fun _ z => z) q⟩
    split at hd
    · cases a with
      | cons h1 a =>
        cases a
        cases h1
        exact ⟨_, rfl, hd.1.1, hd.1.2, hd.2 _ H' r' wk_range⟩
    · exact hd.elim, fun ρ Q Q' E E' hq he q => h.mono _ _ _ _ _ (fun ds hd => by
      split at hd
      · exact ⟨hd.1, hq _ hd.2⟩
      · exact hd.elim) he q⟩
theorem di_range2 {tg : Expr} {ws : PWs} (hg : Gl X "range") (hm : X.mg "range" = none) (h : DA T X W [a, b] ws) (hs : starEach [a, b] X.env = [(false, eval a X.env), (false, eval b X.env)] := by rfl) (hs2 : starEach [b] X.env = [(false, eval b X.env)] := by rfl) :
    DI T X W tg (.Call (.Name "range" p) [a, b] [] pos) (wRng2 ws) :=
  ⟨pi_mono (pi_range2 hg hm h.pa hs hs2) fun σ H R q => by
    obtain ⟨G, ρ, r, q⟩ := q
    refine ⟨G, ρ, r, h.mono _ _ _ _ _ (fun ds hd vs H' r' a => ?_) (fun _ z => z) q⟩
    split at hd
    · cases a with
      | cons h1 a => cases a with
        | cons h2 a =>
          cases a
          cases h1
          cases h2
          exact ⟨_, _, rfl, hd.1, hd.2 _ H' r' wk_range⟩
    · exact hd.elim, fun ρ Q Q' E E' hq he q => h.mono _ _ _ _ _ (fun ds hd => by
      split at hd
      · exact ⟨hd.1, hq _ hd.2⟩
      · exact hd.elim) he q⟩
end
end PL
set_option Elab.async false
set_option linter.all false
set_option maxRecDepth 100000
set_option maxHeartbeats 2000000
namespace PL
open PySem PySem.Spec PyProof.Rows L2
open LamX (ExtN Tabs TabS)
/-! ### a block's slots -/
def NoOwn (vs : List Nat) (ρ : En) : Prop := ∀ i ∈ vs, ∀ s, ρ[i]? = some s → s.owned = false
section
variable {T : Tb} {X : Cx} {W : WX} {pos p : Pos} {e a b c : Expr} {K : PySem.W.Frag} {G G2 : Gh} {ρ ρ2 : En} {σ σ2 : L2.St} {H H' : Hp}
theorem Rep.wipe (r : Rep T K G ρ σ H) (vs : List Nat) : Rep T K G (wipeE ρ vs) (L2.wipe σ vs) H where
  len := by rw [wipeE_length, wipe_length]; exact r.len
  slot i s hs := by
    by_cases hi : i ∈ vs
    · have e := wipeE_in hi hs
      subst e
      have hl : i < (wipeE ρ vs).length := (List.getElem?_eq_some_iff.mp hs).1
      rw [wipeE_length, r.len] at hl
      exact ⟨none, wipe_in hl hi, trivial⟩
    · rw [wipeE_get hi] at hs
      rw [wipe_get hi]
      exact r.slot i s hs
  sep i j s t a hij hi hj hs ht e1 e2 := by
    have ni : i ∉ vs := fun z => by rw [wipeE_in z hi] at hs; cases hs
    have nj : j ∉ vs := fun z => by rw [wipeE_in z hj] at ht; cases ht
    rw [wipeE_get ni] at hi
    rw [wipeE_get nj] at hj
    rw [wipe_get ni] at e1
    rw [wipe_get nj] at e2
    exact r.sep i j s t a hij hi hj hs ht e1 e2
  tab := r.tab
  ext := r.ext
  dom := r.dom
  fly := r.fly
  dcs := r.dcs
/-- back from a block -/
theorem Rep.unwipe {vs : List Nat} (r : Rep T K G ρ σ H) (r2 : Rep T K ⟨hide G.O H, G.O, G.fl⟩ ρ2 σ2 H') (no : NoOwn vs ρ) (off : Off vs ρ ρ2) (hw : L2.wipe σ2 vs = L2.wipe σ vs) : Rep T K G ρ σ H' where
  len := r.len
  slot i s hs := by
    have e : ExtN (hide G.O H) (hide G.O H') := r2.ext
    by_cases hi : i ∈ vs
    · have ho := no i hi s hs
      obtain ⟨v, h1, h2⟩ := r.slot i s hs
      refine ⟨v, h1, ?_⟩
      cases s with
      | un => trivial
      | sh d => obtain ⟨x, h3, h4⟩ := h2; exact ⟨x, h3, h4.ext e⟩
      | dice => exact h2
      | scr ns => obtain ⟨b, h3, h4⟩ := h2; exact ⟨b, h3, sqL_ext e h4⟩
      | _ => cases ho
    · rw [← off i hi] at hs
      have := r2.slot i s hs
      rw [← wipe_get (σ := σ2) hi, hw, wipe_get hi] at this
      exact this
  sep := r.sep
  tab := r2.tab
  ext := r.ext.trans r2.ext
  dom := r2.dom
  fly := r2.fly
  dcs := r2.dcs
theorem Rep.unbase' {Hb : Hp} {O : List Addr} {fl : List (Addr × HO)} (r : Rep T K ⟨Hb, O, fl⟩ ρ σ H) (Hb' : Hp) (e : ExtN Hb' Hb) : Rep T K ⟨Hb', O, fl⟩ ρ σ H := ⟨r.len, r.slot, r.sep, r.tab, e.trans r.ext, r.dom, r.fly, r.dcs⟩
def Cont (o : HO) : Prop := (∃ xs, o = .lst xs) ∨ (∃ xs, o = .dK xs) ∨ ∃ xs, o = .dT xs
theorem TOk.upd {D : Addr} {o o' : HO} (t : TOk T H) (hD : H D = some o) (c : Cont o) : TOk T (upd H D o') := by
  have ne : ∀ {b : Addr} {u : HO}, H b = some u → (∀ q, Cont q → u ≠ q) → b ≠ D := fun {b u} h hu z => by
    rw [z, hD] at h
    cases h
    exact hu o c rfl
  have nt : ∀ ps q, Cont q → HO.tbl ps ≠ q := fun ps q hc z => by
    rcases hc with ⟨x, e⟩ | ⟨x, e⟩ | ⟨x, e⟩ <;> rw [e] at z <;> cases z
  have nc : ∀ c' s q, Cont q → LamX.CodeO c' s ≠ q := fun c' s q hc z => by
    unfold LamX.CodeO at z
    rcases hc with ⟨x, e⟩ | ⟨x, e⟩ | ⟨x, e⟩ <;> rw [e] at z <;> cases z
  refine ⟨fun P hP => ?_, fun p hp => ?_⟩
  · obtain ⟨ps, h1, h2⟩ := t.g P hP
    exact ⟨ps, by rw [upd_ne (ne h1 (nt ps))]; exact h1, h2⟩
  · obtain ⟨ps, h1, h2, h3⟩ := t.l p hp
    refine ⟨ps, by rw [upd_ne (ne h1 (nt ps))]; exact h1, h2, fun pos cv hcv => ?_⟩
    obtain ⟨c', e, h4⟩ := h3 pos cv hcv
    exact ⟨c', e, by rw [upd_ne (ne h4 (nc _ _))]; exact h4⟩
/-- an object of ours, in no slot, is written -/
theorem Rep.put {Hb : Hp} {O : List Addr} {fl : List (Addr × HO)} {D : Addr} {o o' : HO} (r : Rep T K ⟨Hb, O, (D, o) :: fl⟩ ρ σ H) (ap : Apt ρ σ D) (hn : ∀ q ∈ fl, q.1 ≠ D) (co : Cont o) (co' : Cont o') :
    Rep T K ⟨Hb, O, (D, o') :: fl⟩ ρ σ (upd H D o') ∧ hide O (upd H D o') = hide O H := by
  obtain ⟨hO, hD⟩ := r.fly _ List.mem_cons_self
  have eh : hide O (upd H D o') = hide O H := hide_upd hO
  have notD : ∀ (j : Nat) (s : Sl) (b : Addr), ρ[j]? = some s → s.owned = true → σ[j]? = some (some (.ref b)) → b ≠ D := fun j s b hj hs e z => by
    rw [z] at e
    exact ap j s hj hs e
  refine ⟨⟨r.len, fun j s hj => ?_, r.sep, r.tab.upd hD co, by rw [eh]; exact r.ext, fun b hb => ?_, fun q hq => ?_, fun b hb => ?_⟩, eh⟩
  · obtain ⟨u, h1, h2⟩ := r.slot j s hj
    refine ⟨u, h1, ?_⟩
    cases s with
    | un => trivial
    | sh d => obtain ⟨x, h3, h4⟩ := h2; exact ⟨x, h3, by rw [eh]; exact h4⟩
    | ol ds => obtain ⟨b, us, h3, h4, h5, h6⟩ := h2; subst h3; exact ⟨b, us, rfl, h4, by rw [upd_ne (notD j _ b hj rfl h1)]; exact h5, by rw [eh]; exact h6⟩
    | ok ds => obtain ⟨b, us, h3, h4, h5, h6, h7⟩ := h2; subst h3; exact ⟨b, us, rfl, h4, by rw [upd_ne (notD j _ b hj rfl h1)]; exact h5, h6, by rw [eh]; exact h7⟩
    | ot ds => obtain ⟨b, us, h3, h4, h5, h6, h7⟩ := h2; subst h3; exact ⟨b, us, rfl, h4, by rw [upd_ne (notD j _ b hj rfl h1)]; exact h5, h6, by rw [eh]; exact h7⟩
    | dice => exact h2
    | scr ns => obtain ⟨b, h3, h4⟩ := h2; exact ⟨b, h3, by rw [eh]; exact h4⟩
  · by_cases z : b = D
    · rw [z, upd_same]
      refine ⟨_, rfl, fun ps e => ?_⟩
      rcases co' with ⟨x, h⟩ | ⟨x, h⟩ | ⟨x, h⟩ <;> rw [h] at e <;> cases e
    · rw [upd_ne z]; exact r.dom b hb
  · rcases List.mem_cons.mp hq with z | z
    · rw [z]; exact ⟨hO, upd_same⟩
    · rw [upd_ne (hn q z)]; exact r.fly q (List.mem_cons_of_mem _ z)
  · obtain ⟨h1, h2, h3⟩ := r.dcs b hb
    have nb : b ≠ D := fun z => h3 _ List.mem_cons_self z.symm
    refine ⟨h1, by rw [upd_ne nb]; exact h2, fun q hq => ?_⟩
    rcases List.mem_cons.mp hq with z | z
    · rw [z]; exact fun z => nb z.symm
    · exact h3 q (List.mem_cons_of_mem _ z)
theorem wipe_wipe (σ : L2.St) (vs : List Nat) : L2.wipe (L2.wipe σ vs) vs = L2.wipe σ vs := by
  apply List.ext_getElem?
  intro i
  by_cases hi : i ∈ vs
  · by_cases hl : i < σ.length
    · rw [wipe_in (by rw [wipe_length]; exact hl) hi, wipe_in hl hi]
    · rw [List.getElem?_eq_none (by rw [wipe_length, wipe_length]; omega), List.getElem?_eq_none (by rw [wipe_length]; omega)]
  · rw [wipe_get hi]
structure DTs (T : Tb) (X : Cx) (W : WX) (ifs : List Expr) (w : PWB) : Prop where
  pt : PTs X ifs (liftB T X.K W w)
  mono : Mono w
def wYes : PWB := fun _ Q _ => Q true
theorem pts_mono {X : Cx} {e : List Expr} {t t' : TT} (h : PTs X e t) (i : ∀ σ H Q, t' σ H Q → t σ H Q) : PTs X e t' := ⟨fun pins s σ H Q I q => h.run pins s σ H Q I (i _ _ _ q)⟩
theorem dts_nil : DTs T X W [] wYes := ⟨pts_mono pts_nil fun σ H Q q => by
  obtain ⟨G, ρ, r, q⟩ := q
  exact q H r, fun _ _ _ _ _ hq _ h => hq _ h⟩
theorem dts_one {w : PWB} (h : DT T X W e w) : DTs T X W [e] w := ⟨pts_one h.pt, h.mono⟩

/-! ### list comprehensions -/
def goLc (g : GD) (wt : PWB) (we : PW) (ρw : En) : List PyData → List PyData → (List PyData → Prop) → Prop
  | [], acc, Q => Q acc
  | d :: ds, acc, Q => g d ρw fun ρ2 => wt ρ2 (fun k => if k = true then we ρ2 (fun y => acc.length < sizeLine ∧ goLc g wt we ρw ds (acc ++ [y]) Q) (fun _ => False) else goLc g wt we ρw ds acc Q) (fun _ => False)
def wLc (wi : PWs) (g : GD) (wt : PWB) (we : PW) (vs : List Nat) : PW := fun ρ Q E => NoOwn vs ρ ∧ wi ρ (fun ds => goLc g wt we (wipeE ρ vs) ds [] fun acc => Q (.list acc)) E
theorem goLc_mono {g : GD} {wt : PWB} {we : PW} {ρw : En} (mg : ∀ d ρ Q Q', (∀ r, Q r → Q' r) → g d ρ Q → g d ρ Q') (mt : Mono wt) (me : Mono we) {Q Q' : List PyData → Prop} (hq : ∀ d, Q d → Q' d) : ∀ (ds acc : List PyData), goLc g wt we ρw ds acc Q → goLc g wt we ρw ds acc Q'
  | [], acc, h => hq _ h
  | d :: ds, acc, h => mg _ _ _ _ (fun ρ2 h2 => mt _ _ _ _ _ (fun k hk => by
      cases k with
      | true => exact me _ _ _ _ _ (fun y hy => ⟨hy.1, goLc_mono mg mt me hq ds _ hy.2⟩) (fun _ z => z) hk
      | false => exact goLc_mono mg mt me hq ds _ hk) (fun _ z => z) h2) h
theorem mono_Lc {wi : PWs} {g : GD} {wt : PWB} {we : PW} {vs : List Nat} (mi : Mono wi) (mg : ∀ d ρ Q Q', (∀ r, Q r → Q' r) → g d ρ Q → g d ρ Q') (mt : Mono wt) (me : Mono we) : Mono (wLc wi g wt we vs) := fun ρ Q Q' E E' hq he h =>
  ⟨h.1, mi _ _ _ _ _ (fun ds hd => goLc_mono mg mt me (fun acc ha => hq _ ha) ds [] hd) he h.2⟩
theorem lc_imp {own : List (Str × Nat)} {wi : PWs} {g : GD} {wt : PWB} {we : PW} {sl : List Nat} {Q : VK} (mi : Mono wi) (mg : ∀ d ρ Q Q', (∀ r, Q r → Q' r) → g d ρ Q → g d ρ Q') (kg : ∀ d ρ Q, g d ρ Q → g d ρ fun ρ' => Q ρ' ∧ Off sl ρ ρ' ∧ Shd sl ρ') (mt : Mono wt) (me : Mono we) (hsl : ∀ i ∈ sl, i ∈ own.map (·.2))
    (q : liftF T X.K W (wLc wi g wt we (own.map (·.2))) σ H Q) : tLc (liftI T X.K W wi) (liftG T X.K sl g) (liftB T X.K W0 wt) (lift T X.K W0 we) (own.map (·.2)) σ H Q := by
  generalize hvs : own.map (·.2) = vs at hsl q ⊢
  obtain ⟨G, ρ, r, no, q⟩ := q
  refine ⟨G, ρ, r, mi _ _ _ _ _ (fun ds hgo J H1 r1 wk D hD => ?_) (fun _ z => z) q⟩
  have nD : D ∉ G.O := fun z => by obtain ⟨o, e, _⟩ := r1.dom D z; rw [hD] at e; cases e
  refine ⟨fun i m H2 => ∃ (vsa : List V) (acc : List PyData), m = ds.length - i ∧ Rep T X.K ⟨hide G.O H1, D :: G.O, (D, .lst vsa) :: G.fl⟩ ρ σ H2 ∧ Apt ρ σ D ∧ DaAll X.K (hide (D :: G.O) H2) vsa acc ∧
    goLc g wt we (wipeE ρ vs) (ds.drop i) acc (fun acc => ∀ (a : Addr) (vs : List V) (ds : List PyData) (H' : Hp), PyData.list acc = .list ds → Rep T X.K ⟨G.Hb, a :: G.O, G.fl⟩ ρ σ H' → a ∉ G.O → Apt ρ σ a → H' a = some (.lst vs) → DaAll X.K (hide (a :: G.O) H') vs ds → Q (.ref a) H'), ?_, fun i m H2 hW => ?_⟩
  · obtain ⟨r2, na, ap, h1, h2⟩ := r1.newL (vs := []) (ds := []) hD .nil
    exact ⟨_, [], [], rfl, ⟨r2.len, r2.slot, r2.sep, r2.tab, r2.ext |> fun _ => (by rw [show hide (D :: G.O) (upd H1 D (.lst [])) = hide G.O H1 from hide_new hD]; exact ExtN.refl _), r2.dom, fun p hp => by
      rcases List.mem_cons.mp hp with e | hp
      · rw [e]; exact ⟨List.mem_cons_self, h1⟩
      · exact r2.fly p hp, fun b hb => ⟨(r2.dcs b hb).1, (r2.dcs b hb).2.1, fun q hq => by
      rcases List.mem_cons.mp hq with e | hq
      · rw [e]; exact fun z => nD (by rw [show D = b from z]; exact (r1.dcs b hb).1)
      · exact (r2.dcs b hb).2.2 q hq⟩⟩, ap, .nil, by rw [List.drop_zero]; exact hgo⟩
  · obtain ⟨vsa, acc, rfl, r2, ap, ha, hgo⟩ := hW
    have hDv : H2 D = some (.lst vsa) := (r2.fly _ List.mem_cons_self).2
    have r2l := r2.land.1
    have dm : ∀ a ∈ D :: G.O, H2 a ≠ none := fun a ha z => by obtain ⟨o, e, _⟩ := r2.dom a ha; rw [z] at e; cases e
    obtain ⟨wk1, wk2⟩ := wk (D :: G.O) H2 r2.ext dm
    cases hd : ds.drop i with
    | nil =>
      refine .inl ⟨wk2 i (List.drop_eq_nil_iff.mp hd), ?_⟩
      rw [hd] at hgo
      exact hgo D vsa acc H2 rfl (r2l.unbase' _ r1.ext) nD ap hDv ha
    | cons d rest =>
      have hi' : i < ds.length := by
        by_cases z : i < ds.length
        · exact z
        · rw [List.drop_eq_nil_of_le (by omega)] at hd; cases hd
      have hdi : ds[i]? = some d := by
        have := List.drop_eq_getElem_cons hi'
        rw [hd] at this
        rw [List.getElem?_eq_getElem hi', ← (List.cons.inj this).1]
      have hrest : ds.drop (i + 1) = rest := by
        have := List.drop_eq_getElem_cons hi'
        rw [hd] at this
        exact (List.cons.inj this).2.symm
      obtain ⟨jgo, yld⟩ := wk1 i d hdi
      rw [hd] at hgo
      refine .inr ⟨jgo, fun H' => ∃ (vsa : List V) (acc : List PyData), Rep T X.K ⟨hide G.O H1, D :: G.O, (D, .lst vsa) :: G.fl⟩ ρ σ H' ∧ Apt ρ σ D ∧ DaAll X.K (hide (D :: G.O) H') vsa acc ∧
        goLc g wt we (wipeE ρ vs) rest acc (fun acc => ∀ (a : Addr) (vs : List V) (ds : List PyData) (H' : Hp), PyData.list acc = .list ds → Rep T X.K ⟨G.Hb, a :: G.O, G.fl⟩ ρ σ H' → a ∉ G.O → Apt ρ σ a → H' a = some (.lst vs) → DaAll X.K (hide (a :: G.O) H') vs ds → Q (.ref a) H'), fun H' hN' => ?_, fun x H3 hy => ?_⟩
      · obtain ⟨vsa, acc, h1, h2, h3, h4⟩ := hN'
        exact ⟨ds.length - (i + 1), by omega, vsa, acc, rfl, h1, h2, h3, by rw [hrest]; exact h4⟩
      · obtain ⟨al, hx⟩ := yld x H3 hy
        have r3 := r2.alloc al
        have e3 : ExtN (hide (D :: G.O) H2) (hide (D :: G.O) H3) := ext_hide fun b o _ h _ => al b o h
        have ha3 := ha.ext e3
        have r3b := r3.rebase
        -- the target
        have hgk := kg _ _ _ hgo
        refine ⟨_, _, d, (r3b.wipe vs), hx, mg _ _ _ _ (fun ρ2 h2 σ2 r4 w4 => ⟨?_, ?_⟩) hgk⟩
        · have := w4 vs hsl
          rw [this, wipe_wipe]
        · obtain ⟨h2, off, _⟩ := h2
          have hw4 : L2.wipe σ2 vs = L2.wipe σ vs := by rw [w4 vs hsl, wipe_wipe]
          have offv : Off vs ρ ρ2 := fun j hj => by
            rw [off j (fun z => hj (hsl j z)), wipeE_get hj]
          refine liftB_intro mt r4 (mt _ _ _ _ _ (fun k hk H5 r5 e5 => ?_) (fun _ z => z.elim) h2)
          have back : ∀ {H6 : Hp}, Rep T X.K ⟨hide (D :: G.O) H3, D :: G.O, (D, .lst vsa) :: G.fl⟩ ρ2 σ2 H6 → Rep T X.K ⟨hide G.O H1, D :: G.O, (D, .lst vsa) :: G.fl⟩ ρ σ H6 := fun {H6} r6 => r3.unwipe r6 no offv hw4
          cases k with
          | false => exact ⟨vsa, acc, back r5, ap, ha3.ext r5.ext, hk⟩
          | true =>
            have hk : we ρ2 (fun y => acc.length < sizeLine ∧ goLc g wt we (wipeE ρ vs) rest (acc ++ [y]) _) (fun _ => False) := hk
            refine lift_intro me r5 (me _ _ _ _ _ (fun y hy v H6 r6 e6 a6 => ?_) (fun _ z => z.elim) hk)
            have r7 := back r6
            refine ⟨vsa, (r6.fly _ List.mem_cons_self).2, by rw [ha3.length]; exact hy.1, vsa ++ [v], acc ++ [y], ?_, ap, ?_, hy.2⟩
            · exact (r7.put ap (fun q hq z => nD (by rw [← z]; exact (r1.fly q hq).1)) (.inl ⟨_, rfl⟩) (.inl ⟨_, rfl⟩)).1
            · rw [show hide (D :: G.O) (upd H6 D (.lst (vsa ++ [v]))) = hide (D :: G.O) H6 from hide_upd List.mem_cons_self]
              exact (ha3.ext r6.ext).append (.cons a6 .nil)
theorem df_lc {elt tg iter : Expr} {ifs : List Expr} {scope : Scope} {own : List (Str × Nat)} {wi : PWs} {g : GD} {wt : PWB} {we : PW} {sl : List Nat} (hc : X.calm = true) (hN : X.N.Nodup) (hi : DI T X W tg iter wi) (ok : BlkOk X.N X.env.scope scope own) (hsl : ∀ i ∈ sl, i ∈ own.map (·.2))
    (hg : ∀ (s : Shared) (H : Hp) (C : Addr) (cl : List (Str × Addr)) (fp : List Addr), DG T (X.blk s H scope (compEnvC scope cl C X.env) fp) sl tg g) (ht : ∀ (s : Shared) (H : Hp) (C : Addr) (cl : List (Str × Addr)) (fp : List Addr), DTs T (X.blk s H scope (compEnvC scope cl C X.env) fp) W0 ifs wt)
    (he : ∀ (s : Shared) (H : Hp) (C : Addr) (cl : List (Str × Addr)) (fp : List Addr), DE T (X.blk s H scope (compEnvC scope cl C X.env) fp) W0 elt we) (hs : ∀ x, foldedSetIterable iter X.env x = pure x := by intro _; rfl) :
    DF T X W (.ListComp elt [⟨tg, iter, ifs, 0⟩] scope pos) (wLc wi g wt we (own.map (·.2))) := by
  have hg0 := hg X.s_0 X.H_0 0 [] []
  have ht0 := ht X.s_0 X.H_0 0 [] []
  have he0 := he X.s_0 X.H_0 0 [] []
  refine ⟨pe_mono (pe_lc (wi := liftI T X.K W wi) (g := liftG T X.K sl g) (tt := liftB T X.K W0 wt) (te := lift T X.K W0 we) hc hN hi.pi ok (fun s H C cl fp => (hg s H C cl fp).pg) (fun s H C cl fp => (ht s H C cl fp).pt) (fun s H C cl fp => (he s H C cl fp).pe) hs) fun σ H Q q => lc_imp hi.mono hg0.mono hg0.keep ht0.mono he0.mono hsl q, mono_Lc hi.mono hg0.mono ht0.mono he0.mono⟩
end
end PL
set_option Elab.async false
set_option linter.all false
set_option maxRecDepth 100000
set_option maxHeartbeats 2000000
namespace PL
open PySem PySem.Spec PyProof.Rows L2
open LamX (ExtN Tabs TabS)
def All2 {α β : Type} (R : α → β → Prop) : List α → List β → Prop
  | [], [] => True
  | a :: as, b :: bs => R a b ∧ All2 R as bs
  | _, _ => False
theorem All2.length {α β : Type} {R : α → β → Prop} : ∀ {as : List α} {bs : List β}, All2 R as bs → as.length = bs.length
  | [], [], _ => rfl
  | _ :: _, _ :: _, h => congrArg (· + 1) (All2.length h.2)
  | [], _ :: _, h => h.elim
  | _ :: _, [], h => h.elim
theorem All2.get {α β : Type} {R : α → β → Prop} : ∀ {as : List α} {bs : List β} {i : Nat} {a : α}, All2 R as bs → as[i]? = some a → ∃ b, bs[i]? = some b ∧ R a b
  | [], _, _, _, _, h => by simp at h
  | _ :: _, [], _, _, h, _ => h.elim
  | x :: as, y :: bs, 0, a, h, e => by
    simp at e
    subst e
    exact ⟨y, rfl, h.1⟩
  | x :: as, y :: bs, i + 1, a, h, e => by
    obtain ⟨b, h1, h2⟩ := All2.get (i := i) h.2 (by simpa using e)
    exact ⟨b, by simpa using h1, h2⟩
theorem All2.map {α β γ : Type} {R : β → γ → Prop} {f : α → β} {g : α → γ} : ∀ {xs : List α}, (∀ x ∈ xs, R (f x) (g x)) → All2 R (xs.map f) (xs.map g)
  | [], _ => trivial
  | x :: xs, h => ⟨h x List.mem_cons_self, All2.map fun y hy => h y (List.mem_cons_of_mem _ hy)⟩
theorem pass_map {α : Type} (d : α) : ∀ bs : List (Option α), (passing (fun i => (bs[i]?.join).isSome) bs.length 0).map (fun i => (bs[i]?.join).getD d) = bs.filterMap id := by
  intro bs
  unfold passing
  rw [List.drop_zero]
  induction bs with
  | nil => rfl
  | cons b r ih =>
    rw [List.length_cons, List.range_succ_eq_map, List.filter_cons, List.filterMap_cons, List.filter_map]
    have e : ((fun i => ((b :: r)[i]?.join).isSome) ∘ Nat.succ) = fun i => (r[i]?.join).isSome := by
      funext i
      simp
    rw [e]
    have e2 : List.map (fun i => ((b :: r)[i]?.join).getD d) (List.map Nat.succ (List.filter (fun i => (r[i]?.join).isSome) (List.range r.length))) = r.filterMap id := by
      rw [List.map_map, ← ih]
      apply List.map_congr_left
      intro i _
      simp
    cases b with
    | none => simpa using e2
    | some x =>
      simp only [List.getElem?_cons_zero, Option.join_some, Option.isSome_some, if_true, List.map_cons, Option.getD_some, id]
      rw [e2]

/-- the elements: each item's test and value -/
def wGen {α : Type} (toD : α → PyData) (wi : PWs) (g : GD) (wt : PWB) (we : PW) (vs : List Nat) (R : List α → PyData) : PW := fun ρ Q E => NoOwn vs ρ ∧ wi ρ (fun ds => ∃ bs : List (Option α),
  All2 (fun d ob => g d (wipeE ρ vs) fun ρ2 => wt ρ2 (fun k => match ob with | some y => k = true ∧ we ρ2 (fun z => z = toD y) (fun _ => False) | none => k = false) (fun _ => False)) ds bs ∧ Q (R (bs.filterMap id))) E
def rAnyD (l : List Bool) : PyData := .bool (l.any id)
def rAllD (l : List Bool) : PyData := .bool (l.all id)
def rSumD (l : List Int) : PyData := .int l.sum
theorem mono_Gen {α : Type} {toD : α → PyData} {wi : PWs} {g : GD} {wt : PWB} {we : PW} {vs : List Nat} {R : List α → PyData} (mi : Mono wi) : Mono (wGen toD wi g wt we vs R) := fun ρ Q Q' E E' hq he h =>
  ⟨h.1, mi _ _ _ _ _ (fun ds ⟨bs, h1, h2⟩ => ⟨bs, h1, hq _ h2⟩) he h.2⟩
section
variable {T : Tb} {X : Cx} {W : WX} {pos p gpos : Pos} {e a b c : Expr} {K : PySem.W.Frag} {G G2 : Gh} {ρ ρ2 : En} {σ σ2 : L2.St} {H H' : Hp}
theorem Rep.tabbed {P : Addr} (r : Rep T K G ρ σ H) (tb : GxR.Tabbed P H H') (hP : GxR.TabG H P) (hl : ∀ q ∈ T.tl, q.1 ≠ P) : Rep T K G ρ σ H' := by
  obtain ⟨ps, hPs, _⟩ := hP
  have ne : ∀ {b : Addr} {o : HO}, H b = some o → (∀ ps, o ≠ .tbl ps) → b ≠ P := fun {b o} h hn z => by
    rw [z, hPs] at h
    cases h
    exact hn _ rfl
  refine r.step (ext_hide fun b o _ h hn => by rw [tb.2 b (ne h hn)]; exact h) (fun a ha => by obtain ⟨o, h, hn⟩ := r.dom a ha; exact tb.2 a (ne h hn)) ⟨fun P' hP' => ?_, fun q hq => ?_⟩
  · by_cases z : P' = P
    · rw [z]; exact tb.1
    · obtain ⟨ps', h1, h2⟩ := r.tab.g P' hP'
      exact ⟨ps', by rw [tb.2 P' z]; exact h1, h2⟩
  · obtain ⟨ps', h1, h2, h3⟩ := r.tab.l q hq
    refine ⟨ps', by rw [tb.2 _ (hl q hq)]; exact h1, h2, fun pos cv hcv => ?_⟩
    obtain ⟨c', e, h4⟩ := h3 pos cv hcv
    exact ⟨c', e, by rw [tb.2 c' (ne h4 fun ps z => by unfold LamX.CodeO at z; cases z)]; exact h4⟩

theorem gx_core {α : Type} {toD : α → PyData} {toV : α → V} (dflt : α) (hTV : ∀ K H v y, Da K H v (toD y) → v = toV y) {k : Nat} {P : Addr} {elt tg iter : Expr} {ifs : List Expr} {scope : Scope} {own : List (Str × Nat)} {wi : PWs} {g : GD} {wt : PWB} {we : PW} {sl : List Nat} {Q : VK}
    {R : List α → PyData} {vR : List α → V} (hda : ∀ K H l, Da K H (vR l) (R l)) {rr : VK → Nat → (Nat → Bool) → (Nat → V) → (Nat → Hp → Prop) → Prop} (hPT : P ∈ T.tg) (hl : ∀ q ∈ T.tl, q.1 ≠ P) (mi : Mono wi) (hsl : ∀ i ∈ sl, i ∈ own.map (·.2))
    (mg : ∀ d ρ Q Q', (∀ r, Q r → Q' r) → g d ρ Q → g d ρ Q') (kg : ∀ d ρ Q, g d ρ Q → g d ρ fun ρ' => Q ρ' ∧ Off sl ρ ρ' ∧ Shd sl ρ') (mt : Mono wt) (me : Mono we)
    (hrr : ∀ (bs : List (Option α)) (Gd : Nat → Hp → Prop), (∀ i H', Gd i H' → Q (vR (bs.filterMap id)) H') → rr Q bs.length (fun i => (bs[i]?.join).isSome) (fun i => toV ((bs[i]?.join).getD dflt)) Gd)
    (h : lift T X.K W (wGen toD wi g wt we (own.map (·.2)) R) σ H Q) : GxI.tGxC (liftI T X.K W wi) (liftG T X.K sl g) (liftB T X.K W0 wt) (lift T X.K W0 we) (own.map (·.2)) P rr σ H Q := by
  generalize hvs : own.map (·.2) = vs at hsl h ⊢
  obtain ⟨G, ρ, r, no, q⟩ := h
  refine ⟨G, ρ, r, mi _ _ _ _ _ (fun ds hds J H1 r1 wk => ⟨r1.tab.g P hPT, fun H2 tb => ?_⟩) (fun _ z => z) q⟩
  obtain ⟨bs, h1, h2⟩ := hds
  have r2 := r1.tabbed tb (r1.tab.g P hPT) hl
  have e12 : ExtN (hide G.O H1) (hide G.O H2) := (r1.rebase.tabbed tb (r1.tab.g P hPT) hl).ext
  refine ⟨ds.length, fun i => (bs[i]?.join).isSome, fun i => toV ((bs[i]?.join).getD dflt), fun _ H' => Rep T X.K ⟨hide G.O H1, G.O, G.fl⟩ ρ σ H', r1.rebase.tabbed tb (r1.tab.g P hPT) hl, ⟨fun i H3 hi r3 => ?_, fun H3 r3 => ?_⟩, ?_⟩
  · have dm : ∀ a ∈ G.O, H3 a ≠ none := fun a ha z => by obtain ⟨o, e, _⟩ := r3.dom a ha; rw [z] at e; cases e
    obtain ⟨wk1, wk2⟩ := wk G.O H3 r3.ext dm
    obtain ⟨jgo, yld⟩ := wk1 i ds[i] (List.getElem?_eq_getElem hi)
    refine ⟨jgo, fun x H4 hy => ?_⟩
    obtain ⟨al, hx⟩ := yld x H4 hy
    have r4 := r3.alloc al
    obtain ⟨ob, hob, hR⟩ := h1.get (List.getElem?_eq_getElem hi)
    refine ⟨_, _, _, (r4.rebase.wipe vs), hx, mg _ _ _ _ (fun ρ2 h2 σ2 r5 w5 => ⟨?_, ?_⟩) (kg _ _ _ hR)⟩
    · rw [w5 vs hsl, wipe_wipe]
    · obtain ⟨h2, off, _⟩ := h2
      have hw5 : L2.wipe σ2 vs = L2.wipe σ vs := by rw [w5 vs hsl, wipe_wipe]
      have offv : Off vs ρ ρ2 := fun j hj => by rw [off j (fun z => hj (hsl j z)), wipeE_get hj]
      have back : ∀ {H6 : Hp}, Rep T X.K ⟨hide G.O H4, G.O, G.fl⟩ ρ2 σ2 H6 → Rep T X.K ⟨hide G.O H1, G.O, G.fl⟩ ρ σ H6 := fun {H6} r6 => r4.unwipe r6 no offv hw5
      refine liftB_intro mt r5 (mt _ _ _ _ _ (fun kk hk H6 r6 e6 => ?_) (fun _ z => z.elim) h2)
      cases ob with
      | none =>
        have hk : kk = false := hk
        subst hk
        exact ⟨by rw [hob]; rfl, ⟨fun z => Bool.noConfusion z, fun _ => back r6⟩⟩
      | some y =>
        obtain ⟨hk, hwe⟩ := hk
        subst hk
        refine ⟨by rw [hob]; rfl, fun _ => ?_, fun z => Bool.noConfusion z⟩
        refine lift_intro me r6 (me _ _ _ _ _ (fun z hz v H7 r7 e7 a7 => ?_) (fun _ z => z.elim) hwe)
        subst hz
        exact ⟨by rw [hob]; exact hTV _ _ _ _ a7, back r7⟩
  · have dm : ∀ a ∈ G.O, H3 a ≠ none := fun a ha z => by obtain ⟨o, e, _⟩ := r3.dom a ha; rw [z] at e; cases e
    exact (wk G.O H3 r3.ext dm).2 _ (Nat.le_refl _)
  · rw [h1.length]
    exact hrr bs _ fun i H' r' => h2 _ H' (r'.unbase r1.ext) (hda _ _ _)
theorem de_gen {α : Type} {toD : α → PyData} {toV : α → V} (dflt : α) (hTV : ∀ K H v y, Da K H v (toD y) → v = toV y) {R : List α → PyData} {vR : List α → V} (hda : ∀ K H l, Da K H (vR l) (R l)) {k : Nat} {cc P : Addr} {f : Str} {id' : String} {rr : VK → Nat → (Nat → Bool) → (Nat → V) → (Nat → Hp → Prop) → Prop} {elt tg iter : Expr} {ifs : List Expr} {scope : Scope} {own : List (Str × Nat)} {wi : PWs} {g : GD} {wt : PWB} {we : PW} {sl : List Nat}
    (hrr : ∀ (Q : VK) (bs : List (Option α)) (Gd : Nat → Hp → Prop), (∀ i H', Gd i H' → Q (vR (bs.filterMap id)) H') → rr Q bs.length (fun i => (bs[i]?.join).isSome) (fun i => toV ((bs[i]?.join).getD dflt)) Gd)
    (B : GxI.GxB X f id' rr) (hgl : Gl X f) (hm : X.mg f = none) (hr : Room (k + 1) X.A) (hc : X.calm = true) (hN : X.N.Nodup) (TB : GxR.TabB X.base X.mg cc P) (hPT : P ∈ T.tg) (hl : ∀ q ∈ T.tl, q.1 ≠ P) (hcode : X.env.code = .ref cc) (gs : GxI.GxS X.env scope) (ok : BlkOk X.N X.env.scope scope own) (hsl : ∀ i ∈ sl, i ∈ own.map (·.2))
    (hi : DI T X W tg iter wi)
    (hg : ∀ (A : Around) (s : Shared) (H : Hp) (C : Addr) (cd : Value) (cl : List (Str × Addr)) (fp : List Addr), DG T (GxI.gcx X A s H (genEnv scope cl C cd builtinsNs X.env) fp) sl tg g)
    (ht : ∀ (A : Around) (s : Shared) (H : Hp) (C : Addr) (cd : Value) (cl : List (Str × Addr)) (fp : List Addr), Room k A → DTs T (GxI.gcx X A s H (genEnv scope cl C cd builtinsNs X.env) fp) W0 ifs wt)
    (he : ∀ (A : Around) (s : Shared) (H : Hp) (C : Addr) (cd : Value) (cl : List (Str × Addr)) (fp : List Addr), Room k A → DE T (GxI.gcx X A s H (genEnv scope cl C cd builtinsNs X.env) fp) W0 elt we)
    (hs : ∀ v, genFold iter X.env v = pure v := by intro _; rfl) (hn : f ≠ "__name__" := by decide) (hd : (f == ("__debug__" : Str)) = false := by decide)
    (hst : starEach [.GeneratorExp elt [⟨tg, iter, ifs, 0⟩] scope gpos] X.env = (false, eval (.GeneratorExp elt [⟨tg, iter, ifs, 0⟩] scope gpos) X.env) :: starEach [] X.env := by rfl) :
    DE T X W (.Call (.Name f p) [.GeneratorExp elt [⟨tg, iter, ifs, 0⟩] scope gpos] [] pos) (wGen toD wi g wt we (own.map (·.2)) R) := by
  have hrk : Room k X.A := hr.mono (Nat.le_succ _)
  have ht0 := ht X.A X.s_0 X.H_0 0 .none [] [] hrk
  have he0 := he X.A X.s_0 X.H_0 0 .none [] [] hrk
  have hg0 := hg X.A X.s_0 X.H_0 0 .none [] []
  exact ⟨pe_mono (GxI.pe_gx (wi := liftI T X.K W wi) (g := liftG T X.K sl g) (tt := liftB T X.K W0 wt) (te := lift T X.K W0 we) B hgl hm hr hc hN TB hcode gs ok hi.pi (fun A s H C cd cl fp _ => (hg A s H C cd cl fp).pg) (fun A s H C cd cl fp hR => (ht A s H C cd cl fp hR).pt) (fun A s H C cd cl fp hR => (he A s H C cd cl fp hR).pe) hs hn hd hst)
    fun σ H Q q => gx_core (k := k) (P := P) (elt := elt) (tg := tg) (iter := iter) (ifs := ifs) (scope := scope) (own := own) dflt hTV hda hPT hl hi.mono hsl hg0.mono hg0.keep ht0.mono he0.mono (hrr Q) q, mono_Gen hi.mono⟩
theorem hrr_any (Q : VK) (bs : List (Option Bool)) (Gd : Nat → Hp → Prop) (h : ∀ i H', Gd i H' → Q (.bl ((bs.filterMap id).any id)) H') : GxI.rAny Q bs.length (fun i => (bs[i]?.join).isSome) (fun i => .bl ((bs[i]?.join).getD false)) Gd :=
  ⟨fun i => (bs[i]?.join).getD false, rfl, fun i H' g => by
    have e := pass_map false bs
    have : (passing (fun i => (bs[i]?.join).isSome) bs.length 0).any (fun i => (bs[i]?.join).getD false) = (bs.filterMap id).any id := by rw [← e, List.any_map]; rfl
    rw [this]
    exact h i H' g⟩
theorem hrr_all (Q : VK) (bs : List (Option Bool)) (Gd : Nat → Hp → Prop) (h : ∀ i H', Gd i H' → Q (.bl ((bs.filterMap id).all id)) H') : GxI.rAll Q bs.length (fun i => (bs[i]?.join).isSome) (fun i => .bl ((bs[i]?.join).getD false)) Gd :=
  ⟨fun i => (bs[i]?.join).getD false, rfl, fun i H' g => by
    have e := pass_map false bs
    have : (passing (fun i => (bs[i]?.join).isSome) bs.length 0).all (fun i => (bs[i]?.join).getD false) = (bs.filterMap id).all id := by rw [← e, List.all_map]; rfl
    rw [this]
    exact h i H' g⟩
theorem hrr_sum (Q : VK) (bs : List (Option Int)) (Gd : Nat → Hp → Prop) (h : ∀ i H', Gd i H' → Q (.int (bs.filterMap id).sum) H') : GxI.rSum Q bs.length (fun i => (bs[i]?.join).isSome) (fun i => .int ((bs[i]?.join).getD 0)) Gd :=
  ⟨fun i => (bs[i]?.join).getD 0, rfl, fun i H' g => by
    have e := pass_map (0 : Int) bs
    rw [e]
    exact h i H' g⟩
end
end PL
set_option Elab.async false
set_option linter.all false
set_option maxRecDepth 100000
set_option maxHeartbeats 2000000
namespace PL
open PySem PySem.Spec PyProof.Rows L2
open LamX (ExtN Tabs TabS)
/-! ### statements -/
structure PEn where
  nx : En → Prop
  rt : PyData → Prop
  bk : En → Prop := fun _ => False
  ct : En → Prop := fun _ => False
  ex : Exn → Prop := fun _ => False
structure PEn.Le (D D' : PEn) : Prop where
  nx : ∀ ρ, D.nx ρ → D'.nx ρ
  rt : ∀ d, D.rt d → D'.rt d
  bk : ∀ ρ, D.bk ρ → D'.bk ρ
  ct : ∀ ρ, D.ct ρ → D'.ct ρ
  ex : ∀ x, D.ex x → D'.ex x
abbrev SW := En → PEn → Prop
def MonoS (w : SW) : Prop := ∀ ρ D D', PEn.Le D D' → w ρ D → w ρ D'
section
variable (T : Tb) (K : PySem.W.Frag) (W : WX)
def FlApt (fl : List (Addr × HO)) (ρ : En) (σ : L2.St) : Prop := ∀ q ∈ fl, Apt ρ σ q.1
def endS (G : Gh) (D : Ends) : PEn where
  nx ρ' := ∀ σ' H' O', Rep T K ⟨G.Hb, O', G.fl⟩ ρ' σ' H' → FlApt G.fl ρ' σ' → D.nx σ' H'
  rt d := ∀ v ρ' σ' H' O', Rep T K ⟨G.Hb, O', G.fl⟩ ρ' σ' H' → Da K (hide O' H') v d → D.rt v H'
  bk ρ' := ∀ σ' H' O', Rep T K ⟨G.Hb, O', G.fl⟩ ρ' σ' H' → FlApt G.fl ρ' σ' → D.bk σ' H'
  ct ρ' := ∀ σ' H' O', Rep T K ⟨G.Hb, O', G.fl⟩ ρ' σ' H' → FlApt G.fl ρ' σ' → D.ct σ' H'
  ex x := ∀ ρ' σ' H' O' cls dd, Rep T K ⟨G.Hb, O', G.fl⟩ ρ' σ' H' → ExR K x cls dd (hide O' H') → W cls dd σ' H'
def liftS (w : SW) : TS := fun D σ H => ∃ G ρ, Rep T K G ρ σ H ∧ FlApt G.fl ρ σ ∧ w ρ (endS T K W G D)
end
structure DS (T : Tb) (X : Cx) (W : WX) (st : Stmt) (w : SW) : Prop where
  ps : PS X st (liftS T X.K W w)
  mono : MonoS w
structure DSs (T : Tb) (X : Cx) (W : WX) (st : List Stmt) (w : SW) : Prop where
  ps : PSs X st (liftS T X.K W w)
  mono : MonoS w
theorem ps_mono {X : Cx} {e : Stmt} {t t' : TS} (h : PS X e t) (i : ∀ D σ H, t' D σ H → t D σ H) : PS X e t' := ⟨fun pins s σ H Q I q => h.run pins s σ H Q I (i _ _ _ q)⟩
theorem pss_mono {X : Cx} {e : List Stmt} {t t' : TS} (h : PSs X e t) (i : ∀ D σ H, t' D σ H → t D σ H) : PSs X e t' := ⟨fun pins s σ H Q I q => h.run pins s σ H Q I (i _ _ _ q)⟩
section
variable {T : Tb} {X : Cx} {W : WX} {pos p pos' apos : Pos} {e a b c : Expr} {st : Stmt} {rest : List Stmt} {K : PySem.W.Frag} {G G2 : Gh} {ρ ρ2 : En} {σ σ2 : L2.St} {H H' : Hp} {D : Ends}
theorem ex_out {O' : List Addr} {x : Exn} (h : (endS T K W G D).ex x) : exOut T K W ⟨G.Hb, O', G.fl⟩ ρ σ x := fun H' cls dd r q => h ρ σ H' O' cls dd r q
theorem ex_out' {x : Exn} (h : (endS T K W G D).ex x) : exOut T K W G ρ σ x := ex_out (O' := G.O) h
def sNil : SW := fun ρ D => D.nx ρ
def sSeq (u v : SW) : SW := fun ρ D => u ρ { D with nx := fun ρ' => v ρ' D }
theorem le_nx {D D' : PEn} (l : PEn.Le D D') {v : SW} (mv : MonoS v) : PEn.Le { D with nx := fun ρ' => v ρ' D } { D' with nx := fun ρ' => v ρ' D' } := ⟨fun ρ h => mv _ _ _ l h, l.rt, l.bk, l.ct, l.ex⟩
theorem dss_nil : DSs T X W [] sNil := ⟨pss_mono pss_nil fun D σ H q => by
  obtain ⟨G, ρ, r, fa, q⟩ := q
  exact q σ H G.O r fa, fun _ _ _ l h => l.nx _ h⟩
theorem dss_cons {u v : SW} (h1 : DS T X W st u) (h2 : DSs T X W rest v) : DSs T X W (st :: rest) (sSeq u v) :=
  ⟨pss_mono (pss_cons h1.ps h2.ps) fun D σ H q => by
    obtain ⟨G, ρ, r, fa, q⟩ := q
    refine ⟨G, ρ, r, fa, h1.mono ρ { endS T X.K W G D with nx := fun ρ' => v ρ' (endS T X.K W G D) } _ ⟨fun ρ' h σ' H' O' r' fa' => ?_, fun _ h => h, fun _ h => h, fun _ h => h, fun _ h => h⟩ q⟩
    exact ⟨⟨G.Hb, O', G.fl⟩, ρ', r', fa', h⟩,
   fun ρ D D' l h => h1.mono _ _ _ (le_nx l h2.mono) h⟩
theorem dss_one {u : SW} (h1 : DS T X W st u) : DSs T X W [st] u := ⟨pss_one h1.ps, h1.mono⟩
theorem ds_pass : DS T X W (.Pass pos) sNil := ⟨ps_mono ps_pass fun D σ H q => by
  obtain ⟨G, ρ, r, fa, q⟩ := q
  exact q σ H G.O r fa, fun _ _ _ l h => l.nx _ h⟩
theorem ds_doc {x j} : DS T X W (.Expr (.Constant (.str x) j pos) pos') sNil := ⟨ps_mono ps_doc fun D σ H q => by
  obtain ⟨G, ρ, r, fa, q⟩ := q
  exact q σ H G.O r fa, fun _ _ _ l h => l.nx _ h⟩
def sRet (w : PW) : SW := fun ρ D => w ρ D.rt D.ex
theorem ds_ret {w : PW} (h : DE T X W e w) : DS T X W (.Return (some e) pos) (sRet w) := ⟨ps_mono (ps_ret h.pe) fun D σ H q => by
  obtain ⟨G, ρ, r, fa, q⟩ := q
  exact ⟨G, ρ, r, h.mono _ _ _ _ _ (fun d hd v H' r' a => hd v ρ σ H' G.O r' a) (fun _ z => ex_out' z) q⟩, fun ρ D D' l q => h.mono _ _ _ _ _ l.rt l.ex q⟩
def sRetN : SW := fun _ D => D.rt .none
theorem ds_retN : DS T X W (.Return none pos) sRetN := ⟨ps_mono ps_retN fun D σ H q => by
  obtain ⟨G, ρ, r, fa, q⟩ := q
  exact q _ ρ σ H G.O r .non, fun _ _ _ l h => l.rt _ h⟩
def sIf (t : PWB) (u v : SW) : SW := fun ρ D => t ρ (fun k => if k = true then u ρ D else v ρ D) D.ex
theorem ds_if {sa sb : List Stmt} {t : PWB} {u v : SW} (hc : DT T X W c t) (ha : DSs T X W sa u) (hb : DSs T X W sb v) : DS T X W (.If c sa sb pos) (sIf t u v) :=
  ⟨ps_mono (ps_if hc.pt ha.ps hb.ps) fun D σ H q => by
    obtain ⟨G, ρ, r, fa, q⟩ := q
    refine ⟨G, ρ, r, hc.mono _ _ _ _ _ (fun k hk H' r' => ?_) (fun _ z => ex_out' z) q⟩
    by_cases z : k = true
    · rw [if_pos z] at hk ⊢; exact ⟨G, ρ, r', fa, hk⟩
    · rw [if_neg z] at hk ⊢; exact ⟨G, ρ, r', fa, hk⟩,
   fun ρ D D' l q => hc.mono _ _ _ _ _ (fun k hk => by
    by_cases z : k = true
    · rw [if_pos z] at hk ⊢; exact ha.mono _ _ _ l hk
    · rw [if_neg z] at hk ⊢; exact hb.mono _ _ _ l hk) l.ex q⟩
/-! ### slots set -/
theorem Rep.setSl (r : Rep T K G ρ σ H) {i : Nat} {v : V} {s : Sl} (h : SlOk K T.dc G.O H s (some v)) (hs : s.owned = true → ∀ b, v = .ref b → ∀ (j : Nat) (t : Sl), j ≠ i → ρ[j]? = some t → t.owned = true → σ[j]? ≠ some (some (.ref b))) : Rep T K G (ρ.set i s) (σ.set i (some v)) H where
  len := by rw [List.length_set, List.length_set]; exact r.len
  slot j t ht := by
    by_cases e : i = j
    · subst e
      have hl : i < ρ.length := by
        by_cases z : i < ρ.length
        · exact z
        · rw [List.getElem?_eq_none (by rw [List.length_set]; omega)] at ht; cases ht
      rw [List.getElem?_set_self hl] at ht
      cases ht
      exact ⟨some v, List.getElem?_set_self (by rw [← r.len]; exact hl), h⟩
    · rw [List.getElem?_set_ne e] at ht ⊢
      exact r.slot j t ht
  sep j k t u a hjk hj hk ht hu e1 e2 := by
    have at_i : ∀ {l : Nat} {u : Sl}, l = i → (ρ.set i s)[l]? = some u → u = s := fun {l u} e hl => by
      subst e
      by_cases hz : l < ρ.length
      · rw [List.getElem?_set_self hz] at hl; cases hl; rfl
      · rw [List.getElem?_eq_none (by rw [List.length_set]; omega)] at hl; cases hl
    have at_v : ∀ {l : Nat} {b : Addr}, l = i → (σ.set i (some v))[l]? = some (some (.ref b)) → v = .ref b := fun {l b} e hl => by
      subst e
      by_cases hz : l < σ.length
      · rw [List.getElem?_set_self hz] at hl; cases hl; rfl
      · rw [List.getElem?_eq_none (by rw [List.length_set]; omega)] at hl; cases hl
    by_cases zj : j = i
    · have zk : k ≠ i := fun z => hjk (zj.trans z.symm)
      have es := at_i zj hj
      rw [List.getElem?_set_ne (Ne.symm zk)] at hk e2
      rw [es] at ht
      exact hs ht a (at_v zj e1) k u zk hk hu e2
    · rw [List.getElem?_set_ne (Ne.symm zj)] at hj e1
      by_cases zk : k = i
      · have es := at_i zk hk
        rw [es] at hu
        exact hs hu a (at_v zk e2) j t zj hj ht e1
      · rw [List.getElem?_set_ne (Ne.symm zk)] at hk e2
        exact r.sep j k t u a hjk hj hk ht hu e1 e2
  tab := r.tab
  ext := r.ext
  dom := r.dom
  fly := r.fly
  dcs := r.dcs
theorem FlApt.setSl {fl : List (Addr × HO)} (fa : FlApt fl ρ σ) {i : Nat} {v : V} {s : Sl} (h : s.owned = true → ∀ q ∈ fl, v ≠ .ref q.1) : FlApt fl (ρ.set i s) (σ.set i (some v)) := fun q hq j t hj ht e => by
  by_cases z : i = j
  · subst z
    by_cases hl : i < ρ.length
    · rw [List.getElem?_set_self hl] at hj
      cases hj
      by_cases hl2 : i < σ.length
      · rw [List.getElem?_set_self hl2] at e
        cases e
        exact h ht q hq rfl
      · rw [List.getElem?_eq_none (by rw [List.length_set]; omega)] at e; cases e
    · rw [List.getElem?_eq_none (by rw [List.length_set]; omega)] at hj; cases hj
  · rw [List.getElem?_set_ne z] at hj e
    exact fa q hq j t hj ht e
theorem FlApt.setSh {fl : List (Addr × HO)} (fa : FlApt fl ρ σ) {i : Nat} {v : V} {d : PyData} : FlApt fl (ρ.set i (.sh d)) (σ.set i (some v)) := fa.setSl fun h => by cases h
def sSet (i : Nat) (w : PW) : SW := fun ρ D => w ρ (fun d => D.nx (ρ.set i (.sh d))) D.ex
theorem ds_set {i : Nat} {x : Str} {w : PW} (hN : X.N.Nodup) (hi : X.N[i]? = some x) (hx : Loc X.env.scope x) (h : DE T X W e w) (hs : swapsWith e (some (.Name x pos')) pos.line X.env = pure false := by rfl)
    (hf : X.fn x = true ∨ X.env.scope.names.lookup x = some .local := by first | exact .inl rfl | exact .inr rfl | assumption) : DS T X W (.Assign [.Name x pos'] e pos) (sSet i w) :=
  ⟨ps_mono (ps_set hN hi hx h.pe hs hf) fun D σ H q => by
    obtain ⟨G, ρ, r, fa, q⟩ := q
    exact ⟨G, ρ, r, h.mono _ _ _ _ _ (fun d hd v H' r' a => hd _ H' G.O (r'.setSh a) fa.setSh) (fun _ z => ex_out' z) q⟩, fun ρ D D' l q => h.mono _ _ _ _ _ (fun d hd => l.nx _ hd) l.ex q⟩
def sOwn (i : Nat) (w : PW) : SW := fun ρ D => w ρ (fun d => match d with | .list ds => D.nx (ρ.set i (.ol ds)) | _ => False) D.ex
theorem mono_own {i : Nat} {w : PW} (m : Mono w) : MonoS (sOwn i w) := fun ρ D D' l q => m _ _ _ _ _ (fun d hd => by cases d <;> first | exact l.nx _ hd | exact hd) l.ex q
theorem own_imp {i : Nat} {w : PW} (m : Mono w) (q : liftS T K W (sOwn i w) D σ H) : liftF T K W w σ H fun x H1 => gName i x σ H1 D.nx := by
  obtain ⟨G, ρ, r, fa, q⟩ := q
  refine ⟨G, ρ, r, m _ _ _ _ _ (fun d hd a vs ds H' ed r' na ap h1 h2 => ?_) (fun _ z => ex_out' z) q⟩
  subst ed
  exact hd _ H' (a :: G.O) (r'.setSl (s := .ol ds) ⟨a, vs, rfl, ⟨List.mem_cons_self, fun z => na (r.dcs a z).1⟩, h1, h2⟩ fun _ b eb j t _ hj ht => by cases eb; exact ap j t hj ht) (fa.setSl fun _ q hq e => na (by cases e; exact (r.fly q hq).1))
theorem ds_own {i : Nat} {x : Str} {w : PW} (hN : X.N.Nodup) (hi : X.N[i]? = some x) (hx : Loc X.env.scope x) (h : DF T X W e w) (hs : swapsWith e (some (.Name x pos')) pos.line X.env = pure false := by rfl)
    (hf : X.fn x = true ∨ X.env.scope.names.lookup x = some .local := by first | exact .inl rfl | exact .inr rfl | assumption) : DS T X W (.Assign [.Name x pos'] e pos) (sOwn i w) :=
  ⟨ps_mono (ps_set hN hi hx h.pe hs hf) fun D σ H q => own_imp h.mono q, mono_own h.mono⟩
/-- y = [..], y a plain local of the def -/
theorem ds_ownLc {i : Nat} {y : Str} {py spos : Pos} {elt tg iter : Expr} {ifs : List Expr} {scope : Scope} {own : List (Str × Nat)} {wi : PWs} {g : GD} {wt : PWB} {we : PW} {sl : List Nat} (hc : X.calm = true) (hN : X.N.Nodup) (hy : X.N[i]? = some y) (hyl : X.env.scope.names.lookup y = some .local)
    (hsw : swapsWith (.ListComp elt [⟨tg, iter, ifs, 0⟩] scope pos) (some (.Name y py)) spos.line X.env = pure true) (hi : DI T X W tg iter wi) (ok : BlkOk X.N X.env.scope scope own) (hsl : ∀ i ∈ sl, i ∈ own.map (·.2))
    (hg : ∀ (s : Shared) (H : Hp) (C : Addr) (cl : List (Str × Addr)) (fp : List Addr), DG T (X.blk s H scope (compEnvC scope cl C X.env) fp) sl tg g) (ht : ∀ (s : Shared) (H : Hp) (C : Addr) (cl : List (Str × Addr)) (fp : List Addr), DTs T (X.blk s H scope (compEnvC scope cl C X.env) fp) W0 ifs wt)
    (he : ∀ (s : Shared) (H : Hp) (C : Addr) (cl : List (Str × Addr)) (fp : List Addr), DE T (X.blk s H scope (compEnvC scope cl C X.env) fp) W0 elt we) (hs : ∀ x, foldedSetIterable iter X.env x = pure x := by intro _; rfl) :
    DS T X W (.Assign [.Name y py] (.ListComp elt [⟨tg, iter, ifs, 0⟩] scope pos) spos) (sOwn i (wLc wi g wt we (own.map (·.2)))) := by
  have hg0 := hg X.s_0 X.H_0 0 [] []
  have ht0 := ht X.s_0 X.H_0 0 [] []
  have he0 := he X.s_0 X.H_0 0 [] []
  exact ⟨ps_mono (ps_setLc (wi := liftI T X.K W wi) (g := liftG T X.K sl g) (tt := liftB T X.K W0 wt) (te := lift T X.K W0 we) hc hN hy hyl hsw hi.pi ok (fun s H C cl fp => (hg s H C cl fp).pg) (fun s H C cl fp => (ht s H C cl fp).pt) (fun s H C cl fp => (he s H C cl fp).pe) hs)
    fun D σ H q => lc_imp hi.mono hg0.mono hg0.keep ht0.mono he0.mono hsl (own_imp (mono_Lc hi.mono hg0.mono ht0.mono he0.mono) q), mono_own (mono_Lc hi.mono hg0.mono ht0.mono he0.mono)⟩
theorem FlApt.asg {fl : List (Addr × HO)} {sl : List Nat} (fa : FlApt fl ρ σ) (h1 : Off sl ρ ρ2) (h2 : Shd sl ρ2) (hw : ∀ vs, (∀ i ∈ sl, i ∈ vs) → wipe σ2 vs = wipe σ vs) : FlApt fl ρ2 σ2 := fun q hq j t hj ht e => by
  by_cases z : j ∈ sl
  · rw [h2 j z t hj] at ht; cases ht
  · rw [h1 j z] at hj
    have := hw sl fun i hi => hi
    have e2 : (wipe σ2 sl)[j]? = (wipe σ sl)[j]? := by rw [this]
    rw [wipe_get z, wipe_get z, e] at e2
    exact fa q hq j t hj ht e2.symm
def sAsg (w : PW) (g : GD) : SW := fun ρ D => w ρ (fun d => g d ρ D.nx) D.ex
theorem ds_asg {tg : Expr} {w : PW} {g : GD} {sl : List Nat} (h : DE T X W e w) (hg : DG T X sl tg g) (hs : swapsWithSole [tg] e pos.line X.env = pure false := by rfl) (hw : swappedStores [tg] e X.env = pure none := by rfl)
    (h1 : (assignEach [tg] X.env).map (·.2) = [assign tg X.env] := by rfl) : DS T X W (.Assign [tg] e pos) (sAsg w g) :=
  ⟨ps_mono (ps_asg h.pe hg.pg hs hw h1) fun D σ H q => by
    obtain ⟨G, ρ, r, fa, q⟩ := q
    exact ⟨G, ρ, r, h.mono _ _ _ _ _ (fun d hd v H' r' a => ⟨G, ρ, d, r', a, hg.mono _ _ _ _ (fun ρ' q' σ' r'' hw => q'.1 σ' H' G.O r'' (fa.asg q'.2.1 q'.2.2 hw)) (hg.keep _ _ _ hd)⟩) (fun _ z => ex_out' z) q⟩, fun ρ D D' l q => h.mono _ _ _ _ _ (fun d hd => hg.mono _ _ _ _ (fun _ z => l.nx _ z) hd) l.ex q⟩
def sAug (i : Nat) (f : PyData → PyData → (PyData → Prop) → Prop) (w : PW) : SW := fun ρ D => match ρ[i]? with
  | some (.sh x) => w ρ (fun y => f x y fun z => D.nx (ρ.set i (.sh z))) D.ex
  | _ => False
theorem ds_aug {i : Nat} {x : Str} {op : Operator} {f : PyData → PyData → (PyData → Prop) → Prop} {w : PW} (hN : X.N.Nodup) (hi : X.N[i]? = some x) (hx : Loc X.env.scope x) (h : DE T X W e w) (ho : OpD T X (inplaceOp op) f) (mf : MonoF f)
    (hf : X.fn x = true ∨ X.env.scope.names.lookup x = some .local := by first | exact .inl rfl | exact .inr rfl | assumption) : DS T X W (.AugAssign (.Name x pos') op e pos) (sAug i f w) :=
  ⟨ps_mono (ps_aug hN hi hx h.pe ho hf) fun D σ H q => by
    obtain ⟨G, ρ, r, fa, q⟩ := q
    unfold sAug at q
    split at q
    · rename_i d hd
      obtain ⟨v0, h1, xv, h2, h3⟩ := r.slot i _ hd
      rw [h2] at h1
      refine ⟨xv, h1, lift_intro h.mono r (h.mono _ _ _ _ _ (fun y hy v H1 r1 e1 a1 => ?_) (fun _ z => ex_out' z) q)⟩
      exact ⟨G, ρ, σ, d, y, r1, .sh (h3.ext e1), .sh a1, mf _ _ _ _ (fun z hz v' H'' r'' a'' => hz _ H'' G.O (r''.setSh a'') fa.setSh) hy⟩
    · exact q.elim, fun ρ D D' l q => by
    unfold sAug at q ⊢
    split at q
    · exact h.mono _ _ _ _ _ (fun y hy => mf _ _ _ _ (fun z hz => l.nx _ hz) hy) l.ex q
    · exact q⟩
/-! ### a list of ours that changes -/
/-- writing the list in slot i -/
theorem Rep.wr (r : Rep T K G ρ σ H) {i : Nat} {ds ds' : List PyData} {a : Addr} {vs vs' : List V} (hi : ρ[i]? = some (.ol ds)) (hv : σ[i]? = some (some (.ref a))) (ha : Own T.dc G.O a) (h1 : H a = some (.lst vs)) (hx : DaAll K (hide G.O H) vs' ds') (hfl : ∀ q ∈ G.fl, q.1 ≠ a) :
    Rep T K G (ρ.set i (.ol ds')) σ (upd H a (.lst vs')) := by
  have eh : hide G.O (upd H a (.lst vs')) = hide G.O H := hide_upd ha.1
  have hil : i < ρ.length := (List.getElem?_eq_some_iff.mp hi).1
  refine ⟨by rw [List.length_set]; exact r.len, fun j s hs => ?_, fun j k s t b hjk hj hk hs ht e1 e2 => ?_, r.tab.upd h1 (.inl ⟨_, rfl⟩), by rw [eh]; exact r.ext, fun b hb => ?_, fun q hq => ?_, fun b hb => ⟨(r.dcs b hb).1, by rw [upd_ne fun z => ha.2 (by rw [← z]; exact hb)]; exact (r.dcs b hb).2.1, (r.dcs b hb).2.2⟩⟩
  · by_cases e : i = j
    · subst e
      rw [List.getElem?_set_self hil] at hs
      cases hs
      exact ⟨_, hv, a, vs', rfl, ha, upd_same, by rw [eh]; exact hx⟩
    · rw [List.getElem?_set_ne e] at hs
      obtain ⟨u, h2, h3⟩ := r.slot j s hs
      have ne : ∀ b, s.owned = true → u = some (.ref b) → b ≠ a := fun b hw eu z => by
        rw [eu, z] at h2
        exact r.sep i j _ s a e hi hs rfl hw hv h2
      refine ⟨u, h2, ?_⟩
      cases s with
      | un => trivial
      | sh d => obtain ⟨x, h4, h5⟩ := h3; exact ⟨x, h4, by rw [eh]; exact h5⟩
      | ol _ => obtain ⟨b, us, h4, h5, h6, h7⟩ := h3; exact ⟨b, us, h4, h5, by rw [upd_ne (ne b rfl h4)]; exact h6, by rw [eh]; exact h7⟩
      | ok _ => obtain ⟨b, us, h4, h5, h6, h7, h8⟩ := h3; exact ⟨b, us, h4, h5, by rw [upd_ne (ne b rfl h4)]; exact h6, h7, by rw [eh]; exact h8⟩
      | ot _ => obtain ⟨b, us, h4, h5, h6, h7, h8⟩ := h3; exact ⟨b, us, h4, h5, by rw [upd_ne (ne b rfl h4)]; exact h6, h7, by rw [eh]; exact h8⟩
      | dice => exact h3
      | scr ns => obtain ⟨b, h4, h5⟩ := h3; exact ⟨b, h4, by rw [eh]; exact h5⟩
  · have own : ∀ {l : Nat} {u : Sl}, (ρ.set i (.ol ds'))[l]? = some u → u.owned = true → ∃ u', ρ[l]? = some u' ∧ u'.owned = true := fun {l u} hl hu => by
      by_cases e : i = l
      · subst e; exact ⟨_, hi, rfl⟩
      · rw [List.getElem?_set_ne e] at hl; exact ⟨u, hl, hu⟩
    obtain ⟨s', hj', hs'⟩ := own hj hs
    obtain ⟨t', hk', ht'⟩ := own hk ht
    exact r.sep j k s' t' b hjk hj' hk' hs' ht' e1 e2
  · by_cases z : b = a
    · rw [z, upd_same]; exact ⟨_, rfl, fun ps e => by cases e⟩
    · rw [upd_ne z]; exact r.dom b hb
  · obtain ⟨h2, h3⟩ := r.fly q hq
    exact ⟨h2, by rw [upd_ne (hfl q hq)]; exact h3⟩
end
end PL
set_option Elab.async false
set_option linter.all false
set_option maxRecDepth 100000
set_option maxHeartbeats 2000000
namespace PL
open PySem PySem.Spec PyProof.Rows L2
open LamX (ExtN Tabs TabS)
section
variable {T : Tb} {X : Cx} {W : WX} {pos p pos' apos : Pos} {e a b c : Expr} {st : Stmt} {rest : List Stmt} {K : PySem.W.Frag} {G G2 : Gh} {ρ ρ2 : En} {σ σ2 : L2.St} {H H' : Hp} {D : Ends}
/-! ### raise -/
def sRaise (C : Addr) : SW := fun _ D => D.ex ⟨C, none⟩
theorem ds_raise {C : Addr} (hc : X.calm = true) (tk : Takes X W) (hm : PMk X e (fun _ H Q => Q (.ref C) none H)) : DS T X W (.Raise (some e) none pos) (sRaise C) :=
  ⟨ps_mono (ps_raise hc tk hm) fun D σ H q => by
    obtain ⟨G, ρ, r, fa, q⟩ := q
    exact q ρ σ H G.O _ _ r ⟨rfl, rfl⟩, fun ρ D D' l q => l.ex _ q⟩
/-! ### an expression as a statement -/
def sEx (w : PW) : SW := fun ρ D => w ρ (fun _ => D.nx ρ) D.ex
theorem ds_ex {w : PW} (h : DE T X W e w) (hs : swapsWith e none pos.line X.env = pure false := by rfl) : DS T X W (.Expr e pos) (sEx w) :=
  ⟨ps_mono (ps_expr h.pe hs) fun D σ H q => by
    obtain ⟨G, ρ, r, fa, q⟩ := q
    exact ⟨G, ρ, r, h.mono _ _ _ _ _ (fun d hd v H' r' a => hd σ H' G.O r' fa) (fun _ z => ex_out' z) q⟩, fun ρ D D' l q => h.mono _ _ _ _ _ (fun d hd => l.nx _ hd) l.ex q⟩
/-! ### xs.append(e), xs ours -/
def sApp (i : Nat) (w : PW) : SW := fun ρ D => match ρ[i]? with
  | some (.ol ds) => w ρ (fun d => ds.length < sizeLine ∧ D.nx (ρ.set i (.ol (ds ++ [d])))) D.ex
  | _ => False
theorem ds_app {i : Nat} {w : PW} (ha : PE X a (tVar i)) (h : DE T X W e w)
    (hs0 : swapsWith (.Call (.Attribute a "append" apos) [e] [] pos) none pos'.line X.env = pure false := by rfl)
    (hbase : attributeBase a "append" X.env (eval a X.env) = eval a X.env := by rfl)
    (hfew : ((backTo pos (starEach [e] X.env)).all (fun x => !x.1) && (backToKw pos (keywordEach [] X.env)).all (fun x => x.1.isSome)
      && decide (([e]).length + ([] : List Keyword).length + (if ([] : List Keyword).isEmpty then 0 else 1) < 30)) = true := by rfl)
    (hline : (apos.endLine == pos.line) = true := by rfl) (hs : starEach [e] X.env = (false, eval e X.env) :: starEach [] X.env := by rfl) :
    DS T X W (.Expr (.Call (.Attribute a "append" apos) [e] [] pos) pos') (sApp i w) :=
  ⟨ps_mono (ps_expr (pe_bm PySem.F.plainAttrs_list PySem.F.slot_list_append PySem.F.type_list_append mt_append ha (pa_cons h.pe pa_nil hs) hbase hfew hline hs (by rfl)) hs0) fun D σ H q => by
    obtain ⟨G, ρ, r, fa, q⟩ := q
    unfold sApp at q
    split at q
    · rename_i ds hd
      obtain ⟨v, h1, b, vs, rfl, h3, h4, h5⟩ := r.slot i _ hd
      refine ⟨_, h1, .inl ⟨rfl, _, SqL.of h4⟩, ⟨G, ρ, r, h.mono _ _ _ _ _ (fun d hd' v H1 r1 a1 => ?_) (fun _ z => ex_out' z) q⟩⟩
      obtain ⟨v', h1', b', vs', e', h3', h4', h5'⟩ := r1.slot i _ hd
      rw [h1] at h1'
      cases h1'
      cases e'
      refine ⟨_, vs', v, rfl, rfl, h4', by rw [h5'.length]; exact hd'.1, ?_⟩
      exact hd'.2 σ _ G.O (r1.wr hd h1 h3' h4' (h5'.append (.cons a1 .nil)) fun q hq z => fa q hq i _ hd rfl (by rw [z]; exact h1)) (fun q hq j t hj ht e => by
        by_cases z : i = j
        · subst z; exact fa q hq i _ hd rfl e
        · rw [List.getElem?_set_ne z] at hj
          exact fa q hq j t hj ht e)
    · exact q.elim, fun ρ D D' l q => by
    unfold sApp at q ⊢
    split at q
    · exact h.mono _ _ _ _ _ (fun d hd => ⟨hd.1, l.nx _ hd.2⟩) l.ex q
    · exact q⟩
theorem FlApt.wr {fl : List (Addr × HO)} {i : Nat} {s s' : Sl} (fa : FlApt fl ρ σ) (hd : ρ[i]? = some s) (ho : s.owned = true) : FlApt fl (ρ.set i s') σ := fun q hq j t hj ht e => by
  by_cases z : i = j
  · subst z; exact fa q hq i _ hd ho e
  · rw [List.getElem?_set_ne z] at hj
    exact fa q hq j t hj ht e
/-! ### xs[k] = e, xs ours -/
def sSetI (i : Nat) (wk w : PW) : SW := fun ρ D => match ρ[i]? with
  | some (.ol ds) => w ρ (fun d => wk ρ (fun k => match k with
    | .int n => ∃ j, ixN ds.length n = some j ∧ D.nx (ρ.set i (.ol (ds.set j d)))
    | _ => False) D.ex) D.ex
  | _ => False
theorem ds_setI {i : Nat} {w wk : PW} (ho : PE X a (tVar i)) (hk : DE T X W b wk) (h : DE T X W e w) (hs : swapsWithSole [.Subscript a b p] e pos.line X.env = pure false := by rfl) (hw : swappedStores [.Subscript a b p] e X.env = pure none := by rfl)
    (h1 : (assignEach [.Subscript a b p] X.env).map (·.2) = [assign (.Subscript a b p) X.env] := by rfl)
    (ha : ∀ v, assign (.Subscript a b p) X.env v = (do
      let ov ← holding [v] (eval a X.env)
      let iv ← holding [v, ov] (eval b X.env)
      standAt p
      holding [v, ov, iv] (setItem ov iv v)
      release [v, ov, iv] []) := by intro _; rfl) : DS T X W (.Assign [.Subscript a b p] e pos) (sSetI i wk w) :=
  ⟨ps_mono (ps_asg h.pe (pg_sub ho hk.pe set_list ha) hs hw h1) fun D σ H q => by
    obtain ⟨G, ρ, r, fa, q⟩ := q
    unfold sSetI at q
    split at q
    · rename_i ds hd
      refine ⟨G, ρ, r, h.mono _ _ _ _ _ (fun d hd' v H1 r1 a1 => ?_) (fun _ z => ex_out' z) q⟩
      obtain ⟨u, h1, b, vs, rfl, h3, h4, h5⟩ := r1.slot i _ hd
      refine ⟨_, h1, lift_intro hk.mono r1 (hk.mono _ _ _ _ _ (fun k hk' u H2 r2 e2 a2 => ?_) (fun _ z => ex_out' z) hd')⟩
      cases a2 with
      | int n =>
        obtain ⟨j, hj, q⟩ := hk'
        obtain ⟨v', h1', b', vs', e', h3', h4', h5'⟩ := r2.slot i _ hd
        rw [h1] at h1'
        cases h1'
        cases e'
        refine ⟨_, vs', n, j, rfl, rfl, h4', by rw [h5'.length]; exact hj, ?_⟩
        exact q σ _ G.O (r2.wr hd h1 h3' h4' (h5'.set (a1.ext e2) j) fun q hq z => fa q hq i _ hd rfl (by rw [z]; exact h1)) (fa.wr hd rfl)
      | _ => exact hk'.elim
    · exact q.elim, fun ρ D D' l q => by
    unfold sSetI at q ⊢
    split at q
    · exact h.mono _ _ _ _ _ (fun d hd => hk.mono _ _ _ _ _ (fun k hk' => by
        cases k <;> first | exact hk' | exact (let ⟨j, h1, h2⟩ := hk'; ⟨j, h1, l.nx _ h2⟩)) l.ex hd) l.ex q
    · exact q⟩
/-! ### what is ours is given up: from now on it is read only -/
theorem Rep.frz (r : Rep T K G ρ σ H) {i : Nat} {ds : List PyData} {a : Addr} {vs : List V} (hi : ρ[i]? = some (.ol ds)) (hv : σ[i]? = some (some (.ref a))) (h1 : H a = some (.lst vs)) (ha : Own T.dc G.O a) (hx : DaAll K (hide G.O H) vs ds) (hfl : ∀ q ∈ G.fl, q.1 ≠ a) :
    Rep T K ⟨G.Hb, G.O.filter (fun b => decide (b ≠ a)), G.fl⟩ (ρ.set i (.sh (.list ds))) σ H := by
  have mem : ∀ {b}, b ∈ G.O.filter (fun b => decide (b ≠ a)) ↔ b ∈ G.O ∧ b ≠ a := fun {b} => by rw [List.mem_filter, decide_eq_true_eq]
  have e : ExtN (hide G.O H) (hide (G.O.filter (fun b => decide (b ≠ a))) H) := ext_sub fun b hb => (mem.mp hb).1
  have hil : i < ρ.length := (List.getElem?_eq_some_iff.mp hi).1
  refine ⟨by rw [List.length_set]; exact r.len, fun j s hs => ?_, fun j k s t b hjk hj hk hs ht e1 e2 => ?_, r.tab, r.ext.trans e, fun b hb => r.dom b (mem.mp hb).1, fun q hq => ⟨mem.mpr ⟨(r.fly q hq).1, hfl q hq⟩, (r.fly q hq).2⟩,
    fun b hb => ⟨mem.mpr ⟨(r.dcs b hb).1, fun z => ha.2 (by rw [← z]; exact hb)⟩, (r.dcs b hb).2⟩⟩
  · by_cases z : i = j
    · subst z
      rw [List.getElem?_set_self hil] at hs
      cases hs
      exact ⟨_, hv, _, rfl, .lst (by rw [hide_out fun z => (mem.mp z).2 rfl]; exact h1) (hx.ext e)⟩
    · rw [List.getElem?_set_ne z] at hs
      obtain ⟨u, h2, h3⟩ := r.slot j s hs
      have ne : ∀ b, s.owned = true → u = some (.ref b) → b ≠ a := fun b hw eu z' => by
        rw [eu, z'] at h2
        exact r.sep i j _ s a z hi hs rfl hw hv h2
      refine ⟨u, h2, ?_⟩
      cases s with
      | un => trivial
      | sh d => obtain ⟨x, h4, h5⟩ := h3; exact ⟨x, h4, h5.ext e⟩
      | ol _ => obtain ⟨b, us, h4, h5, h6, h7⟩ := h3; exact ⟨b, us, h4, ⟨mem.mpr ⟨h5.1, ne b rfl h4⟩, h5.2⟩, h6, h7.ext e⟩
      | ok _ => obtain ⟨b, us, h4, h5, h6, h7, h8⟩ := h3; exact ⟨b, us, h4, ⟨mem.mpr ⟨h5.1, ne b rfl h4⟩, h5.2⟩, h6, h7, h8.ext e⟩
      | ot _ => obtain ⟨b, us, h4, h5, h6, h7, h8⟩ := h3; exact ⟨b, us, h4, ⟨mem.mpr ⟨h5.1, ne b rfl h4⟩, h5.2⟩, h6, h7, h8.ext e⟩
      | dice => exact h3
      | scr ns => obtain ⟨b, h4, h5⟩ := h3; exact ⟨b, h4, sqL_ext e h5⟩
  · have own : ∀ {l : Nat} {u : Sl}, (ρ.set i (.sh (.list ds)))[l]? = some u → u.owned = true → ρ[l]? = some u := fun {l u} hl hu => by
      by_cases z : i = l
      · subst z; rw [List.getElem?_set_self hil] at hl; cases hl; cases hu
      · rw [List.getElem?_set_ne z] at hl; exact hl
    exact r.sep j k s t b hjk (own hj hs) (own hk ht) hs ht e1 e2
def sFrz (i : Nat) (v : SW) : SW := fun ρ D => match ρ[i]? with
  | some (.ol ds) => v (ρ.set i (.sh (.list ds))) D
  | some (.sh _) => v ρ D
  | _ => False
theorem dss_frz {sts : List Stmt} (i : Nat) {v : SW} (h : DSs T X W sts v) : DSs T X W sts (sFrz i v) :=
  ⟨pss_mono h.ps fun D σ H q => by
    obtain ⟨G, ρ, r, fa, q⟩ := q
    unfold sFrz at q
    split at q
    · rename_i ds hd
      obtain ⟨v', h1, b, vs, rfl, h3, h4, h5⟩ := r.slot i _ hd
      refine ⟨⟨G.Hb, G.O.filter (fun c => decide (c ≠ b)), G.fl⟩, _, r.frz hd h1 h4 h3 h5 fun q hq z => fa q hq i _ hd rfl (by rw [z]; exact h1), fa.wr hd rfl, q⟩
    · exact ⟨G, ρ, r, fa, q⟩
    · exact q.elim, fun ρ D D' l q => by
    unfold sFrz at q ⊢
    split at q
    · exact h.mono _ _ _ l q
    · exact h.mono _ _ _ l q
    · exact q⟩
/-! ### loops -/
def goFor (g : GD) (b : SW) (D : PEn) : List PyData → En → Prop
  | [], ρ => D.nx ρ
  | d :: ds, ρ => g d ρ fun ρ2 => b ρ2 { D with nx := goFor g b D ds, ct := goFor g b D ds, bk := D.nx }
def sFor (wi : PWs) (g : GD) (b : SW) : SW := fun ρ D => wi ρ (fun ds => goFor g b D ds ρ) D.ex
theorem goFor_mono {g : GD} {b : SW} (mg : ∀ d ρ Q Q', (∀ r, Q r → Q' r) → g d ρ Q → g d ρ Q') (mb : MonoS b) {D D' : PEn} (l : PEn.Le D D') : ∀ (ds : List PyData) (ρ : En), goFor g b D ds ρ → goFor g b D' ds ρ
  | [], ρ, h => l.nx _ h
  | d :: ds, ρ, h => mg _ _ _ _ (fun ρ2 h2 => mb ρ2 { D with nx := goFor g b D ds, ct := goFor g b D ds, bk := D.nx } _ ⟨goFor_mono mg mb l ds, l.rt, l.nx, goFor_mono mg mb l ds, l.ex⟩ h2) h
theorem ends_base {Hb : Hp} {O : List Addr} {fl : List (Addr × HO)} (D : Ends) (e : ExtN G.Hb Hb) (hfl : G.fl = fl) : PEn.Le (endS T K W G D) (endS T K W ⟨Hb, O, fl⟩ D) := by
  subst hfl
  exact ⟨fun ρ h σ' H' O' r f => h σ' H' O' (r.unbase' _ e) f, fun d h v ρ' σ' H' O' r a => h v ρ' σ' H' O' (r.unbase' _ e) a, fun ρ h σ' H' O' r f => h σ' H' O' (r.unbase' _ e) f, fun ρ h σ' H' O' r f => h σ' H' O' (r.unbase' _ e) f,
    fun x h ρ' σ' H' O' cls dd r q => h ρ' σ' H' O' cls dd (r.unbase' _ e) q⟩
theorem ds_for {tg iter : Expr} {body : List Stmt} {wi : PWs} {g : GD} {bw : SW} {sl : List Nat} (hp : PassesOwn (model X.prog X.w) X.A X.env X.xe) (hc : X.calm = true) (hi : DI T X W tg iter wi) (hg : DG T X sl tg g) (hb : DSs T X W body bw)
    (hs : ∀ x, foldedSetIterable iter X.env x = pure x := by intro _; rfl) : DS T X W (.For tg iter body [] pos) (sFor wi g bw) :=
  ⟨ps_mono (ps_for hp hc hi.pi hg.pg hb.ps hs) fun D σ H q => by
    obtain ⟨G, ρ, r, fa, q⟩ := q
    refine ⟨G, ρ, r, hi.mono _ _ _ _ _ (fun ds hds J H1 r1 wk => ?_) (fun _ z => ex_out' z) q⟩
    refine ⟨fun i m σ' H' => m = ds.length - i ∧ ∃ ρ' O', Rep T X.K ⟨hide G.O H1, O', G.fl⟩ ρ' σ' H' ∧ FlApt G.fl ρ' σ' ∧ goFor g bw (endS T X.K W G D) (ds.drop i) ρ', ⟨_, rfl, ρ, G.O, r1.rebase, fa, hds⟩, fun i m σ' H' hW => ?_⟩
    obtain ⟨rfl, ρ', O', r2, fa2, hgo⟩ := hW
    have dm : ∀ a ∈ O', H' a ≠ none := fun a ha z => by obtain ⟨o, e, _⟩ := r2.dom a ha; rw [z] at e; cases e
    obtain ⟨wk1, wk2⟩ := wk O' H' r2.ext dm
    cases hd : ds.drop i with
    | nil =>
      rw [hd] at hgo
      exact .inl ⟨wk2 i (List.drop_eq_nil_iff.mp hd), hgo σ' H' O' (r2.unbase' _ r1.ext) fa2⟩
    | cons d rest =>
      have hi' : i < ds.length := by
        by_cases z : i < ds.length
        · exact z
        · rw [List.drop_eq_nil_of_le (by omega)] at hd; cases hd
      have hdd := List.drop_eq_getElem_cons hi'
      rw [hd] at hdd
      have hdi : ds[i]? = some d := by rw [List.getElem?_eq_getElem hi', ← (List.cons.inj hdd).1]
      have hrest : ds.drop (i + 1) = rest := (List.cons.inj hdd).2.symm
      obtain ⟨jgo, yld⟩ := wk1 i d hdi
      rw [hd] at hgo
      refine .inr ⟨jgo, fun σ'' H'' => ∃ ρ'' O'', Rep T X.K ⟨hide G.O H1, O'', G.fl⟩ ρ'' σ'' H'' ∧ FlApt G.fl ρ'' σ'' ∧ goFor g bw (endS T X.K W G D) rest ρ'', fun σ'' H'' h => ⟨ds.length - (i + 1), by omega, rfl, by rw [hrest]; exact h⟩, fun x H3 hy => ?_⟩
      obtain ⟨al, hx⟩ := yld x H3 hy
      have r3 := r2.alloc al
      refine ⟨_, ρ', d, r3, hx, hg.mono _ _ _ _ (fun ρ2 h2 σ2 r4 hw => ?_) (hg.keep _ _ _ hgo)⟩
      refine ⟨_, ρ2, r4, fa2.asg h2.2.1 h2.2.2 hw, hb.mono _ _ _ ?_ h2.1⟩
      have eb := ends_base (T := T) (K := X.K) (W := W) (O := O') D r1.ext (G := G) rfl
      exact ⟨fun ρ3 h3 σ3 H3 O3 r5 f5 => ⟨ρ3, O3, r5, f5, h3⟩, eb.rt, eb.nx, fun ρ3 h3 σ3 H3 O3 r5 f5 => ⟨ρ3, O3, r5, f5, h3⟩, eb.ex⟩,
   fun ρ D D' l q => hi.mono _ _ _ _ _ (fun ds h => goFor_mono hg.mono hb.mono l ds ρ h) l.ex q⟩
def goWh (c : PWB) (b : SW) (D : PEn) : Nat → En → Prop
  | 0, _ => False
  | n + 1, ρ => c ρ (fun k => if k = true then b ρ { D with nx := goWh c b D n, ct := goWh c b D n, bk := D.nx } else D.nx ρ) D.ex
def sWh (c : PWB) (b : SW) : SW := fun ρ D => ∃ n, goWh c b D n ρ
theorem goWh_mono {c : PWB} {b : SW} (mc : Mono c) (mb : MonoS b) {D D' : PEn} (l : PEn.Le D D') : ∀ (n : Nat) (ρ : En), goWh c b D n ρ → goWh c b D' n ρ
  | 0, _, h => h
  | n + 1, ρ, h => mc _ _ _ _ _ (fun k hk => by
      by_cases z : k = true
      · rw [if_pos z] at hk ⊢
        exact mb _ { D with nx := goWh c b D n, ct := goWh c b D n, bk := D.nx } _ ⟨goWh_mono mc mb l n, l.rt, l.nx, goWh_mono mc mb l n, l.ex⟩ hk
      · rw [if_neg z] at hk ⊢
        exact l.nx _ hk) l.ex h
theorem ds_while {body : List Stmt} {wc : PWB} {bw : SW} (hp : PassesOwn (model X.prog X.w) X.A X.env X.xe) (hc : DT T X W c wc) (hb : DSs T X W body bw) : DS T X W (.While c body [] pos) (sWh wc bw) :=
  ⟨ps_mono (ps_while hp hc.pt hb.ps) fun D σ H q => by
    obtain ⟨G, ρ, r, fa, n, q⟩ := q
    refine ⟨fun m σ' H' => ∃ ρ' O', Rep T X.K ⟨G.Hb, O', G.fl⟩ ρ' σ' H' ∧ FlApt G.fl ρ' σ' ∧ goWh wc bw (endS T X.K W G D) m ρ', ⟨n, ρ, G.O, r, fa, q⟩, fun m σ' H' hW => ?_⟩
    obtain ⟨ρ', O', r2, fa2, hgo⟩ := hW
    cases m with
    | zero => exact hgo.elim
    | succ m =>
      refine ⟨_, ρ', r2, hc.mono _ _ _ _ _ (fun k hk H1 r3 => ?_) (fun _ z => ex_out z) hgo⟩
      by_cases z : k = true
      · rw [if_pos z] at hk ⊢
        refine ⟨fun σ'' H'' => ∃ ρ'' O'', Rep T X.K ⟨G.Hb, O'', G.fl⟩ ρ'' σ'' H'' ∧ FlApt G.fl ρ'' σ'' ∧ goWh wc bw (endS T X.K W G D) m ρ'', fun σ'' H'' h => ⟨m, Nat.lt_succ_self m, h⟩, ?_⟩
        refine ⟨_, ρ', r3, fa2, hb.mono _ _ _ ?_ hk⟩
        exact ⟨fun ρ3 h3 σ3 H3 O3 r5 f5 => ⟨ρ3, O3, r5, f5, h3⟩, fun _ h => h, fun _ h => h, fun ρ3 h3 σ3 H3 O3 r5 f5 => ⟨ρ3, O3, r5, f5, h3⟩, fun _ h => h⟩
      · rw [if_neg z] at hk ⊢
        exact hk σ' H1 O' r3 fa2,
   fun ρ D D' l ⟨n, q⟩ => ⟨n, goWh_mono hc.mono hb.mono l n ρ q⟩⟩
def sBrk : SW := fun ρ D => D.bk ρ
def sCnt : SW := fun ρ D => D.ct ρ
theorem ds_break : DS T X W (.Break pos) sBrk := ⟨ps_mono ps_break fun D σ H q => by
  obtain ⟨G, ρ, r, fa, q⟩ := q
  exact q σ H G.O r fa, fun _ _ _ l h => l.bk _ h⟩
theorem ds_continue : DS T X W (.Continue pos) sCnt := ⟨ps_mono ps_continue fun D σ H q => by
  obtain ⟨G, ρ, r, fa, q⟩ := q
  exact q σ H G.O r fa, fun _ _ _ l h => l.ct _ h⟩
/-! ### a, b = e1, e2 (both shared) -/
def sPar (i j : Nat) (w : PWs) : SW := fun ρ D => w ρ (fun ds => match ds with | [x, y] => D.nx ((ρ.set i (.sh x)).set j (.sh y)) | _ => False) D.ex
theorem ds_par {i j : Nat} {x y : Str} {px py pt : Pos} {kt k2 pt2} {w : PWs} (hc : X.calm = true) (hN : X.N.Nodup) (hi : X.N[i]? = some x) (hj : X.N[j]? = some y) (hij : i ≠ j)
    (hx : X.env.scope.names.lookup x = some .local) (hy : X.env.scope.names.lookup y = some .local) (ha : DA T X W [a, b] w)
    (hw : swappedStores [.Tuple [.Name x px, .Name y py] kt pt] (.Tuple [a, b] k2 pt2) X.env = pure (some [x, y]))
    (hs : swapsWithSole [.Tuple [.Name x px, .Name y py] kt pt] (.Tuple [a, b] k2 pt2) pos.line X.env = pure false := by rfl) : DS T X W (.Assign [.Tuple [.Name x px, .Name y py] kt pt] (.Tuple [a, b] k2 pt2) pos) (sPar i j w) :=
  ⟨ps_mono (ps_par hc hN hi hj hij hx hy ha.pa hw hs) fun D σ H q => by
    obtain ⟨G, ρ, r, fa, q⟩ := q
    refine ⟨G, ρ, r, ha.mono _ _ _ _ _ (fun ds hd vs H1 r1 a1 => ?_) (fun _ z => ex_out' z) q⟩
    cases a1 with
    | nil => exact hd.elim
    | cons a1 a2 => cases a2 with
      | nil => exact hd.elim
      | cons a2 a3 => cases a3 with
        | cons _ _ => exact hd.elim
        | nil => exact ⟨_, _, rfl, hd _ _ G.O ((r1.setSh a1).setSh a2) fa.setSh.setSh⟩,
   fun ρ D D' l q => ha.mono _ _ _ _ _ (fun ds hd => by
    revert hd
    cases ds with
    | nil => exact fun z => z
    | cons _ t => cases t with
      | nil => exact fun z => z
      | cons _ t => cases t with
        | nil => exact l.nx _
        | cons _ _ => exact fun z => z) l.ex q⟩
end
end PL
set_option Elab.async false
set_option linter.all false
set_option maxRecDepth 100000
set_option maxHeartbeats 2000000
namespace PL
open PySem PySem.Spec PyProof.Rows L2
open LamX (ExtN Tabs TabS)
/-! ### a def, its code object's place told -/
structure FunC (K : PySem.W.Frag) (x : Str) (st : Stmt) (f c : Addr) (fd : FuncData) : Prop where
  ex : ∃ (oc : Value) (od : Option Addr) (kV doc pm : Value) (an : Option Addr) (ct : Value) (osl : Array (Option Value)),
    fd = PySem.W.fnOf x x (defArgs st) (defBody st) (defScope st) .none kV doc pm an (.ref c) ct ∧ K.lookup f = some ⟨oc, od, .func fd, osl⟩ ∧ PySem.W.codeIn K (.ref c) x = true
  kp : PySem.W.keepIn K (.ref f) = true
section
variable {P : Program} {w : World} {K : PySem.W.Frag} {mg : Str → Option Value} {base : Heap} {x : Str} {st : Stmt} {f c : Addr} {fd : FuncData} {N ps : List Str} {k : Nat} {sp : Sp}
theorem FunC.okX (F : FunC K x st f c fd) (S : FnScope N ps (defScope st)) (len : ∀ vs H Q E, sp vs H Q E → vs.length = ps.length)
    (hbody : ∀ (A : Around) (outer : List Env) (s : Shared) (H : Hp) (vs : List V) (Q : VK) (E : XK), Room k (A.deeper (envOfC x (defScope st) s.heap.objs.size f (.ref c))) → sp vs H Q E →
      ∃ t, PSs (cxOf (L2.CX P w) P w K mg base N x (defScope st) f (.ref c) A outer s H E) (defBody st) t ∧ t { nx := fun _ H' => Q .non H', rt := Q } (start N vs) H) : FnOk P w K mg base (L2.CX P w) (k + 1) f fd ps sp := by
  obtain ⟨oc, od, kV, doc, pm, an, ct, osl, rfl, lk, hcd⟩ := F.ex
  exact fn_of lk hcd S len fun A outer s H vs Q E hr hsp => hbody A outer s H vs Q E hr hsp
theorem FunC.binds (F : FunC K x st f c fd)
    (h : ∀ (kV doc pm : Value) (an : Option Addr) (cdv ct : Value) (us : List Value), us.length = ps.length → bindArgs (PySem.W.fnOf x x (defArgs st) (defBody st) (defScope st) .none kV doc pm an cdv ct) ⟨us, []⟩ = pure (ps.zip us)) : Binds K fd ps [] := by
  obtain ⟨oc, od, kV, doc, pm, an, ct, osl, rfl, lk, hcd⟩ := F.ex
  exact .all (h kV doc pm an (.ref c) ct)
end
/-! ### the contract of a def -/
def flOf (D0 O : List Addr) (H : Hp) : List (Addr × HO) := O.filterMap fun a => if a ∈ D0 then none else (H a).map fun o => (a, o)
theorem mem_flOf {D0 O : List Addr} {H : Hp} {a : Addr} {o : HO} : (a, o) ∈ flOf D0 O H ↔ a ∈ O ∧ a ∉ D0 ∧ H a = some o := by
  unfold flOf
  rw [List.mem_filterMap]
  constructor
  · rintro ⟨b, hb, e⟩
    by_cases z : b ∈ D0
    · rw [if_pos z] at e; cases e
    · rw [if_neg z] at e
      cases h : H b with
      | none => rw [h] at e; cases e
      | some o' => rw [h] at e; cases e; exact ⟨hb, z, h⟩
  · rintro ⟨h1, h2, h3⟩
    exact ⟨a, h1, by rw [if_neg h2, h3]; rfl⟩
structure Back (T : Tb) (O : List Addr) (H H' : Hp) : Prop where
  ext : ExtN (hide O H) (hide O H')
  keep : ∀ a ∈ O, a ∉ T.dc → H' a = H a
  dc : ∀ a ∈ T.dc, ∃ x y z, H' a = some (.lst [.int x, .int y, .int z])
  tab : TOk T H'
/-- a contract: of the arguments' slots -/
def spD (T : Tb) (K : PySem.W.Frag) (n : Nat) (c : PW) : Sp := fun vs H Q E => ∃ (O : List Addr) (ρ : En), ρ.length = n ∧ Rep T K ⟨hide O H, O, flOf T.dc O H⟩ ρ (vs.map some) H ∧ (∀ s ∈ ρ, s.owned = false) ∧
  c ρ (fun d => ∀ v H', Back T O H H' → Da K (hide O H') v d → Q v H') (fun x => ∀ H' cls dd, Back T O H H' → ExR K x cls dd (hide O H') → E cls dd H')
def cOf (N : List Str) (w : SW) : PW := fun ρ Q E => w (ρ ++ List.replicate (N.length - ρ.length) .un) { nx := fun _ => Q .none, rt := Q, ex := E }
theorem mono_cOf {N : List Str} {w : SW} (m : MonoS w) : Mono (cOf N w) := fun ρ Q Q' E E' hq he h => m _ { nx := fun _ => Q .none, rt := Q, ex := E } _ ⟨fun _ => hq _, hq, fun _ z => z, fun _ z => z, he⟩ h
section
variable {T : Tb} {X : Cx} {W : WX} {pos p pos' apos : Pos} {e a b : Expr} {es : List Expr} {st : Stmt} {rest : List Stmt} {K : PySem.W.Frag} {G G2 : Gh} {ρ ρ2 : En} {σ σ2 : L2.St} {H H' : Hp} {D : Ends}
theorem Rep.back {O' : List Addr} {O : List Addr} (r : Rep T K ⟨hide O H, O', flOf T.dc O H⟩ ρ σ H') (dom : ∀ a ∈ O, ∃ o, H a = some o ∧ ∀ ps, o ≠ .tbl ps) : Back T O H H' ∧ ExtN (hide O' H') (hide O H') := by
  have sub : ∀ b ∈ O, b ∈ O' := fun b hb => by
    by_cases z : b ∈ T.dc
    · exact (r.dcs b z).1
    · obtain ⟨o, ho, _⟩ := dom b hb
      exact (r.fly (b, o) (mem_flOf.mpr ⟨hb, z, ho⟩)).1
  have e := ext_sub (H := H') sub
  refine ⟨⟨r.ext.trans e, fun a ha nd => ?_, fun a ha => (r.dcs a ha).2.1, r.tab⟩, e⟩
  obtain ⟨o, ho, _⟩ := dom a ha
  rw [ho]
  exact (r.fly (a, o) (mem_flOf.mpr ⟨ha, nd, ho⟩)).2
theorem exR_ext {x : Exn} {cls : Value} {dd : Option Addr} (e : ExtN H H') (h : ExR K x cls dd H) : ExR K x cls dd H' := by
  obtain ⟨h1, h2⟩ := h
  refine ⟨h1, ?_⟩
  cases hx : x.fld with
  | none => rw [hx] at h2; exact h2
  | some q =>
    rw [hx] at h2
    obtain ⟨a, v, ha, hb, hc⟩ := h2
    exact ⟨a, v, ha, e _ _ hb (fun ps z => by cases z), hc.ext e⟩
theorem start_eq {N : List Str} {vs : List V} {ρ : En} (h : ρ.length = vs.length) : L2.start N vs = vs.map some ++ List.replicate (N.length - ρ.length) none := by
  unfold L2.start
  rw [h]
theorem Rep.more (r : Rep T K G ρ σ H) (n : Nat) : Rep T K G (ρ ++ List.replicate n .un) (σ ++ List.replicate n none) H where
  len := by rw [List.length_append, List.length_append, r.len, List.length_replicate, List.length_replicate]
  slot i s hs := by
    by_cases z : i < ρ.length
    · rw [List.getElem?_append_left z] at hs
      rw [List.getElem?_append_left (by rw [← r.len]; exact z)]
      exact r.slot i s hs
    · rw [List.getElem?_append_right (by omega)] at hs
      have hl : i - ρ.length < n := by
        have := (List.getElem?_eq_some_iff.mp hs).1
        rw [List.length_replicate] at this
        exact this
      rw [List.getElem?_replicate, if_pos hl] at hs
      cases hs
      rw [List.getElem?_append_right (by rw [← r.len]; omega), ← r.len, List.getElem?_replicate, if_pos hl]
      exact ⟨none, rfl, trivial⟩
  sep i j s t a hij hi hj hs ht e1 e2 := by
    have low : ∀ {l : Nat} {u : Sl}, (ρ ++ List.replicate n .un)[l]? = some u → u.owned = true → l < ρ.length := fun {l u} hl hu => by
      by_cases z : l < ρ.length
      · exact z
      · rw [List.getElem?_append_right (by omega), List.getElem?_replicate] at hl
        split at hl
        · cases hl; cases hu
        · cases hl
    have l1 := low hi hs
    have l2 := low hj ht
    rw [List.getElem?_append_left l1] at hi
    rw [List.getElem?_append_left l2] at hj
    rw [List.getElem?_append_left (by rw [← r.len]; exact l1)] at e1
    rw [List.getElem?_append_left (by rw [← r.len]; exact l2)] at e2
    exact r.sep i j s t a hij hi hj hs ht e1 e2
  tab := r.tab
  ext := r.ext
  dom := r.dom
  fly := r.fly
  dcs := r.dcs
/-- THE RULE for a def -/
theorem fn_okD {P : Program} {w : World} {mg : Str → Option Value} {base : Heap} {x : Str} {st : Stmt} {f c : Addr} {fd : FuncData} {N ps : List Str} {k : Nat} {u : SW} (F : FunC K x st f c fd) (S : FnScope N ps (defScope st))
    (hb : ∀ (A : Around) (outer : List Env) (s : Shared) (H : Hp) (E : XK), Room k (A.deeper (envOfC x (defScope st) s.heap.objs.size f (.ref c))) →
      DSs T (cxOf (L2.CX P w) P w K mg base N x (defScope st) f (.ref c) A outer s H E) (fun cls d _ H => E cls d H) (defBody st) u) : FnOk P w K mg base (L2.CX P w) (k + 1) f fd ps (spD T K ps.length (cOf N u)) := by
  refine F.okX S (fun vs H Q E h => ?_) (fun A outer s H vs Q E hr h => ⟨_, (hb A outer s H E hr).ps, ?_⟩)
  · obtain ⟨O, ρ, h1, h2, _⟩ := h
    have := h2.len
    rw [List.length_map] at this
    omega
  · obtain ⟨O, ρ, h1, r, no, q⟩ := h
    have hl : ρ.length = vs.length := by have := r.len; rw [List.length_map] at this; exact this
    refine ⟨⟨hide O H, O, flOf T.dc O H⟩, ρ ++ List.replicate (N.length - ρ.length) .un, ?_, fun q hq j t hj ht e => ?_, ?_⟩
    · rw [start_eq hl]
      exact r.more _
    · exfalso
      by_cases z : j < ρ.length
      · rw [List.getElem?_append_left z] at hj
        rw [no t (List.mem_of_getElem? hj)] at ht
        cases ht
      · rw [List.getElem?_append_right (by omega), List.getElem?_replicate] at hj
        split at hj
        · cases hj; cases ht
        · cases hj
    · refine (hb A outer s H E hr).mono _ { nx := fun _ => ∀ v H', Back T O H H' → Da K (hide O H') v .none → Q v H', rt := fun d => ∀ v H', Back T O H H' → Da K (hide O H') v d → Q v H', ex := fun x => ∀ H' cls dd, Back T O H H' → ExR K x cls dd (hide O H') → E cls dd H' } _ ⟨fun ρ' h σ' H' O' r' _ => ?_, fun d h v ρ' σ' H' O' r' a => ?_, fun _ z => z.elim, fun _ z => z.elim, fun x h ρ' σ' H' O' cls dd r' q => ?_⟩ q
      · exact h .non H' (r'.back r.dom).1 .non
      · obtain ⟨b1, b2⟩ := r'.back r.dom
        exact h v H' b1 (a.ext b2)
      · obtain ⟨b1, b2⟩ := r'.back r.dom
        exact h H' cls dd b1 (exR_ext b2 q)
theorem fn_ok0 {P : Program} {w : World} {mg : Str → Option Value} {base : Heap} {f : Addr} {fd : FuncData} {ps : List Str} {k n : Nat} : FnOk P w K mg base (L2.CX P w) k f fd ps (spD T K n fun _ _ _ => False) :=
  ⟨fun vs H Q E h => by obtain ⟨_, _, _, _, _, z⟩ := h; exact z.elim, fun A outer s H args us vs Q E hr e0 hb r h => by obtain ⟨_, _, _, _, _, z⟩ := h; exact z.elim⟩
/-! ### its call -/
def ArgOk (T : Tb) (K : PySem.W.Frag) (H : Hp) : V → Sl → Prop
  | v, .sh d => Da K H v d
  | v, .dice => ∃ a, v = .ref a ∧ a ∈ T.dc
  | v, .scr ns => ∃ a, v = .ref a ∧ SqL K H a (ns.map V.int)
  | _, _ => False
inductive ArgsOk (T : Tb) (K : PySem.W.Frag) (H : Hp) : List V → List Sl → Prop
  | nil : ArgsOk T K H [] []
  | cons {v : V} {vs : List V} {s : Sl} {ss : List Sl} : ArgOk T K H v s → ArgsOk T K H vs ss → ArgsOk T K H (v :: vs) (s :: ss)
abbrev PWp := En → (List Sl → Prop) → (Exn → Prop) → Prop
theorem ArgOk.ext {v : V} {s : Sl} (e : ExtN H H') (h : ArgOk T K H v s) : ArgOk T K H' v s := by
  cases s with
  | sh d => exact Da.ext e h
  | dice => exact h
  | scr ns => obtain ⟨a, h1, h2⟩ := h; exact ⟨a, h1, sqL_ext e h2⟩
  | _ => exact h.elim
theorem ArgOk.own {v : V} {s : Sl} (h : ArgOk T K H v s) : s.owned = false := by
  cases s <;> first | rfl | exact False.elim h
theorem ArgsOk.ext {vs : List V} {ss : List Sl} (e : ExtN H H') (h : ArgsOk T K H vs ss) : ArgsOk T K H' vs ss := by
  induction h with
  | nil => exact .nil
  | cons h _ ih => exact .cons (h.ext e) ih
def liftP (T : Tb) (K : PySem.W.Frag) (W : WX) (w : PWp) : TA := fun σ H Q => ∃ G ρ, Rep T K G ρ σ H ∧ w ρ (fun ss => ∀ vs H', Rep T K G ρ σ H' → ArgsOk T K (hide G.O H') vs ss → Q vs H') (exOut T K W G ρ σ)
structure DP (T : Tb) (X : Cx) (W : WX) (es : List Expr) (w : PWp) : Prop where
  pa : PA X es (liftP T X.K W w)
  mono : Mono w
theorem pa_mono {X : Cx} {e : List Expr} {t t' : TA} (h : PA X e t) (i : ∀ σ H Q, t' σ H Q → t σ H Q) : PA X e t' := ⟨fun pos pins s σ H Q I q => h.run pos pins s σ H Q I (i _ _ _ q)⟩
def wpNil : PWp := fun _ Q _ => Q []
def wpSh (w : PW) (ws : PWp) : PWp := fun ρ Q E => w ρ (fun d => ws ρ (fun ss => Q (.sh d :: ss)) E) E
def wpDc (i : Nat) (ws : PWp) : PWp := fun ρ Q E => ρ[i]? = some .dice ∧ ws ρ (fun ss => Q (.dice :: ss)) E
theorem dp_nil : DP T X W [] wpNil := ⟨pa_mono pa_nil fun σ H Q q => by
  obtain ⟨G, ρ, r, q⟩ := q
  exact q [] H r .nil, fun _ _ _ _ _ hq _ h => hq _ h⟩
theorem dp_sh {w : PW} {ws : PWp} (h : DE T X W e w) (hr : DP T X W es ws) (hs : starEach (e :: es) X.env = (false, eval e X.env) :: starEach es X.env := by rfl) : DP T X W (e :: es) (wpSh w ws) :=
  ⟨pa_mono (pa_cons h.pe hr.pa hs) fun σ H Q q => by
    obtain ⟨G, ρ, r, q⟩ := q
    refine lift_intro h.mono r (h.mono _ _ _ _ _ (fun d hd v H1 r1 e1 a1 => ?_) (fun _ z => z) q)
    refine ⟨⟨hide G.O H1, G.O, G.fl⟩, ρ, r1.rebase, hr.mono _ _ _ _ _ (fun ss hss vs H2 r2 a2 => ?_) (fun x hx H' cls dd r' q => hx H' cls dd (r'.unbase r1.ext) q) hd⟩
    exact hss _ _ (r2.unbase r1.ext) (.cons (Da.ext r2.ext a1) a2),
   fun ρ Q Q' E E' hq he q => h.mono _ _ _ _ _ (fun d hd => hr.mono _ _ _ _ _ (fun ss hss => hq _ hss) he hd) he q⟩
theorem dp_dc {i : Nat} {ws : PWp} (h : PE X e (tVar i)) (hr : DP T X W es ws) (hs : starEach (e :: es) X.env = (false, eval e X.env) :: starEach es X.env := by rfl) : DP T X W (e :: es) (wpDc i ws) :=
  ⟨pa_mono (pa_cons h hr.pa hs) fun σ H Q q => by
    obtain ⟨G, ρ, r, hd, q⟩ := q
    obtain ⟨v, h1, a, rfl, ha⟩ := r.slot i _ hd
    refine ⟨_, h1, G, ρ, r, hr.mono _ _ _ _ _ (fun ss hss vs H2 r2 a2 => ?_) (fun x z => z) q⟩
    exact hss _ _ r2 (.cons ⟨a, rfl, ha⟩ a2),
   fun ρ Q Q' E E' hq he q => ⟨q.1, hr.mono _ _ _ _ _ (fun ss hss => hq _ hss) he q.2⟩⟩
def wpSc (i : Nat) (ws : PWp) : PWp := fun ρ Q E => ∃ ns, ρ[i]? = some (.scr ns) ∧ ws ρ (fun ss => Q (.scr ns :: ss)) E
theorem dp_sc {i : Nat} {ws : PWp} (h : PE X e (tVar i)) (hr : DP T X W es ws) (hs : starEach (e :: es) X.env = (false, eval e X.env) :: starEach es X.env := by rfl) : DP T X W (e :: es) (wpSc i ws) :=
  ⟨pa_mono (pa_cons h hr.pa hs) fun σ H Q q => by
    obtain ⟨G, ρ, r, ns, hd, q⟩ := q
    obtain ⟨v, h1, a, rfl, ha⟩ := r.slot i _ hd
    refine ⟨_, h1, ⟨hide G.O H, G.O, G.fl⟩, ρ, r.rebase, hr.mono _ _ _ _ _ (fun ss hss vs H2 r2 a2 => ?_) (fun x hx H' cls dd r' q => hx H' cls dd (r'.unbase r.ext) q) q⟩
    exact hss _ _ (r2.unbase r.ext) (.cons ⟨a, rfl, sqL_ext r2.ext ha⟩ a2),
   fun ρ Q Q' E E' hq he ⟨ns, q1, q2⟩ => ⟨ns, q1, hr.mono _ _ _ _ _ (fun ss hss => hq _ hss) he q2⟩⟩
/-- script[:e] -/
def wScr (i : Nat) (wh : PWo) : PW := fun ρ Q E => ∃ ns, ρ[i]? = some (.scr ns) ∧ wh ρ (fun h => Q (.list ((cutD (ns.map .int) none h)))) E
theorem df_scr {i : Nat} {hi : Option Expr} {p2 : Pos} {wh : PWo} (h : PE X e (tVar i)) (hh : DO T X W hi wh) : DF T X W (.Subscript e (.Slice none hi none p2) pos) (wScr i wh) := by
  obtain ⟨⟨th, ph, qh⟩, mh⟩ := hh
  refine ⟨pe_mono (pe_slice sl_list h po_none ph) fun σ H Q q => ?_, fun ρ Q Q' E E' hq he ⟨ns, q1, q2⟩ => ⟨ns, q1, mh _ _ _ _ _ (fun _ z => hq _ z) he q2⟩⟩
  obtain ⟨G, ρ, r, ns, hd, q⟩ := q
  obtain ⟨v, h1, a, rfl, ha⟩ := r.slot i _ hd
  refine ⟨_, h1, qh ⟨hide G.O H, G.O, G.fl⟩ ρ σ H _ r.rebase (mh _ _ _ _ _ (fun o ho H' r' => ?_) (fun x hx H' cls dd r' q => hx H' cls dd (r'.unbase r.ext) q) q)⟩
  have ha' : SqL X.K H' a (ns.map V.int) := by
    rcases sqL_ext r'.ext ha with z | z
    · exact .inl (z.elim (fun z => .inl (hide_some z).2) fun ⟨ob, z⟩ => .inr ⟨ob, (hide_some z).2⟩)
    · exact .inr z
  refine ⟨a, _, rfl, ha', fun p hp => ?_⟩
  obtain ⟨r2, na, ap, h1, h2⟩ := (r'.unbase r.ext).newL hp (cut_da (daAll_ints ns) none o)
  exact ho p _ _ _ rfl r2 na ap h1 h2
def wCall (n : Nat) (c : PW) (ws : PWp) : PW := fun ρ Q E => ws ρ (fun ss => ss.length = n ∧ c ss Q E) E
theorem args_rep {vs : List V} {ss : List Sl} (r : Rep T K G ρ σ H) (h : ArgsOk T K (hide G.O H) vs ss) : Rep T K ⟨hide G.O H, G.O, flOf T.dc G.O H⟩ ss (vs.map some) H ∧ ∀ s ∈ ss, s.owned = false := by
  have no : ∀ s ∈ ss, s.owned = false := by
    induction h with
    | nil => exact fun s hs => by cases hs
    | cons h _ ih =>
      intro s hs
      rcases List.mem_cons.mp hs with z | z
      · rw [z]
        exact h.own
      · exact ih s z
  have len : ss.length = vs.length := by
    clear no
    induction h with
    | nil => rfl
    | cons _ _ ih => rw [List.length_cons, List.length_cons, ih]
  have at_ : ∀ (i : Nat) (s : Sl), ss[i]? = some s → ∃ v, vs[i]? = some v ∧ ArgOk T K (hide G.O H) v s := by
    clear no len
    induction h with
    | nil => intro i s hs; simp at hs
    | cons h _ ih =>
      intro i s hs
      cases i with
      | zero => simp at hs; subst hs; exact ⟨_, rfl, h⟩
      | succ i => simpa using ih i s (by simpa using hs)
  refine ⟨⟨by rw [List.length_map]; exact len, fun i s hs => ?_, fun i j s t a hij hi hj hs ht e1 e2 => ?_, r.tab, ExtN.refl _, r.dom, fun p hp => ?_, fun a ha => ⟨(r.dcs a ha).1, (r.dcs a ha).2.1, fun q hq z => ?_⟩⟩, no⟩
  · obtain ⟨v, hv, ho⟩ := at_ i s hs
    refine ⟨some v, by rw [List.getElem?_map, hv]; rfl, ?_⟩
    cases s with
    | sh d => exact ⟨v, rfl, ho⟩
    | dice => obtain ⟨a, e, ha⟩ := ho; exact ⟨a, by rw [e], ha⟩
    | scr ns => obtain ⟨a, e, ha⟩ := ho; exact ⟨a, by rw [e], ha⟩
    | _ => exact ho.elim
  · rw [no s (List.mem_of_getElem? hi)] at hs
    cases hs
  · obtain ⟨a, o⟩ := p
    obtain ⟨h1, h2, h3⟩ := mem_flOf.mp hp
    exact ⟨h1, h3⟩
  · obtain ⟨b, o⟩ := q
    obtain ⟨h1, h2, h3⟩ := mem_flOf.mp hq
    exact h2 (by rw [show b = a from z]; exact ha)
theorem Rep.forth (r : Rep T K G ρ σ H) (b : Back T G.O H H') : Rep T K G ρ σ H' := r.stepD b.ext b.keep b.dc b.tab
theorem de_call {k n : Nat} {f : Addr} {fd : FuncData} {ps : List Str} {c : PW} {x : Str} {ws : PWp} (F : FnOk X.prog X.w X.K X.mg X.base (L2.CX X.prog X.w) k f fd ps (spD T X.K n c)) (mc : Mono c) (hr : Room k X.A) (hg : Gl X x) (hm : X.mg x = some (.ref f)) (hk : PySem.W.keepIn X.K (.ref f) = true) (hb : Binds X.K fd ps []) (tk : Takes X W)
    (h : DP T X W (e :: es) ws) (hdb : (x == ("__debug__" : Str)) = false := by decide) (he : starEach (e :: es) X.env = (false, eval e X.env) :: starEach es X.env := by rfl) (hpl : (backTo pos (starEach es X.env)).any (·.1) = false := by rfl) :
    DE T X W (.Call (.Name x p) (e :: es) [] pos) (wCall n c ws) :=
  ⟨pe_mono (pe_callS (E := WE W) F hr hg hm hk hb (fun σ => passAt tk σ) h.pa hdb he hpl) fun σ H Q q => by
    obtain ⟨G, ρ, r, q⟩ := q
    refine ⟨G, ρ, r, h.mono _ _ _ _ _ (fun ss hss vs H1 r1 a1 => ?_) (fun _ z => z) q⟩
    obtain ⟨r2, no⟩ := args_rep r1 a1
    exact ⟨G.O, ss, hss.1, r2, no, mc _ _ _ _ _ (fun d hd v H' bk a => hd v H' (r1.forth bk) a) (fun x hx H' cls dd bk q => hx H' cls dd (r1.forth bk) q) hss.2⟩,
   fun ρ Q Q' E E' hq he q => h.mono _ _ _ _ _ (fun ss hss => ⟨hss.1, mc _ _ _ _ _ hq he hss.2⟩) he q⟩
end
end PL
set_option Elab.async false
set_option linter.all false
set_option maxRecDepth 100000
set_option maxHeartbeats 2000000
/-! list(reversed(xs)), xs a list -/
namespace LRv
open PySem RT
section
variable {prog : Program} {w : World} {A : Around} {s : Shared} {R : Result → Shared → Prop}
theorem ext_rev {S it l : Addr} {items : Array Value} {res : Value} (hh : A.handled = none) (hit : s.heap.IsRevIter it l ((items.size : Int) - 1)) (hl : s.heap.IsList l items) (hne : l ≠ it) (hSi : S ≠ it) (hSl : S ≠ l) (hn : items.size ≤ sizeLine)
    (hS : s.heap.get? S = some { cls := .type "list", data := .seq #[] })
    (hR : ∀ (h' : Heap) (tk : Nat) (acc : Array Value) (c' : Nat), (∀ b o, b ≠ S → b ≠ it → s.heap.get? b = some o → h'.get? b = some o) → h'.get? S = some { cls := .type "list", dict := none, data := .seq acc c', slots := #[] } →
      ItemsOf (fun i v => items[items.size - 1 - i]? = some v) acc items.size → R (.ok (.ret res)) { s with heap := h', toks := tk }) :
    wpAny (model prog w) A.in1 (Builtin.List.listExtendWith (.ref S) (.ref it) res) (fun fin s' => match fin with | .done f => R (.ok f) s' | .again c' => c'.quiet = true ∧ codeAny (model prog w) A c' R s') (fun e s' => R (.error e) s') s := by
  have Wk := (Walks.listRev (prog := prog) (w := w) (A := A.in1) hh it l hne items).toS
  have hSf : S ∉ [it, l] := by simp [hSi, hSl]
  have hT : s.TypeIs (.ref it) "list_reverseiterator" := hit.typeIs
  have e1 : Builtin.List.listSameRef (.ref S) (.ref it) = false := by simp [Builtin.List.listSameRef, hSi]
  unfold Builtin.List.listExtendWith; refine wpAny_bind (wpAny_typeOf hT ?_); rw [if_neg (by rw [e1]; decide)]
  refine wpAny_bind (wpAny_pyIter_revIter hit ?_); refine wpAny_bind (wpAny_holding ?_)
  unfold Builtin.List.listLengthHint; refine wpAny_bind (wpAny_specialOf hT nolen_lri ?_)
  show wpAny _ A.in1 (specialOf (.ref it) (Str.ofString "__length_hint__") >>= _) _ _ _; refine wpAny_bind (wpAny_specialOf hT hint_lri ?_)
  generalize hq : ("list_reverseiterator.__length_hint__" : String) = q0; wp_delta
  rw [show splitId q0 = some ("list_reverseiterator", "__length_hint__") from by subst hq; decide +kernel]; subst hq
  refine wpAny_bind (wpAny_isInstance (b := true) hT (by rw [isSubtype_type]; kernel_rfl) ?_); refine wpAny_pure ?_; rw [if_neg (by decide)]
  have e0 : ((items.size : Nat) : Int) - 1 - ((0 : Nat) : Int) = (items.size : Int) - 1 := by omega
  refine wpAny_pure ⟨plainId_quiet F.plain_extend_loop _, codeAny_extend_loopS Wk hn _ hSf _ items.size 0 _ _ _ rfl (Nat.zero_le _) ⟨Nat.zero_le _, by rw [e0]; exact hit, hl⟩ hS (ItemsOf.nil _) fun s2 acc c2 hm hS2 hacc => ?_⟩
  rw [Moved.eq_with hm] at hS2 ⊢
  exact hR s2.heap s2.toks acc c2 (fun b o h1 h2 e => hm.heap b o (by simp [h1, h2]) e) hS2 hacc
theorem call_lr {E : Value → Shared → Prop} {it l : Addr} {items : Array Value} {Q : Value → Shared → Prop} (hh : A.handled = none) (hit : s.heap.IsRevIter it l ((items.size : Int) - 1)) (hl : s.heap.IsList l items) (hne : l ≠ it) (hn : items.size ≤ sizeLine)
    (hQ : ∀ (h' : Heap) (tk : Nat) (acc : Array Value) (c' : Nat), (∀ b o, b ≠ it → s.heap.get? b = some o → h'.get? b = some o) → h'.get? s.heap.objs.size = some { cls := .type "list", dict := none, data := .seq acc c', slots := #[] } →
      ItemsOf (fun i v => items[items.size - 1 - i]? = some v) acc items.size → Q (.ref s.heap.objs.size) { s with heap := h', toks := tk }) :
    wpAny (model prog w) A (call (.type "list") [.ref it]) Q E s := by
  refine callType_codes (Q₁ := fun obj s₁ => obj = .ref s.heap.objs.size ∧ s₁ = { s with heap := s.heap.push { cls := .type "list", data := .seq #[] } }) F.called_list (F.typeCall_list_1 _) F.entry_list_init (code_list_new _ ⟨rfl, rfl⟩) fun obj s₁ h₁ => ?_
  obtain ⟨rfl, rfl⟩ := h₁
  have hS : (s.heap.push { cls := .type "list", data := .seq #[] }).get? s.heap.objs.size = some { cls := .type "list", data := .seq #[] } := Heap.get?_push_size _ rfl
  refine ⟨⟨_, hS, rfl⟩, F.args_list_init_2 _ _, ?_⟩
  obtain ⟨oi, hoi, _⟩ := id hit
  obtain ⟨ol, hol, _⟩ := id hl
  have n1 : s.heap.objs.size ≠ it := Nat.ne_of_gt (Heap.lt_size hoi)
  have n2 : s.heap.objs.size ≠ l := Nat.ne_of_gt (Heap.lt_size hol)
  show wpAny _ _ (do let old ← Builtin.List.listItems (.ref s.heap.objs.size); Builtin.List.listUpdate (.ref s.heap.objs.size) (fun _ => #[]); letGo old.toList.reverse; Builtin.List.listExtendWith (.ref s.heap.objs.size) (.ref it) .none) _ _ _
  refine wpAny_bind ?_; unfold Builtin.List.listItems; refine wpAny_bind (wpAny_seqItems hS rfl (wpAny_pure ?_))
  show wpAny _ _ (updateSeq s.heap.objs.size (fun _ => #[]) >>= fun _ => letGo (#[] : Array Value).toList.reverse >>= fun _ => Builtin.List.listExtendWith (.ref s.heap.objs.size) (.ref it) .none) _ _ _
  refine wpAny_bind (wpAny_updateSeq hS rfl ?_); refine wpAny_bind (wpAny_letGo ?_)
  have hS₂ := Heap.get?_update_self (Obj.mapSeq (fun _ => (#[] : Array Value))) hS rfl
  have oth : ∀ b o, b ≠ s.heap.objs.size → s.heap.get? b = some o → ((s.heap.push { cls := .type "list", data := .seq #[] }).update s.heap.objs.size (Obj.mapSeq (fun _ => (#[] : Array Value)))).get? b = some o := fun b o hb e => (Heap.get?_update_other _ _ (Ne.symm hb)).trans (Heap.get?_push_of_some _ e)
  refine ext_rev (s := { s with heap := (s.heap.push { cls := .type "list", data := .seq #[] }).update s.heap.objs.size (Obj.mapSeq (fun _ => (#[] : Array Value))) }) (A := A.in1) hh (hit.at fun o e => oth _ _ n1.symm e) ?_ hne n1 n2 hn hS₂ fun h' tk acc c' hk hS' hacc => ?_
  · obtain ⟨o, h1, h2⟩ := hl
    exact ⟨o, oth _ _ n2.symm h1, h2⟩
  · exact ⟨rfl, hQ h' tk acc c' (fun b o hb e => hk b o (Nat.ne_of_lt (Heap.lt_size e)) hb (oth b o (Nat.ne_of_lt (Heap.lt_size e)) e)) hS' hacc⟩
end
open PySem.Spec PyProof.Rows L2
def tLR (K : PySem.W.Frag) (te : TE) : TE := fun σ H Q => te σ H fun v H1 => ∃ (a : Addr) (xs : List V), v = .ref a ∧ SqL K H1 a xs ∧ ∀ q, H1 q = none → Q (.ref q) (upd H1 q (.lst xs.reverse))
variable {X : Cx}
theorem pe_lr {e : Expr} {te : TE} {p p2 pos pos2 : Pos} (hc : X.calm = true) (hg : Gl X "list") (hm : X.mg "list" = none) (hg2 : Gl X "reversed") (hm2 : X.mg "reversed" = none) (he : PE X e te)
    (hs : starEach [e] X.env = (false, eval e X.env) :: starEach [] X.env := by rfl) (hs2 : starEach [.Call (.Name "reversed" p2) [e] [] pos2] X.env = (false, eval (.Call (.Name "reversed" p2) [e] [] pos2) X.env) :: starEach [] X.env := by rfl) :
    PE X (.Call (.Name "list" p) [.Call (.Name "reversed" p2) [e] [] pos2] [] pos) (tLR X.K te) := by
  refine ⟨fun pins s σ H Q I h => ?_⟩
  refine Call_ (ld_blt I hg hm PyProof.Rows.boot_list (callWith_type1 (args_cons (Call_ (ld_blt I hg2 hm2 boot_reversed (callWith_type1 (args_cons (thn (he.run pins s σ H _ I h) fun u s1 ⟨v, H1, I1, r1, q1⟩ => args_nil ?_) hs) hs rfl))) hs2) hs2 rfl))
  obtain ⟨a, xs, ev, hq, q⟩ := q1; subst ev; obtain rfl : u = Value.ref a := r1
  obtain ⟨its, rv, p', hz⟩ := I1.list hq
  refine call_reversed_list p'.isList (args_nil ?_)
  have I2 : Inv X pins σ H1 { s1 with heap := s1.heap.push (revObj a ((its.toArray.size : Int) - 1)) } := I1.kept (t' := s1.toks) fun b o e => Heap.get?_push_of_some _ e
  obtain ⟨f0, f1, f2, f3, f4, f5⟩ := I1.fpOk (H' := H1) (b := s1.heap.objs.size) (Nat.le_refl _) (I1.hok.fresh (Nat.le_refl _))
  have hl := p'.isList; obtain ⟨ol, hol, _⟩ := id hl
  have hn : its.toArray.size ≤ sizeLine := by rw [List.size_toArray, ← rv.length]; exact hz
  refine call_lr (s := { s1 with heap := s1.heap.push (revObj a ((its.toArray.size : Int) - 1)) }) (I1.ok.hd hc) ⟨_, Heap.get?_push_size _ rfl, rfl, rfl⟩ (hl.push _) (Nat.ne_of_lt (Heap.lt_size hol)) hn fun h' tk acc c' hk hS hi => ?_
  have hsz : (s1.heap.push (revObj a ((its.toArray.size : Int) - 1))).objs.size = s1.heap.objs.size + 1 := by simp
  have hfr : H1 (s1.heap.objs.size + 1) = none := I1.hok.fresh (Nat.le_succ _)
  have fp := I1.fpOk (H' := H1) (b := s1.heap.objs.size) (Nat.le_refl _) (I1.hok.fresh (Nat.le_refl _))
  rw [hsz] at hS
  have I3 := I2.turnedNew (t' := tk) (h' := h') (ch := [s1.heap.objs.size]) (T := s1.heap.objs.size + 1) (ob := .lst xs.reverse) (fun b o hb e => hk b o (fun z => hb (by simp [z])) e) (fun b hb => by rw [List.mem_singleton.mp hb]; exact fp) (by rw [hsz]; exact Nat.le_refl _)
    (show ObjOk X.prog X.w _ h' _ (.lst xs.reverse) from ⟨by rw [List.length_reverse]; exact hz, acc.toList, c', vals_rev rv hi, by rw [Array.toArray_toList]; exact hS⟩)
  exact ⟨.ref _, _, I3, by rw [hsz]; rfl, q _ hfr⟩
end LRv
set_option Elab.async false
set_option linter.all false
set_option maxRecDepth 100000
set_option maxHeartbeats 2000000
namespace PL
open PySem PySem.Spec PyProof.Rows L2
open LamX (ExtN Tabs TabS)
section
variable {T : Tb} {X : Cx} {W : WX} {pos p p2 pos2 pos' apos : Pos} {e a b : Expr} {es : List Expr} {st : Stmt} {rest : List Stmt} {K : PySem.W.Frag} {G G2 : Gh} {ρ ρ2 : En} {σ σ2 : L2.St} {H H' : Hp} {D : Ends}
/-! ### times -/
theorem rep_zero {α : Type} (c : Array α) (h : c.size = 0) : ∀ (n : Nat) (acc : Array α), (List.replicate n c).foldl (· ++ ·) acc = acc
  | 0, acc => rfl
  | n + 1, acc => by
    have e : c = #[] := Array.eq_empty_of_size_eq_zero h
    rw [List.replicate_succ, List.foldl_cons, rep_zero c h n, e, Array.append_empty]
theorem rep_size {α : Type} (c : Array α) : ∀ (n : Nat) (acc : Array α), ((List.replicate n c).foldl (· ++ ·) acc).size = acc.size + n * c.size
  | 0, acc => by simp
  | n + 1, acc => by
    rw [List.replicate_succ, List.foldl_cons, rep_size c n, Array.size_append, Nat.add_mul]
    omega
theorem mul_strR {M : Program} {w : World} {A : Around} {E : Value → Shared → Prop} {s : Shared} {x : Str} {n : Int} {t u : Tok} {Q : Value → Shared → Prop} (h : -(2 ^ 63) ≤ n ∧ x.length * n.toNat ≤ sizeLine ∧ n < 2 ^ 20)
    (q : (∀ t', Q (.str (repS x n.toNat) t') { s with toks := s.toks + 1 }) ∧ ∀ t', Q (.str (repS x n.toNat) t') s) : wpAny (model M w) A (binaryOp .Mult (.str x t) (.int n u)) Q E s := by
  obtain ⟨h1, h2, h3⟩ := h
  have hz : (repS x n.toNat).length = n.toNat * x.length := by
    show ((List.replicate n.toNat x.cps).foldl (· ++ ·) #[]).size = _
    rw [rep_size]
    exact Nat.zero_add _
  refine PySem.P.mul_str ?_ (fun hn _ => ?_) (fun hn _ => ?_) ?_
  · rw [Bool.or_eq_false_iff]
    exact ⟨decide_eq_false (by omega), decide_eq_false (by omega)⟩
  · have hx : x.length ≤ sizeLine := by
      have : 1 ≤ n.toNat := by omega
      calc x.length = x.length * 1 := (Nat.mul_one _).symm
        _ ≤ x.length * n.toNat := Nat.mul_le_mul_left _ this
        _ ≤ _ := h2
    rw [sizeLine_eq] at hx
    have : (16777216 : Int) ≤ (2 ^ 63 - 1) / n := by
      rw [Int.le_ediv_iff_mul_le (by omega)]
      omega
    omega
  · show decide (_ > sizeLine) = false
    exact decide_eq_false (by omega)
  · by_cases c : n < 1
    · rw [if_pos c]
      have e : n.toNat = 0 := by omega
      have e2 : repS x n.toNat = Str.empty := by rw [e]; rfl
      rw [e2] at q
      exact ⟨by decide, q.1 _⟩
    · rw [if_neg c]
      by_cases c2 : (n == 1 || x.length == 0) = true
      · rw [if_pos c2]
        have e2 : repS x n.toNat = x := by
          rcases Bool.or_eq_true_iff.mp c2 with c3 | c3
          · have : n = 1 := by simpa using c3
            subst this
            show Str.mk ((List.replicate 1 x.cps).foldl (· ++ ·) #[]) = x
            simp
          · have h0 : x.cps.size = 0 := eq_of_beq c3
            have : x.cps = #[] := Array.eq_empty_of_size_eq_zero h0
            show Str.mk ((List.replicate n.toNat x.cps).foldl (· ++ ·) #[]) = x
            rw [rep_zero _ h0, ← this]
        rw [e2] at q
        exact q.2 _
      · rw [if_neg c2]
        refine ⟨?_, q.1 _⟩
        show (repS x n.toNat).length ≤ _
        rw [hz, Nat.mul_comm]
        exact h2
theorem opD_mul : OpD T X (binaryOp .Mult) fMul := by
  intro pins s σ0 H x y v u Q I rx ry q
  obtain ⟨G, ρ, σ, d, e, r, tx, ty, q⟩ := q
  unfold fMul at q
  split at q
  · rename_i i j
    exact op_mul pins s σ0 H x y v u Q I rx ry ⟨i, j, tx.int, ty.int, q.1, q.2 _ H r (.int _)⟩
  · rename_i i j
    rw [tx.str] at rx
    rw [ty.int] at ry
    obtain ⟨t, rfl⟩ := rx
    obtain ⟨t', rfl⟩ := ry
    exact mul_strR q.1 ⟨fun t' => ⟨.str _, H, I.tok _, ⟨_, rfl⟩, q.2 _ H r (.str _)⟩, fun t' => ⟨.str _, H, I, ⟨_, rfl⟩, q.2 _ H r (.str _)⟩⟩
  · exact q.elim
/-! ### list(reversed(xs)) -/
def wLR (w : PW) : PW := fun ρ Q E => w ρ (fun d => match d with | .list ds => Q (.list ds.reverse) | _ => False) E
theorem df_lr {w : PW} (hc : X.calm = true) (hg : Gl X "list") (hm : X.mg "list" = none) (hg2 : Gl X "reversed") (hm2 : X.mg "reversed" = none) (he : DE T X W e w)
    (hs : starEach [e] X.env = (false, eval e X.env) :: starEach [] X.env := by rfl) (hs2 : starEach [.Call (.Name "reversed" p2) [e] [] pos2] X.env = (false, eval (.Call (.Name "reversed" p2) [e] [] pos2) X.env) :: starEach [] X.env := by rfl) :
    DF T X W (.Call (.Name "list" p) [.Call (.Name "reversed" p2) [e] [] pos2] [] pos) (wLR w) :=
  ⟨pe_mono (LRv.pe_lr hc hg hm hg2 hm2 he.pe hs hs2) fun σ H Q q => by
    obtain ⟨G, ρ, r, q⟩ := q
    refine ⟨G, ρ, r, he.mono _ _ _ _ _ (fun d hd v H1 r1 a1 => ?_) (fun _ z => z) q⟩
    cases a1 with
    | lst h1 h2 =>
      refine ⟨_, _, rfl, SqL.of (hide_some h1).2, fun q hq => ?_⟩
      obtain ⟨r2, na, ap, h3, h4⟩ := r1.newL hq h2.reverse
      exact hd q _ _ _ rfl r2 na ap h3 h4
    | _ => exact hd.elim, fun ρ Q Q' E E' hq he' q => he.mono _ _ _ _ _ (fun d hd => by cases d <;> first | exact hq _ hd | exact hd) he' q⟩
/-! ### enumerate -/
def enumD (ds : List PyData) : List PyData := ds.zipIdx.map fun p => .tuple [.int (p.2 : Nat), p.1]
theorem enumD_get {ds : List PyData} {i : Nat} {d : PyData} (h : (enumD ds)[i]? = some d) : ∃ x, ds[i]? = some x ∧ d = .tuple [.int (i : Nat), x] := by
  unfold enumD at h
  rw [List.getElem?_map, List.getElem?_zipIdx] at h
  cases z : ds[i]? with
  | none => rw [z] at h; cases h
  | some x => rw [z] at h; cases h; exact ⟨x, rfl, by simp⟩
theorem enumD_length (ds : List PyData) : (enumD ds).length = ds.length := by simp [enumD]
theorem wk_enum {a : Addr} {vs : List V} {ds : List PyData} {B : Hp} (h : B a = some (.lst vs)) (hx : DaAll K B vs ds) : WkJ K B (Ite K a) (enumD ds) := fun O H e dm => by
  have hs : hide O H a = some (.lst vs) := e _ _ h fun ps z => by cases z
  have hH := (hide_some hs).2
  refine ⟨fun i d hd => ?_, fun i hi => ⟨vs, SqL.of hH, ?_⟩⟩
  · obtain ⟨x, h1, rfl⟩ := enumD_get hd
    obtain ⟨v, h2, h3⟩ := hx.getD h1
    refine ⟨⟨vs, v, SqL.of hH, h2⟩, fun y H3 hy => ?_⟩
    obtain ⟨t, z, rfl, nt, rfl, hz⟩ := hy
    have ez : z = v := Option.some.inj ((hz vs (SqL.of hH)).symm.trans h2)
    subst ez
    refine ⟨fun b o hb => by rw [upd_ne (ne_of_none hb nt)]; exact hb, ?_⟩
    have nO : t ∉ O := fun z => dm t z nt
    have eT : ExtN B (hide O (upd H t (.tup [.int (i : Nat), z]))) := e.trans (ext_hide fun b o _ hb _ => by rw [upd_ne (ne_of_none hb nt)]; exact hb)
    exact .tup (SqT.of (by rw [hide_out nO, upd_same])) (.cons (.int _) (.cons (h3.ext eT) .nil))
  · rw [enumD_length] at hi
    rw [hx.length]
    exact hi
def wItE (w : PW) : PWs := fun ρ Q E => w ρ (fun d => match d with | .list ds => Q (enumD ds) | _ => False) E
theorem di_enum {elts : List Expr} {kk : Nat} {tpos : Pos} {w : PW} (hg : Gl X "enumerate") (hm : X.mg "enumerate" = none) (h : DE T X W e w) (hs : starEach [e] X.env = [(false, eval e X.env)] := by rfl)
    (hs2 : starEach [e] X.env = (false, eval e X.env) :: starEach [] X.env := by rfl) : DI T X W (.Tuple elts kk tpos) (.Call (.Name "enumerate" p) [e] [] pos) (wItE w) := ⟨pi_mono (pi_enum hg hm (pa_cons h.pe pa_nil hs2) hs) fun σ H R q => by
    obtain ⟨G, ρ, r, q⟩ := q
    refine ⟨G, ρ, r, h.mono _ _ _ _ _ (fun d hd v H' r' a => ?_) (fun _ z => z) q⟩
    cases a with
    | lst h1 h2 => exact ⟨_, _, rfl, SqL.of (hide_some h1).2, hd _ H' r' (wk_enum h1 h2)⟩
    | _ => exact hd.elim, fun ρ Q Q' E E' hq he q => h.mono _ _ _ _ _ (fun d hd => by cases d <;> first | exact hq _ hd | exact hd) he q⟩
/-! ### dice -/
def wDix (i : Nat) (k : Nat) : PW := fun ρ Q _ => ρ[i]? = some .dice ∧ k < 3 ∧ ∀ n : Int, Q (.int n)
theorem de_dix {i k j : Nat} (h : PE X a (tVar i)) : DE T X W (.Subscript a (.Constant (.int (k : Nat)) j p) pos) (wDix i k) := ⟨pe_mono (pe_ix ix_list h pe_int (fun _ _ => rfl)) fun σ H Q q => by
    obtain ⟨G, ρ, r, hd, hk, q⟩ := q
    obtain ⟨v, h1, b, rfl, hb⟩ := r.slot i _ hd
    obtain ⟨_, ⟨x, y, z, hH⟩, _⟩ := r.dcs b hb
    have three : k = 0 ∨ k = 1 ∨ k = 2 := by omega
    rcases three with rfl | rfl | rfl
    · exact ⟨_, h1, b, _, _, .int x, rfl, rfl, SqL.of hH, rfl, q x _ H r (.int _)⟩
    · exact ⟨_, h1, b, _, _, .int y, rfl, rfl, SqL.of hH, rfl, q y _ H r (.int _)⟩
    · exact ⟨_, h1, b, _, _, .int z, rfl, rfl, SqL.of hH, rfl, q z _ H r (.int _)⟩, fun ρ Q Q' E E' hq _ q => ⟨q.1, q.2.1, fun n => hq _ (q.2.2 n)⟩⟩
def sDst (i k : Nat) (w : PW) : SW := fun ρ D => ρ[i]? = some .dice ∧ k < 3 ∧ w ρ (fun d => match d with | .int _ => D.nx ρ | _ => False) D.ex
theorem ds_dst {i k j : Nat} {w : PW} (ho : PE X a (tVar i)) (h : DE T X W e w) (hs : swapsWithSole [.Subscript a (.Constant (.int (k : Nat)) j p2) p] e pos.line X.env = pure false := by rfl) (hw : swappedStores [.Subscript a (.Constant (.int (k : Nat)) j p2) p] e X.env = pure none := by rfl)
    (h1 : (assignEach [.Subscript a (.Constant (.int (k : Nat)) j p2) p] X.env).map (·.2) = [assign (.Subscript a (.Constant (.int (k : Nat)) j p2) p) X.env] := by rfl)
    (ha : ∀ v, assign (.Subscript a (.Constant (.int (k : Nat)) j p2) p) X.env v = (do
      let ov ← holding [v] (eval a X.env)
      let iv ← holding [v, ov] (eval (.Constant (.int (k : Nat)) j p2) X.env)
      standAt p
      holding [v, ov, iv] (setItem ov iv v)
      release [v, ov, iv] []) := by intro _; rfl) : DS T X W (.Assign [.Subscript a (.Constant (.int (k : Nat)) j p2) p] e pos) (sDst i k w) :=
  ⟨ps_mono (ps_asg h.pe (pg_sub ho pe_int set_list ha) hs hw h1) fun D σ H q => by
    obtain ⟨G, ρ, r, fa, hd, hk, q⟩ := q
    refine ⟨G, ρ, r, h.mono _ _ _ _ _ (fun d hd' v H1 r1 a1 => ?_) (fun _ z => ex_out' z) q⟩
    cases a1 with
    | int n =>
      obtain ⟨v, hv, b, rfl, hb⟩ := r1.slot i _ hd
      obtain ⟨hO, ⟨x, y, z, hH⟩, hfl⟩ := r1.dcs b hb
      have fin : ∀ x' y' z' : Int, D.nx σ (upd H1 b (.lst [.int x', .int y', .int z'])) := fun x' y' z' => by
        refine hd' σ _ G.O (r1.stepD (by rw [hide_upd hO]; exact ExtN.refl _) (fun c _ nc => upd_ne fun e => nc (by rw [e]; exact hb)) (fun c hc => ?_) (r1.tab.upd hH (.inl ⟨_, rfl⟩))) fa
        by_cases e : c = b
        · subst e; exact ⟨_, _, _, upd_same⟩
        · rw [upd_ne e]; exact (r1.dcs c hc).2.1
      have three : k = 0 ∨ k = 1 ∨ k = 2 := by omega
      rcases three with rfl | rfl | rfl
      · exact ⟨_, hv, b, _, _, 0, rfl, rfl, hH, rfl, fin n y z⟩
      · exact ⟨_, hv, b, _, _, 1, rfl, rfl, hH, rfl, fin x n z⟩
      · exact ⟨_, hv, b, _, _, 2, rfl, rfl, hH, rfl, fin x y n⟩
    | _ => exact hd'.elim, fun ρ D D' l q => ⟨q.1, q.2.1, h.mono _ _ _ _ _ (fun d hd => by cases d <;> first | exact l.nx _ hd | exact hd) l.ex q.2.2⟩⟩
end
end PL
set_option Elab.async false
set_option linter.all false
set_option maxRecDepth 100000
set_option maxHeartbeats 2000000
namespace PL
open PySem PySem.Spec PyProof.Rows L2 LamX
/-! ### told(lambda: e) -/
/-- all but the table at P stays -/
def ExtB (P : Addr) (H H' : Hp) : Prop := ∀ b o, b ≠ P → H b = some o → H' b = some o
section
variable {X : Cx} {pins : List (Addr × Obj)} {σ : L2.St} {H : Hp} {s : Shared} {T : Tb}
theorem lam_new {c P : Addr} {params : Arguments} {body : Expr} {scope : Scope} {pos : Pos} {E : Value → Shared → Prop} {Q : Value → Shared → Prop} (I : Inv X pins σ H s) (B : TabB X.base X.mg c P) (hcode : X.env.code = .ref c) (hm : (P, X.env.qual ++ "<lambda>") ∈ T.tl)
    (hu : ∀ p ∈ T.tl, p.1 = P → p.2 = X.env.qual ++ "<lambda>") (hg : P ∉ T.tg) (hT : TOk T H) (hdef : defaultsOf params X.env = ([], [])) (hfree : ∀ y ∈ scope.names, y.2 = .free → ∃ c, X.env.cells.lookup y.1 = some c)
    (h : ∀ (f c' : Addr) (pm ctv : Value) (H1 : Hp) (s' : Shared), Inv X pins σ H1 s' → ExtB P H H1 → TOk T H1 → s'.heap.get? f = some (PySem.W.kla_obj "<lambda>" (X.env.qual ++ "<lambda>") params body scope (cloFrom X.env.cells scope.names []) pm c' ctv) → H1 f = none → f ∉ frs X.stack →
      H1 c' = some (CodeO c' (X.env.qual ++ "<lambda>")) → Q (.ref f) s') : wpAny (model X.prog X.w) X.A (eval (.Lambda params body scope pos) X.env) Q E s := by
  obtain ⟨ps, hP, ht, ha⟩ := hT.l _ hm
  have atP : s.heap.get? P = some { cls := .none, data := .fields ps } := I.hok P _ hP
  have far : ∀ f, s.heap.objs.size ≤ f → f ∉ frs X.stack := fun f hf z => (List.mem_cons.mp (I.stkSub _ z)).elim (fun e => Nat.lt_irrefl _ (Nat.lt_of_lt_of_le (by rw [e]; exact I.lt) hf)) (fun e => I.nofs hf e)
  refine PySem.W.kla_eval hdef ?_
  cases hc : codeAmong pos ps.toList with
  | some cv =>
    obtain ⟨c', rfl, hco⟩ := ha pos cv hc
    refine PySem.W.kla_makeFunctionHit (mg := X.mg) (c := c) (P := P) (ps := ps) (closure_ok hfree) I.ok.glob (I.mod.glob.keeps I.bk) hcode (B.code.keeps I.bk) atP ht hc (B.bm.keeps I.bk) fun ctv h' tk hx hsz => ?_
    have I1 : Inv X pins σ H { s with heap := h'.push (PySem.W.kla_obj "<lambda>" (X.env.qual ++ "<lambda>") params body scope (cloFrom X.env.cells scope.names []) ((X.mg "__name__").getD .none) c' ctv), toks := tk } := I.kept fun b o e => Heap.get?_push_of_some _ (hx b o e)
    exact h _ c' _ ctv H _ I1 (fun b o _ e => e) hT (Heap.get?_push_size _ rfl) (I.hok.fresh hsz) (far _ hsz) hco
  | none =>
    refine PySem.W.kla_makeFunction (mg := X.mg) (c := c) (P := P) (ps := ps) (closure_ok hfree) I.ok.glob (I.mod.glob.keeps I.bk) hcode (B.code.keeps I.bk) atP ht hc B.gP (B.bm.keeps I.bk) fun c' ctv h' tk hx hge hlt hrec htb => ?_
    obtain ⟨c2, oc, vs, t, e2, hoc, hd, hv⟩ := hrec
    cases e2
    have big : s.heap.objs.size ≤ h'.objs.size := Nat.le_trans hge (Nat.le_of_lt hlt)
    have new : H c' = none := I.hok.fresh hge
    have I1 := inv_table (t' := tk) (q := X.env.qual ++ "<lambda>") (more := #[rawInt pos.line, rawInt pos.col, .ref c']) (h' := h'.push (PySem.W.kla_obj "<lambda>" (X.env.qual ++ "<lambda>") params body scope (cloFrom X.env.cells scope.names []) ((X.mg "__name__").getD .none) c' ctv)) I hP (fun b o hb e => Heap.get?_push_of_some _ (hx b o hb e)) (Heap.get?_push_of_some _ htb) hge ⟨oc, vs, t, Heap.get?_push_of_some _ hoc, hd, hv⟩
    have keep : ExtB P H (upd (upd H P (.tbl (ps ++ #[rawInt pos.line, rawInt pos.col, .ref c']))) c' (CodeO c' (X.env.qual ++ "<lambda>"))) := fun b o hb e => by rw [upd_ne (ne_of_none e new), upd_ne hb]; exact e
    have codeK : ∀ {c0 q}, H c0 = some (CodeO c0 q) → c0 ≠ P := fun {c0 q} e z => by rw [z, hP] at e; exact codeO_ne ps (Option.some.inj e).symm
    have el : (ps ++ #[rawInt pos.line, rawInt pos.col, .ref c']).toList = ps.toList ++ [rawInt pos.line, rawInt pos.col, .ref c'] := by simp
    have nP : P ≠ c' := ne_of_none hP new
    refine h h'.objs.size c' _ ctv _ _ I1 keep ⟨fun P' hP' => ?_, fun p hp => ?_⟩ (Heap.get?_push_size _ rfl) ?_ (far _ big) upd_same
    · obtain ⟨ps', h1, h2⟩ := hT.g P' hP'
      exact ⟨ps', keep _ _ (fun z => hg (by rw [← z]; exact hP')) h1, h2⟩
    · by_cases hb : p.1 = P
      · rw [hu p hp hb, hb]
        refine ⟨_, by rw [upd_ne nP, upd_same], by rw [el]; exact TriplesOk_snoc _ _ _ _ ht, fun p' cv hcv => ?_⟩
        rw [el] at hcv
        exact (among_app _ ht hcv).elim (fun z => by obtain ⟨c0, e1, e2⟩ := ha p' cv z; exact ⟨c0, e1, keep _ _ (codeK e2) e2⟩) fun z => ⟨c', z, upd_same⟩
      · obtain ⟨ps', a1, a2, a3⟩ := hT.l p hp
        exact ⟨ps', keep _ _ hb a1, a2, fun p' cv hcv => by obtain ⟨c0, e1, e2⟩ := a3 p' cv hcv; exact ⟨c0, e1, keep _ _ (codeK e2) e2⟩⟩
    · rw [upd_ne (Nat.ne_of_gt hlt), upd_ne (Nat.ne_of_gt (Nat.lt_of_lt_of_le (Heap.lt_size atP) big))]
      exact I.hok.fresh big
def tLamB (T : Tb) (P : Addr) (TT : (XK → Hp → VK → Prop) → Hp → VK → Prop) (t : XK → TE) : TE := fun σ H Q => TOk T H ∧ ∀ H1, ExtB P H H1 → TOk T H1 → TT (fun E H' Q' => t E σ H' Q') H1 Q
theorem pe_lamB {TT : (XK → Hp → VK → Prop) → Hp → VK → Prop} {x a : Str} {g c P cg : Addr} {k : Nat} {stg : Stmt} {fdg : FuncData} {Ng : List Str} {params : Arguments} {body : Expr} {scope : Scope} {t : XK → TE} {p lpos pos : Pos} (hgl : Gl X x) (hmg : X.mg x = some (.ref g)) (F : FunC X.K x stg g cg fdg)
    (hb : L2.Binds X.K fdg [a] []) (Sg : FnScope Ng [a] (defScope stg)) (hNg : Ng[0]? = some a) (hva : Vis (defScope stg) a) (hG : GivesTo X Ng x (defScope stg) g (.ref cg) (defBody stg) a (X.env.qual ++ "<lambda>") TT)
    (B : TabB X.base X.mg c P) (hcode : X.env.code = .ref c) (hmT : (P, X.env.qual ++ "<lambda>") ∈ T.tl) (hu : ∀ p ∈ T.tl, p.1 = P → p.2 = X.env.qual ++ "<lambda>") (hnt : P ∉ T.tg) (hr : Room (k + 2) X.A) (L : LamS X.env.scope scope) (hdef : defaultsOf params X.env = ([], []))
    (hbind : ∀ (q : Str) (cl : List (Str × Addr)) (pm cv ctv : Value), bindArgs (PySem.W.kla_fn "<lambda>" q params body scope cl pm cv ctv) ⟨[], []⟩ = pure [])
    (hbody : ∀ (A : Around) (outer : List Env) (s : Shared) (H : Hp) (E : XK) (f c' : Addr), Room k (A.deeper (lamEnv X scope s.heap.objs.size f c')) → PE (lamCx X A outer s H E scope f c') body (t E))
    (hdb : (x == ("__debug__" : Str)) = false := by decide) (hd : (a == ("__debug__" : Str)) = false := by decide) (hcd : (a == ("__classdict__" : Str)) = false := by decide) : PE X (.Call (.Name x p) [.Lambda params body scope lpos] [] pos) (tLamB T P TT t) := by
  obtain ⟨oc, od, kV, doc, pm, an, ct, osl, rfl, lk, hcg⟩ := F.ex
  refine ⟨fun pins s σ H Q I ⟨hT, h⟩ => wpAny_Call_Name_kw (ld_glob I hgl hmg ?_ hdb)⟩
  refine PySem.W.callWith_K (h₀ := X.base) I.ok.mod.kin F.kp ?_ (by rfl) (by rfl)
  show wpAny _ _ (spliced ((false, eval (.Lambda params body scope lpos) X.env) :: backTo pos (starEach [] X.env))) _ _ s
  refine Calls.spliced_cons (lam_new I B hcode hmT hu hnt hT hdef (L.has I.ok) fun f c' pm' ctv H1 s' I1 eN T1 hf hfn hfr hco => Calls.spliced_nil ⟨I1.kIn, ?_⟩)
  have run : codeAny (model X.prog X.w) X.A (.call (.ref g) ⟨[.ref f], []⟩) (CR C8.CX0 X.stack X.prog X.w H1 s' Q C8.E0) s' := run_ofS (N := Ng) (ps := [a]) (us := [.ref f]) (vs := [.ref f]) lk hcg Sg hr I1.env0 (hb s' [.ref f] I1.kIn rfl) (.cons rfl .nil) rfl fun hr' => by
    obtain ⟨t', ht', hq'⟩ := hG f c' s' H1 Q (fun E H' Q' => t E σ H' Q') (fun W pn xe E p1 p2 tk hW => pe_act (i := 0) I1 L hf hfn hfr (hbind _ _ _ _ _) tk hW hr' (fun A outer s H hr2 => hbody A outer s H E f c' hr2) hNg hva hd hcd) hco (h H1 eN T1)
    exact ⟨t', ht'.nox, hq'⟩
  refine wpAny_call (codeAny_mono run fun r s2 hq => ?_)
  cases r with
  | error e => exact False.elim hq
  | ok fl => cases fl with
    | ret u => exact I1.after hq
    | next => exact False.elim hq
    | brk => exact False.elim hq
    | cont => exact False.elim hq
/-! ### three clauses -/
def toldRet : List (Addr × Str) → Addr → Option Str
  | [], _ => none
  | (a, r) :: l, c => if c = a then some r else toldRet l c
/-- which classes a clause catches -/
def Apart (K : PySem.W.Frag) (cs : List Addr) : Prop := ∀ a ∈ cs, ∀ b ∈ cs, PySem.W.exmOne K (.ref a) (.ref b) = some (decide (a = b))
def TTold3 (hs : List (Addr × Str)) : (XK → Hp → VK → Prop) → Hp → VK → Prop := fun tl H Q => tl (fun cls _ H' => ∃ C r, cls = .ref C ∧ C ∈ hs.map (·.1) ∧ toldRet hs C = some r ∧ Q (.str r) H') H Q
theorem told_gives3 {Ng : List Str} {x a q e1 e2 e3 r1 r2 r3 : Str} {sg : Scope} {g C1 C2 C3 : Addr} {cdg : Value} {j1 j2 j3 : Nat} {p1 p2 p3 p4 p5 p6 p7 p8 p9 p10 p11 p12 p13 p14 p15 p16 : Pos} (ap : Apart X.K [C1, C2, C3])
    (g1 : sg.names.lookup e1 = some .globalImplicit) (m1 : X.mg e1 = some (.ref C1)) (d1 : (e1 == ("__debug__" : Str)) = false) (g2 : sg.names.lookup e2 = some .globalImplicit) (m2 : X.mg e2 = some (.ref C2)) (d2 : (e2 == ("__debug__" : Str)) = false) (g3 : sg.names.lookup e3 = some .globalImplicit) (m3 : X.mg e3 = some (.ref C3)) (d3 : (e3 == ("__debug__" : Str)) = false)
    (h0 : ∀ f : Addr, (L2.start Ng [V.ref f])[0]? = some (some (V.ref f))) :
    GivesTo X Ng x sg g cdg [.Try [.Return (some (.Call (.Name a p1) [] [] p2)) p3] [.ExceptHandler (some (.Name e1 p4)) none [.Return (some (.Constant (.str r1) j1 p5)) p6] p7, .ExceptHandler (some (.Name e2 p8)) none [.Return (some (.Constant (.str r2) j2 p9)) p10] p11, .ExceptHandler (some (.Name e3 p12)) none [.Return (some (.Constant (.str r3) j3 p13)) p14] p15] [] [] p16] a q (TTold3 [(C1, r1), (C2, r2), (C3, r3)]) := by
  intro f c' s H Q tl act hc h
  let Z := (cxOf C8.CX0 X.prog X.w X.K X.mg X.base Ng x sg g cdg X.A X.stack s H C8.E0).nox
  refine ⟨_, pss_one (ps_try_many (X := Z) (Wout := fun _ _ _ _ => False) (l := [(.ref C1, fun _ _ _ => tRet (tC (.str r1))), (.ref C2, fun _ _ _ => tRet (tC (.str r2))), (.ref C3, fun _ _ _ => tRet (tC (.str r3)))])
      (tb := fun W D σ H => ∃ Ech : XK, (∀ cls d σ' H', Ech cls d H' → W cls d σ' H') ∧ σ[0]? = some (some (.ref f)) ∧ H c' = some (CodeO c' q) ∧ tl Ech H D.rt) rfl rfl LamX.takes0 (fun W pn xe tk _ => ?_)
      (.cons ⟨g1, d1, .inl m1⟩ (fun a oe cls d pn _ _ => pss_one (ps_ret pe_str)) (.cons ⟨g2, d2, .inl m2⟩ (fun a oe cls d pn _ _ => pss_one (ps_ret pe_str)) (.cons ⟨g3, d3, .inl m3⟩ (fun a oe cls d pn _ _ => pss_one (ps_ret pe_str)) .nil)))), ?_⟩
  · exact ⟨fun pins s' σ H' D I ⟨Ech, hW, h1, h2, h3⟩ => (pss_one (ps_ret (pos := p3) (act W pn xe Ech p1 p2 tk hW))).run pins s' σ H' D I ⟨h1, h2, h3⟩⟩
  · refine ⟨_, fun cls d σ' H' hx => ?_, h0 f, hc, h⟩
    obtain ⟨C, r, rfl, hC, hr, hQ⟩ := hx
    have A1 := ap C hC C1 (by simp)
    have A2 := ap C hC C2 (by simp)
    have A3 := ap C hC C3 (by simp)
    refine ⟨_, A1, fun e _ _ => ?_, fun e => ⟨_, A2, fun e' _ _ => ?_, fun e' => ⟨_, A3, fun e'' _ _ => ?_, fun e'' => ?_⟩⟩⟩
    · rw [toldRet, if_pos (of_decide_eq_true e)] at hr
      cases hr; exact hQ
    · rw [toldRet, if_neg (of_decide_eq_false e), toldRet, if_pos (of_decide_eq_true e')] at hr
      cases hr; exact hQ
    · rw [toldRet, if_neg (of_decide_eq_false e), toldRet, if_neg (of_decide_eq_false e'), toldRet, if_pos (of_decide_eq_true e'')] at hr
      cases hr; exact hQ
    · rw [toldRet, if_neg (of_decide_eq_false e), toldRet, if_neg (of_decide_eq_false e'), toldRet, if_neg (of_decide_eq_false e'')] at hr
      cases hr
/-! ### the rule -/
def wTold (hs : List (Addr × Str)) (w : PW) : PW := fun ρ Q _ => w ρ Q fun x => ∃ r, x.cls ∈ hs.map (·.1) ∧ toldRet hs x.cls = some r ∧ Q (.str r)
theorem Rep.extB {P : Addr} {K : PySem.W.Frag} {G : Gh} {ρ : En} {H' : Hp} {nm : Str} (r : Rep T K G ρ σ H) (hP : TabS H P nm) (e : ExtB P H H') (t : TOk T H') : Rep T K G ρ σ H' := by
  obtain ⟨ps, h1, _⟩ := hP
  have ne : ∀ {b o}, H b = some o → (∀ ps, o ≠ .tbl ps) → b ≠ P := fun {b o} h hn z => by rw [z, h1] at h; exact hn _ (Option.some.inj h).symm
  exact r.step (ext_hide fun b o _ h hn => e _ _ (ne h hn) h) (fun a ha => by obtain ⟨o, h, hn⟩ := r.dom a ha; rw [h, e _ _ (ne h hn) h]) t
theorem de_told {W : WX} {hs : List (Addr × Str)} {x a : Str} {g c P cg : Addr} {k : Nat} {stg : Stmt} {fdg : FuncData} {Ng : List Str} {params : Arguments} {body : Expr} {scope : Scope} {w : PW} {p lpos pos : Pos} (hgl : Gl X x) (hmg : X.mg x = some (.ref g)) (F : FunC X.K x stg g cg fdg)
    (hb : L2.Binds X.K fdg [a] []) (Sg : FnScope Ng [a] (defScope stg)) (hNg : Ng[0]? = some a) (hva : Vis (defScope stg) a) (hG : GivesTo X Ng x (defScope stg) g (.ref cg) (defBody stg) a (X.env.qual ++ "<lambda>") (TTold3 hs))
    (B : TabB X.base X.mg c P) (hcode : X.env.code = .ref c) (hmT : (P, X.env.qual ++ "<lambda>") ∈ T.tl) (hu : ∀ p ∈ T.tl, p.1 = P → p.2 = X.env.qual ++ "<lambda>") (hnt : P ∉ T.tg) (hr : Room (k + 2) X.A) (L : LamS X.env.scope scope) (hdef : defaultsOf params X.env = ([], []))
    (hbind : ∀ (q : Str) (cl : List (Str × Addr)) (pm cv ctv : Value), bindArgs (PySem.W.kla_fn "<lambda>" q params body scope cl pm cv ctv) ⟨[], []⟩ = pure [])
    (hbody : ∀ (A : Around) (outer : List Env) (s : Shared) (H : Hp) (E : XK) (f c' : Addr), Room k (A.deeper (lamEnv X scope s.heap.objs.size f c')) → DE T (lamCx X A outer s H E scope f c') (fun cls d _ H => E cls d H) body w)
    (hdb : (x == ("__debug__" : Str)) = false := by decide) (hd : (a == ("__debug__" : Str)) = false := by decide) (hcd : (a == ("__classdict__" : Str)) = false := by decide) : DE T X W (.Call (.Name x p) [.Lambda params body scope lpos] [] pos) (wTold hs w) := by
  have mw : Mono w := (hbody X.A X.outer X.s_0 X.H_0 (fun _ _ _ => False) 0 0 ((hr.deeper (k := k + 1) _).mono (Nat.le_succ _))).mono
  exact ⟨pe_mono (pe_lamB (T := T) (t := fun E => lift T X.K (fun cls d _ H => E cls d H) w) hgl hmg F hb Sg hNg hva hG B hcode hmT hu hnt hr L hdef hbind (fun A outer s H E f c' hr => (hbody A outer s H E f c' hr).pe) hdb hd hcd) fun σ H Q q => by
    obtain ⟨G, ρ, r, q⟩ := q
    refine ⟨r.tab, fun H1 e t1 => ?_⟩
    have r1 := r.extB (r.tab.l _ hmT) e t1
    refine ⟨G, ρ, r1, mw _ _ _ _ _ (fun d hd v H' r' a => hd v H' r' a) (fun x hx H' cls dd r' ex => ?_) q⟩
    obtain ⟨rt, h1, h2, h3⟩ := hx
    exact ⟨x.cls, rt, ex.1, h1, h2, h3 _ H' r' (.str _)⟩,
   fun ρ Q Q' E E' hq he q => mw _ _ _ _ _ hq (fun x ⟨r, h1, h2, h3⟩ => ⟨r, h1, h2, hq _ h3⟩) q⟩
end
end PL
set_option Elab.async false
set_option linter.all false
set_option maxRecDepth 100000
set_option maxHeartbeats 2000000
namespace PL
open PySem PySem.Spec PyProof.Rows L2
open LamX (ExtN Tabs TabS)
/-! ### the law: for dice in _law_rounds(script, n): ..; return True -/
def lawEnd (n : Nat) : PEn where
  nx ρ := ρ.length = n
  rt d := d = .bool true
  bk _ := False
  ct ρ := ρ.length = n
  ex _ := False
def uns (n : Nat) : En := List.replicate n .un
def Triples (ds : List PyData) : Prop := ∀ d ∈ ds, ∃ x y z : Int, d = .list [.int x, .int y, .int z]
section
variable {T : Tb} {X : Cx} {W : WX} {pos p p2 pos2 pos' apos : Pos} {e a b tg iter : Expr} {es : List Expr} {body : List Stmt} {K : PySem.W.Frag} {G G2 : Gh} {ρ ρ2 : En} {σ σ2 : L2.St} {H H' : Hp} {D : Ends}
def tDices (T : Tb) (K : PySem.W.Frag) (W : WX) (wi : PW) (i n : Nat) (bw : SW) : TS := fun D σ H => ∃ G ρ, Rep T K G ρ σ H ∧ ρ.length = n ∧ T.dc = [] ∧
  wi ρ (fun d => ∃ ds, d = .list ds ∧ Triples ds ∧ bw ((uns n).set i .dice) (lawEnd n)) (fun _ => False) ∧ (∀ σ' H', D.nx σ' H') ∧ ∀ H', D.rt (.bl true) H'
theorem Rep.forget (r : Rep T K G ρ σ H) {n : Nat} (hn : ρ.length = n) : Rep T K G (uns n) σ H where
  len := by rw [← r.len, hn]; exact List.length_replicate
  slot i s hs := by
    have hi : i < n := by
      have := (List.getElem?_eq_some_iff.mp hs).1
      rwa [uns, List.length_replicate] at this
    rw [uns, List.getElem?_replicate, if_pos hi] at hs
    cases hs
    have hl : i < σ.length := by rw [← r.len, hn]; exact hi
    exact ⟨_, List.getElem?_eq_getElem hl, trivial⟩
  sep i j s t a hij hi hj hs ht e1 e2 := by
    rw [uns, List.getElem?_replicate] at hi
    split at hi
    · cases hi; cases hs
    · cases hi
  tab := r.tab
  ext := r.ext
  dom := r.dom
  fly := r.fly
  dcs := r.dcs
theorem triple_of {v : V} {d : PyData} (h : Da K H v d) (t : ∃ x y z : Int, d = .list [.int x, .int y, .int z]) : ∃ b x y z, v = .ref b ∧ H b = some (.lst [.int x, .int y, .int z]) := by
  obtain ⟨x, y, z, rfl⟩ := t
  cases h with
  | lst h1 h2 =>
    cases h2 with
    | cons a1 h2 => cases h2 with
      | cons a2 h2 => cases h2 with
        | cons a3 h2 =>
          cases h2
          cases a1; cases a2; cases a3
          exact ⟨_, x, y, z, rfl, h1⟩
theorem triples_of : ∀ {vs : List V} {ds : List PyData}, DaAll K H vs ds → Triples ds → ∃ dc : List Addr, vs = dc.map V.ref ∧ ∀ b ∈ dc, ∃ x y z, H b = some (.lst [.int x, .int y, .int z])
  | _, _, .nil, _ => ⟨[], rfl, fun b hb => by cases hb⟩
  | _, _, .cons h r, t => by
    obtain ⟨b, x, y, z, rfl, hb⟩ := triple_of h (t _ List.mem_cons_self)
    obtain ⟨dc, rfl, hd⟩ := triples_of r fun d hd => t d (List.mem_cons_of_mem _ hd)
    exact ⟨b :: dc, rfl, fun c hc => by
      rcases List.mem_cons.mp hc with z' | z'
      · rw [z']; exact ⟨x, y, z, hb⟩
      · exact hd c z'⟩
theorem ps_dices {i n : Nat} {wi : PW} {bw : SW} (hp : PassesOwn (model X.prog X.w) X.A X.env X.xe) (hc : X.calm = true) (hin : i < n) (hi : DE T X W iter wi) (hg : PG X tg (gName i)) (hb : ∀ dc, DSs { T with dc := dc } X W body bw)
    (hs : ∀ x, foldedSetIterable iter X.env x = pure x := by intro _; rfl) : PS X (.For tg iter body [] pos) (tDices T X.K W wi i n bw) :=
  ps_mono (ps_for hp hc (pi_list hi.pe) hg (tb := fun D σ H => ∃ dc, liftS { T with dc := dc } X.K W bw D σ H) ⟨fun pins s σ H Q I ⟨dc, q⟩ => (hb dc).ps.run pins s σ H Q I q⟩ hs) fun D σ H q => by
    obtain ⟨G, ρ, r, hn, hdc, q, qn, qr⟩ := q
    refine ⟨G, ρ, r, hi.mono _ _ _ _ _ (fun d hd v H1 r1 a1 => ?_) (fun _ z => z.elim) q⟩
    obtain ⟨ds, rfl, tr, hw⟩ := hd
    cases a1 with
    | lst h1 h2 =>
      rename_i a vs
      obtain ⟨dc, rfl, hd⟩ := triples_of h2 tr
      obtain ⟨naO, hA⟩ := hide_some h1
      have nad : a ∉ dc := fun z => by
        obtain ⟨x, y, u, e⟩ := hd a z
        rw [h1] at e
        cases dc with
        | nil => cases z
        | cons c t => cases e
      let Hb : Hp := fun b => if b = a then some (.lst (dc.map V.ref)) else none
      have r2 : Rep { T with dc := dc } X.K ⟨Hb, G.O ++ dc, []⟩ (uns n) σ H1 := {
        len := (r1.forget hn).len
        slot := fun i s hs => by
          obtain ⟨v, h3, h4⟩ := (r1.forget hn).slot i s hs
          have hi : i < n := by
            have := (List.getElem?_eq_some_iff.mp hs).1
            rwa [uns, List.length_replicate] at this
          rw [uns, List.getElem?_replicate, if_pos hi] at hs
          cases hs
          exact ⟨v, h3, trivial⟩
        sep := (r1.forget hn).sep
        tab := ⟨r1.tab.g, r1.tab.l⟩
        ext := fun b o hb _ => by
          have hb : Hb b = some o := hb
          show hide (G.O ++ dc) H1 b = some o
          by_cases z : b = a
          · subst z
            rw [show Hb b = some (.lst (dc.map V.ref)) from if_pos rfl] at hb
            cases hb
            rw [hide_out (fun z => (List.mem_append.mp z).elim naO nad)]
            exact hA
          · rw [show Hb b = none from if_neg z] at hb
            cases hb
        dom := fun b hb => by
          rcases List.mem_append.mp hb with z | z
          · exact r1.dom b z
          · obtain ⟨x, y, u, e⟩ := hd b z
            exact ⟨_, (hide_some e).2, fun ps e => by cases e⟩
        fly := fun p hp => by cases hp
        dcs := fun b hb => ⟨List.mem_append_right _ hb, by obtain ⟨x, y, u, e⟩ := hd b hb; exact ⟨x, y, u, (hide_some e).2⟩, fun q hq => by cases hq⟩ }
      refine ⟨a, rfl, ⟨_, SqL.of hA⟩, fun k m σ' H' => m = dc.length - k ∧ ∃ O', Rep { T with dc := dc } X.K ⟨Hb, O', []⟩ (uns n) σ' H', ⟨_, rfl, _, r2⟩, fun k m σ' H' hW => ?_⟩
      obtain ⟨rfl, O', r3⟩ := hW
      have hA' : H' a = some (.lst (dc.map V.ref)) := (hide_some (r3.ext a _ (if_pos rfl) fun ps e => by cases e)).2
      by_cases hk : k < dc.length
      · have hx : (dc.map V.ref)[k]? = some (V.ref dc[k]) := by rw [List.getElem?_map, List.getElem?_eq_getElem hk]; rfl
        refine .inr ⟨⟨_, _, SqL.of hA', hx⟩, fun σ'' H'' => ∃ O'', Rep { T with dc := dc } X.K ⟨Hb, O'', []⟩ (uns n) σ'' H'', fun σ'' H'' h => ⟨dc.length - (k + 1), by omega, rfl, h⟩, fun x H3 hy => ?_⟩
        obtain ⟨rfl, hx2⟩ := hy
        have ex : x = V.ref dc[k] := Option.some.inj ((hx2 _ (SqL.of hA')).symm.trans hx)
        subst ex
        have r4 := r3.setSl (i := i) (v := V.ref dc[k]) (s := .dice) ⟨dc[k], rfl, List.getElem_mem hk⟩ (fun z => by cases z)
        refine ⟨dc, ⟨Hb, O', []⟩, _, r4, (fun q hq => by cases hq), (hb dc).mono _ (lawEnd n) _ ⟨fun ρ3 h3 σ3 H3 O3 r5 _ => ⟨O3, r5.forget h3⟩, fun d hd v ρ3 σ3 H3 O3 r5 a5 => ?_, fun _ z => z.elim, fun ρ3 h3 σ3 H3 O3 r5 _ => ⟨O3, r5.forget h3⟩, fun _ z => z.elim⟩ hw⟩
        have hd : d = .bool true := hd
        subst hd
        cases a5
        exact qr H3
      · refine .inl ⟨⟨_, SqL.of hA', by rw [List.length_map]; omega⟩, qn _ _⟩
    | _ => cases ‹PyData.list ds = _›
theorem law_okD {P : Program} {w : World} {mg : Str → Option Value} {base : Heap} {st : Stmt} {f c : Addr} {fd : FuncData} {N : List Str} {k i j : Nat} {wi : PW} {bw : SW} (F : FunC K "law" st f c fd) (S : FnScope N ["script"] (defScope st)) (hN : 0 < N.length) (hin : i < N.length) (hdc : T.dc = [])
    (htx : defBody st = [.For tg iter body [] pos, .Return (some (.Constant (.bool true) j p)) p2])
    (hi : ∀ (A : Around) (outer : List Env) (s : Shared) (H : Hp) (E : XK), Room k (A.deeper (envOfC "law" (defScope st) s.heap.objs.size f (.ref c))) → DE T (cxOf (L2.CX P w) P w K mg base N "law" (defScope st) f (.ref c) A outer s H E) (fun cls d _ H => E cls d H) iter wi)
    (hg : ∀ (A : Around) (outer : List Env) (s : Shared) (H : Hp) (E : XK), PG (cxOf (L2.CX P w) P w K mg base N "law" (defScope st) f (.ref c) A outer s H E) tg (gName i))
    (hb : ∀ (A : Around) (outer : List Env) (s : Shared) (H : Hp) (E : XK) dc, Room k (A.deeper (envOfC "law" (defScope st) s.heap.objs.size f (.ref c))) → DSs { T with dc := dc } (cxOf (L2.CX P w) P w K mg base N "law" (defScope st) f (.ref c) A outer s H E) (fun cls d _ H => E cls d H) body bw)
    (hs : ∀ (A : Around) (outer : List Env) (s : Shared) (H : Hp) (E : XK) x, foldedSetIterable iter (cxOf (L2.CX P w) P w K mg base N "law" (defScope st) f (.ref c) A outer s H E).env x = pure x := by intros; rfl)
    (hpure : ∀ ns : List Int, ns.length ≤ 63 → wi (.scr ns :: uns (N.length - 1)) (fun d => ∃ ds, d = .list ds ∧ Triples ds ∧ bw ((uns N.length).set i .dice) (lawEnd N.length)) (fun _ => False)) :
    FnOk P w K mg base (L2.CX P w) (k + 1) f fd ["script"] (fun vs H Q _ => ∃ (a : Addr) (ns : List Int), vs = [.ref a] ∧ ns.length ≤ 63 ∧ SqL K H a (ns.map V.int) ∧ TOk T H ∧ ∀ H', Q (.bl true) H') := by
  refine F.okX S (fun vs H Q E h => ?_) (fun A outer s H vs Q E hr h => ?_)
  · obtain ⟨a, ns, rfl, _⟩ := h
    rfl
  · obtain ⟨a, ns, rfl, hl, hS, ht, hQ⟩ := h
    rw [htx]
    refine ⟨_, pss_cons (ps_dices (T := T) (n := N.length) (passes_of rfl) rfl hin (hi A outer s H E hr) (hg A outer s H E) (fun dc => hb A outer s H E dc hr) (hs A outer s H E)) (pss_one (ps_ret pe_bl)), ?_⟩
    refine ⟨⟨fun _ => none, [], []⟩, .scr ns :: uns (N.length - 1), ?_, ?_, hdc, hpure ns hl, fun σ' H' => hQ H', fun H' => hQ H'⟩
    · have e : L2.start N [V.ref a] = ([V.ref a].map some) ++ List.replicate (N.length - 1) none := rfl
      rw [e]
      refine Rep.more (ρ := [.scr ns]) ⟨rfl, fun i s hs => ?_, fun i j s t b hij hi hj hs ht => ?_, ht, (fun b o e _ => by cases e), (fun b hb => by cases hb), (fun p hp => by cases hp), (fun b hb => by rw [hdc] at hb; cases hb)⟩ _
      · cases i with
        | zero =>
          cases hs
          exact ⟨_, rfl, a, rfl, by rw [hide_nil]; exact hS⟩
        | succ i => simp at hs
      · cases i with
        | zero => cases hi; cases hs
        | succ i => simp at hi
    · rw [List.length_cons, uns, List.length_replicate]
      omega
end
end PL
set_option Elab.async false
set_option linter.all false
set_option maxRecDepth 100000
set_option maxHeartbeats 2000000
namespace PL
open PySem PySem.Spec PyProof.Rows L2 LamX
/-- as the end for the law's own table, for every def's -/
theorem walk_all {l : PySem.W.OpenLaw} {n k : Nat} {q : Program} {loose : List Str} {XP : (Str → Option Value) → Heap → Prop} {YP : World → Heap → Prop} {d : DefRec} {K : Params → PySem.W.Frag} {CX : World → CXT} {x : Str}
    (hn : l.most = some n) (hn2 : n ≤ sizeLine) (hdf : d.params.defaults = []) (hr : Room k callerA) (hY : ∀ (w : World) (h : Heap), YP w h → (K w.params).In h)
    (F : ∀ (w : World) (mg : Str → Option Value) (fa : Addr) (h : Heap), YP w h → (K w.params).In h → h.Ns mainGlobals mg → mg d.name = some (.ref fa) →
      (∀ (y : Str) (f : Addr), ((recsOf q).any fun e => e.name == y) = true → mg y = some (.ref f) → OwnTab (K w.params) f h) → LawAtS l w (K w.params) (CX w) k n x mg fa h)
    (hCX : ∀ (w : World) (H : Hp) (s : Shared) (e : Value) (s' : Shared), CX w [] H s (fun _ _ _ => False) e s' → False) : PySem.W.WalkO q loose XP YP l.row.toRowW d [] (fun f vs => PySem.call f vs) := by
  refine Att.attach_callB hn hdf fun w s₀ s₁ mg mb fa o pm cd doc a vs ns G Y ho hd hcd hmg hobj hints hlen hbits hg => ?_
  have KX := hY w _ Y
  obtain ⟨fd, cs, sp, hT, nT, C, hb, hsp, hF⟩ := F w mg fa _ Y KX G.T.g hmg fun y f hy hmy c P o1 fd1 e dd vs1 sl k1 k2 k3 k4 k5 => by
    obtain ⟨dL, hm, he⟩ := List.any_eq_true.mp hy
    obtain ⟨a', o', fd', c', P', h1, h2, h3, h4, h5, ⟨⟨oc, vc, e1, _, e3, e4⟩, hP⟩⟩ := G.T.tab dL hm
    rw [beq_iff_eq.mp he, hmy] at h1; cases h1
    rw [KX _ _ k1] at h2; cases h2
    rw [k2] at h3; cases h3
    rw [k3] at h4; cases h4
    rw [KX _ _ k4] at e1; cases e1
    cases e3
    rw [k5] at e4; cases e4
    exact hP
  exact law_callTs KX G.T.g G.T.b G.T.builtins G.T.nolimit hg hT nT C G.T.bmain hobj hints (Nat.le_trans hlen hn2) hr hF hb (fun H hH hS => hsp H a ns hlen hbits hH hS) fun H e s' => hCX w H s₁ e s'
/-- what the top has written of a def -/
structure DefF (K : PySem.W.Frag) (x : Str) (st : Stmt) (f c : Addr) (fd : FuncData) : Prop where
  ns : PySem.W.nsIn K mainGlobals x = some (some (.ref f))
  F : FunC K x st f c fd
theorem def_mk {K : PySem.W.Frag} {x : Str} {st : Stmt} {f c : Addr} {oc : Value} {od an : Option Addr} {osl : Array (Option Value)} {kV doc pm ct : Value} (a : PySem.W.nsIn K mainGlobals x = some (some (.ref f))) (l : K.lookup f = some ⟨oc, od, .func (PySem.W.fnOf x x (defArgs st) (defBody st) (defScope st) .none kV doc pm an (.ref c) ct), osl⟩)
    (h : PySem.W.codeIn K (.ref c) x = true) (k : PySem.W.keepIn K (.ref f) = true) : DefF K x st f c (PySem.W.fnOf x x (defArgs st) (defBody st) (defScope st) .none kV doc pm an (.ref c) ct) := ⟨a, ⟨⟨oc, od, kV, doc, pm, an, ct, osl, rfl, l, h⟩, k⟩⟩
/-- .. and of its table -/
structure TabF (K : PySem.W.Frag) (c P : Addr) : Prop where
  ex : ∃ (e : Value) (dd : Option Addr) (vs : Array Value) (sl : Array (Option Value)), K.lookup c = some ⟨e, dd, .fields vs, sl⟩ ∧ vs[11]? = some (.ref P)
  hd : PySem.W.codeHdIn K c P = true
  out : K.lookup P = none
theorem TabF.empty {K : PySem.W.Frag} {x : Str} {st : Stmt} {f c P : Addr} {fd : FuncData} {h : Heap} (t : TabF K c P) (F : FunC K x st f c fd) (o : OwnTab K f h) : h.get? P = some { cls := .none, data := .fields #[] } := by
  obtain ⟨e, dd, vs, sl, h1, h2⟩ := t.ex
  obtain ⟨oc, od, kV, doc, pm, an, ct, osl, rfl, lk, hcd⟩ := F.ex
  exact o c P _ _ e dd vs sl lk rfl rfl h1 h2
theorem tab_mk {K : PySem.W.Frag} {c P : Addr} {e : Value} {dd : Option Addr} {vs : Array Value} {sl : Array (Option Value)} (a : K.lookup c = some ⟨e, dd, .fields vs, sl⟩) (b : vs[11]? = some (.ref P)) (h : PySem.W.codeHdIn K c P = true) (o : K.lookup P = none) : TabF K c P := ⟨⟨e, dd, vs, sl, a, b⟩, h, o⟩
/-- what the top has written of an error's class -/
structure ExcF (K : PySem.W.Frag) (x : Str) (C : Addr) : Prop where
  ns : PySem.W.nsIn K mainGlobals x = some (some (.ref C))
  kp : PySem.W.keepIn K (.ref C) = true
  sub : PySem.W.subIn K (.ref C) (.type "BaseException") = some true
  ty : PySem.W.typeIn K (.ref C) = some (.type "type")
end PL
set_option Elab.async false
set_option linter.all false
set_option maxRecDepth 100000
set_option maxHeartbeats 2000000
namespace PL
open PySem PySem.Spec PyProof.Rows L2
/-! what the printed texts use -/
def blkB (N : List Str) (sc scope : Scope) (own : List (Str × Nat)) : Bool :=
  decide (scope.kind = .function) && scope.names.all (fun y => scope.names.lookup y.1 == some y.2) && own.all (fun p => N[p.2]? == some p.1) &&
  scope.names.all (fun y => !(y.2 == .free) || sc.names.lookup y.1 == some .cell || sc.names.lookup y.1 == some .free) && scope.names.all (fun y => !(y.2 == .local || y.2 == .cell) || (own.map (·.1)).contains y.1 || !N.contains y.1)
theorem blk_by {N : List Str} {sc scope : Scope} {own : List (Str × Nat)} (h : blkB N sc scope own = true) : BlkOk N sc scope own := by
  unfold blkB at h
  simp only [Bool.and_eq_true, List.all_eq_true, decide_eq_true_eq, Bool.or_eq_true, Bool.not_eq_true', beq_iff_eq, beq_eq_false_iff_ne, ne_eq] at h
  obtain ⟨⟨⟨⟨h1, h2⟩, h3⟩, h4⟩, h5⟩ := h
  refine ⟨h1, h2, h3, fun y hy e => ?_, fun y hy e => ?_⟩
  · rcases h4 y hy with (z | z) | z
    · exact absurd e z
    · exact .inl z
    · exact .inr z
  · rcases h5 y hy with (z | z) | z
    · rcases e with e | e <;> rw [e] at z <;> cases z
    · exact .inl (by simpa using z)
    · exact .inr (by simpa using z)
theorem nocell_by {scope : Scope} (h : scope.names.all (fun y => !(y.2 == .cell)) = true) : ∀ y ∈ scope.names, y.2 ≠ .cell := by
  simp only [List.all_eq_true, Bool.not_eq_true', beq_eq_false_iff_ne, ne_eq] at h
  exact h
def fAddS : PyData → PyData → (PyData → Prop) → Prop := fun x y Q => match x, y with | .int i, .int j => Q (.int (i + j)) | .str x, .str y => x.length + y.length ≤ sizeLine ∧ Q (.str (x ++ y)) | _, _ => False
theorem mono_addS : MonoF fAddS := fun x y Q Q' hq h => by
  unfold fAddS at h ⊢
  split at h
  · exact hq _ h
  · exact ⟨h.1, hq _ h.2⟩
  · exact h
def fIsN : PyData → PyData → (PyData → Prop) → Prop := fun x y Q => y = .none ∧ Q (.bool (isN x))
def fNotN : PyData → PyData → (PyData → Prop) → Prop := fun x y Q => y = .none ∧ Q (.bool (!isN x))
theorem mono_isN : MonoF fIsN := fun x y Q Q' hq h => ⟨h.1, hq _ h.2⟩
theorem mono_notN : MonoF fNotN := fun x y Q Q' hq h => ⟨h.1, hq _ h.2⟩
theorem hTB (K : PySem.W.Frag) (H : Hp) (v : V) (y : Bool) (h : Da K H v (.bool y)) : v = .bl y := h.bl_
theorem hTI (K : PySem.W.Frag) (H : Hp) (v : V) (y : Int) (h : Da K H v (.int y)) : v = .int y := h.int_
def lawIter : Stmt → Expr := fun st => match defBody st with
  | .For _ it _ _ _ :: _ => it
  | _ => .Constant .none 0 ⟨0, 0, 0, 0⟩
def lawBody : Stmt → List Stmt := fun st => match defBody st with
  | .For _ _ b _ _ :: _ => b
  | _ => []
section
variable {T : Tb} {X : Cx} {W : WX} {pos : Pos} {a : Expr}
def wNeg (w : PW) : PW := fun ρ Q E => w ρ (fun d => match d with | .int i => Q (.int (-i)) | _ => False) E
theorem de_neg {w : PW} (h : DE T X W a w) : DE T X W (.UnaryOp .USub a pos) (wNeg w) := ⟨pe_mono (pe_un un_neg h.pe) fun σ H Q q => by
  obtain ⟨G, ρ, r, q⟩ := q
  refine ⟨G, ρ, r, h.mono _ _ _ _ _ (fun d hd v H' r' a => ?_) (fun _ z => z) q⟩
  cases a with
  | int i => exact ⟨i, rfl, hd _ H' r' (.int _)⟩
  | _ => exact hd.elim, fun ρ Q Q' E E' hq he q => h.mono _ _ _ _ _ (fun d hd => by cases d <;> first | exact hq _ hd | exact hd) he q⟩
end
end PL
namespace PL
open PySem in
theorem gxTab {base : Heap} {mg : Str → Option Value} {c P : Addr} (b : LamX.TabB base mg c P) : GxR.TabB base mg c P := ⟨b.code, b.bm, b.gP⟩
end PL

namespace PL
open PySem in
theorem apart3 {K : PySem.W.Frag} {c1 c2 c3 : Addr} (n12 : c1 ≠ c2) (n13 : c1 ≠ c3) (n23 : c2 ≠ c3) (e11 : PySem.W.exmOne K (.ref c1) (.ref c1) = some true) (e12 : PySem.W.exmOne K (.ref c1) (.ref c2) = some false) (e13 : PySem.W.exmOne K (.ref c1) (.ref c3) = some false)
    (e21 : PySem.W.exmOne K (.ref c2) (.ref c1) = some false) (e22 : PySem.W.exmOne K (.ref c2) (.ref c2) = some true) (e23 : PySem.W.exmOne K (.ref c2) (.ref c3) = some false) (e31 : PySem.W.exmOne K (.ref c3) (.ref c1) = some false) (e32 : PySem.W.exmOne K (.ref c3) (.ref c2) = some false) (e33 : PySem.W.exmOne K (.ref c3) (.ref c3) = some true) : Apart K [c1, c2, c3] := by
  intro a ha b hb
  simp only [List.mem_cons, List.not_mem_nil, or_false] at ha hb
  rcases ha with rfl | rfl | rfl <;> rcases hb with rfl | rfl | rfl <;> first | (rw [decide_eq_true rfl]; assumption) | (rw [decide_eq_false (by first | assumption | exact Ne.symm ‹_›)]; assumption)
end PL
set_option Elab.async false
set_option linter.all false
set_option maxRecDepth 100000
set_option maxHeartbeats 1000000
/-! readings walked: what every law's plain part uses -/
namespace U
open PySem PySem.Spec PyProof.Rows L2 PL
open PySem.W (Datum DatumOrd Tup)
theorem le_size {n : Nat} (h : n ≤ 100000) : n ≤ sizeLine := by rw [sizeLine_eq]; omega
theorem lt_size {n : Nat} (h : n ≤ 100000) : n < sizeLine := by rw [sizeLine_eq]; omega
theorem pl_int (i : Int) : Pl (.int i) := ⟨rfl, Nat.zero_le _⟩
theorem pl_str (x : Str) : Pl (.str x) := ⟨rfl, Nat.zero_le _⟩
theorem pl_bool (x : Bool) : Pl (.bool x) := ⟨rfl, Nat.zero_le _⟩
theorem pl_none : Pl .none := ⟨rfl, Nat.zero_le _⟩
theorem PlD {α : Type} [DecidableEq α] [Datum α] (x : α) (h : Datum.depth α ≤ 30 := by decide) : Pl (Datum.toD x) := ⟨Datum.plain x, Nat.le_trans (Datum.depth_le x) h⟩
theorem eqv_int (i j : Int) : PyData.eqv (.int i) (.int j) = decide (i = j) := Datum.eqv i j
theorem eqv_str (i j : Str) : PyData.eqv (.str i) (.str j) = decide (i = j) := Datum.eqv i j
theorem eqv_bool (i j : Bool) : PyData.eqv (.bool i) (.bool j) = decide (i = j) := Datum.eqv i j
/-! ways -/
theorem br {b : Bool} {A B : Prop} (h1 : b = true → A) (h2 : b = false → B) : if b = true then A else B := by
  cases b
  · rw [if_neg (by decide)]; exact h2 rfl
  · rw [if_pos rfl]; exact h1 rfl
theorem brD {p : Prop} [Decidable p] {A B : Prop} (h1 : p → A) (h2 : ¬ p → B) : if decide p = true then A else B := br (fun e => h1 (of_decide_eq_true e)) (fun e => h2 (of_decide_eq_false e))
theorem yes {b : Bool} {A B : Prop} (e : b = true) (h : A) : if b = true then A else B := by rw [if_pos e]; exact h
theorem no {b : Bool} {A B : Prop} (e : b = false) (h : B) : if b = true then A else B := by rw [e, if_neg (by decide)]; exact h
theorem yesD {p : Prop} [Decidable p] {A B : Prop} (e : p) (h : A) : if decide p = true then A else B := yes (decide_eq_true e) h
theorem noD {p : Prop} [Decidable p] {A B : Prop} (e : ¬ p) (h : B) : if decide p = true then A else B := no (decide_eq_false e) h
theorem brEq {α : Type} [DecidableEq α] [Datum α] (x y : α) {A B : Prop} (h1 : x = y → A) (h2 : x ≠ y → B) : if (if false = true then !PyData.eqv (Datum.toD x) (Datum.toD y) else PyData.eqv (Datum.toD x) (Datum.toD y)) = true then A else B :=
  br (fun e => h1 (of_decide_eq_true ((Datum.eqv x y).symm.trans e))) (fun e => h2 (of_decide_eq_false ((Datum.eqv x y).symm.trans e)))
theorem brNe {α : Type} [DecidableEq α] [Datum α] (x y : α) {A B : Prop} (h1 : x ≠ y → A) (h2 : x = y → B) : if (if true = true then !PyData.eqv (Datum.toD x) (Datum.toD y) else PyData.eqv (Datum.toD x) (Datum.toD y)) = true then A else B := by
  refine br (fun e => h1 fun h => ?_) (fun e => h2 ?_)
  · rw [if_pos rfl, Datum.eqv, decide_eq_true h] at e; cases e
  · rw [if_pos rfl, Datum.eqv, Bool.not_eq_false', decide_eq_true_eq] at e; exact e
/-! loops -/
theorem goFor_by {g : GD} {b : SW} {D : PEn} {ds : List PyData} (Inv : Nat → En → Prop)
    (hs : ∀ i d ρ (N : En → Prop), (∀ ρ', Inv (i + 1) ρ' → N ρ') → ds[i]? = some d → Inv i ρ → g d ρ fun ρ2 => b ρ2 { D with nx := N, ct := N, bk := D.nx }) (hd : ∀ ρ, Inv ds.length ρ → D.nx ρ) : ∀ ρ, Inv 0 ρ → goFor g b D ds ρ := by
  have key : ∀ (k i : Nat) (ρ : En), i + k = ds.length → Inv i ρ → goFor g b D (ds.drop i) ρ := by
    intro k
    induction k with
    | zero =>
      intro i ρ e h
      rw [List.drop_eq_nil_of_le (by omega)]
      have : i = ds.length := by omega
      subst this
      exact hd ρ h
    | succ k ih =>
      intro i ρ e h
      rw [List.drop_eq_getElem_cons (by omega : i < ds.length)]
      exact hs i _ ρ _ (fun ρ' h' => ih (i + 1) ρ' (by omega) h') (List.getElem?_eq_getElem (by omega)) h
  intro ρ h
  have := key ds.length 0 ρ (by omega) h
  rwa [List.drop_zero] at this
/-- over items that are known -/
theorem for_list {α : Type} {enc : α → PyData} {g : GD} {b : SW} {D : PEn} (xs : List α) (Inv : Nat → En → Prop)
    (hs : ∀ i x ρ (N : En → Prop), (∀ ρ', Inv (i + 1) ρ' → N ρ') → xs[i]? = some x → i < xs.length → Inv i ρ → g (enc x) ρ fun ρ2 => b ρ2 { D with nx := N, ct := N, bk := D.nx }) (hd : ∀ ρ, Inv xs.length ρ → D.nx ρ) (ρ : En) (h : Inv 0 ρ) : goFor g b D (xs.map enc) ρ := by
  refine goFor_by Inv (fun i d ρ N hN hd hI => ?_) (fun ρ hI => hd ρ (by rwa [List.length_map] at hI)) ρ h
  rw [List.getElem?_map] at hd
  cases e : xs[i]? with
  | none => rw [e] at hd; cases hd
  | some x =>
    rw [e] at hd
    cases hd
    exact hs i x ρ N hN e (List.getElem?_eq_some_iff.mp e).1 hI
theorem for_range {g : GD} {b : SW} {D : PEn} (lo : Int) (n : Nat) (Inv : Nat → En → Prop)
    (hs : ∀ i ρ (N : En → Prop), (∀ ρ', Inv (i + 1) ρ' → N ρ') → i < n → Inv i ρ → g (.int (lo + (i : Nat))) ρ fun ρ2 => b ρ2 { D with nx := N, ct := N, bk := D.nx }) (hd : ∀ ρ, Inv n ρ → D.nx ρ) (ρ : En) (h : Inv 0 ρ) : goFor g b D (rangeD lo n) ρ := by
  unfold rangeD
  refine for_list (List.range n) Inv (fun i x ρ N hN hx hi hI => ?_) (fun ρ hI => hd ρ (by rwa [List.length_range] at hI)) ρ h
  rw [List.length_range] at hi
  rw [List.getElem?_range hi] at hx
  cases hx
  exact hs i ρ N hN hi hI
theorem enumD_map {α : Type} (enc : α → PyData) (xs : List α) : enumD (xs.map enc) = xs.zipIdx.map fun p => .tuple [.int (p.2 : Nat), enc p.1] := by
  unfold enumD
  rw [List.zipIdx_map, List.map_map]
  rfl
theorem for_enum {α : Type} {enc : α → PyData} {g : GD} {b : SW} {D : PEn} (xs : List α) (Inv : Nat → En → Prop)
    (hs : ∀ i x ρ (N : En → Prop), (∀ ρ', Inv (i + 1) ρ' → N ρ') → xs[i]? = some x → i < xs.length → Inv i ρ → g (.tuple [.int (i : Nat), enc x]) ρ fun ρ2 => b ρ2 { D with nx := N, ct := N, bk := D.nx }) (hd : ∀ ρ, Inv xs.length ρ → D.nx ρ) (ρ : En) (h : Inv 0 ρ) : goFor g b D (enumD (xs.map enc)) ρ := by
  rw [enumD_map]
  refine for_list xs.zipIdx Inv (fun i p ρ N hN hx hi hI => ?_) (fun ρ hI => hd ρ (by rwa [List.length_zipIdx] at hI)) ρ h
  rw [List.getElem?_zipIdx] at hx
  cases e : xs[i]? with
  | none => rw [e] at hx; cases hx
  | some x =>
    rw [e] at hx
    simp only [Option.map_some, Option.some.injEq, Nat.zero_add] at hx
    subst hx
    exact hs i x ρ N hN e (List.getElem?_eq_some_iff.mp e).1 hI
/-! comprehensions -/
theorem lc_go {α β : Type} {enc : β → PyData} {enco : α → PyData} {g : GD} {wt : PWB} {we : PW} {ρ : En} {Q : List PyData → Prop} (f : β → Option α) : ∀ (xs : List β) (acc : List α),
    (∀ x ∈ xs, ∀ (Y : PyData → Prop) (N : Prop), (∀ y, f x = some y → Y (enco y)) → (f x = none → N) → g (enc x) ρ fun ρ2 => wt ρ2 (fun k => if k = true then we ρ2 Y (fun _ => False) else N) (fun _ => False)) →
    acc.length + xs.length ≤ 100000 → Q ((acc ++ xs.filterMap f).map enco) → goLc g wt we ρ (xs.map enc) (acc.map enco) Q
  | [], acc, h, hl, hQ => by
    rw [List.filterMap_nil, List.append_nil] at hQ
    exact hQ
  | x :: xs, acc, h, hl, hQ => by
    rw [List.length_cons] at hl
    refine h x List.mem_cons_self (fun y => _ ∧ _) _ (fun y hy => ?_) (fun hn => ?_)
    · refine ⟨lt_size (by rw [List.length_map]; omega), ?_⟩
      have := lc_go (enc := enc) (enco := enco) (g := g) (wt := wt) (we := we) (ρ := ρ) (Q := Q) f xs (acc ++ [y]) (fun z hz => h z (List.mem_cons_of_mem _ hz)) (by rw [List.length_append, List.length_singleton]; omega) (by
        rw [List.filterMap_cons_some hy] at hQ
        rwa [List.append_assoc])
      rwa [List.map_append] at this
    · exact lc_go f xs acc (fun z hz => h z (List.mem_cons_of_mem _ hz)) (by omega) (by rwa [List.filterMap_cons_none hn] at hQ)
/-- [e for x in xs if t] -/
theorem lc_all {α β : Type} {enc : β → PyData} {enco : α → PyData} {g : GD} {wt : PWB} {we : PW} {ρ : En} {Q : List PyData → Prop} (xs : List β) (f : β → Option α)
    (h : ∀ x ∈ xs, ∀ (Y : PyData → Prop) (N : Prop), (∀ y, f x = some y → Y (enco y)) → (f x = none → N) → g (enc x) ρ fun ρ2 => wt ρ2 (fun k => if k = true then we ρ2 Y (fun _ => False) else N) (fun _ => False))
    (hl : xs.length ≤ 100000) (hQ : Q ((xs.filterMap f).map enco)) : goLc g wt we ρ (xs.map enc) [] Q :=
  lc_go f xs [] h (by simpa using hl) hQ
/-- [e for x in xs] -/
theorem lc_map {α β : Type} {enc : β → PyData} {enco : α → PyData} {g : GD} {we : PW} {ρ : En} {Q : List PyData → Prop} (xs : List β) (f : β → α)
    (h : ∀ x ∈ xs, ∀ (Y : PyData → Prop), Y (enco (f x)) → g (enc x) ρ fun ρ2 => we ρ2 Y (fun _ => False))
    (hl : xs.length ≤ 100000) (hQ : Q ((xs.map f).map enco)) : goLc g wYes we ρ (xs.map enc) [] Q :=
  lc_all xs (fun x => some (f x)) (fun x hx Y N hY hN => by
    have := h x hx Y (hY _ rfl)
    exact this) hl (by rwa [show xs.filterMap (fun x => some (f x)) = xs.map f from List.filterMap_eq_map ▸ rfl])
/-- [x for x in xs if t] -/
theorem lc_filter {β : Type} {enc : β → PyData} {g : GD} {wt : PWB} {we : PW} {ρ : En} {Q : List PyData → Prop} (xs : List β) (p : β → Bool)
    (h : ∀ x ∈ xs, ∀ (Y : PyData → Prop) (N : Prop), (p x = true → Y (enc x)) → (p x = false → N) → g (enc x) ρ fun ρ2 => wt ρ2 (fun k => if k = true then we ρ2 Y (fun _ => False) else N) (fun _ => False))
    (hl : xs.length ≤ 100000) (hQ : Q ((xs.filter p).map enc)) : goLc g wt we ρ (xs.map enc) [] Q := by
  refine lc_all xs (fun x => if p x then some x else none) (fun x hx Y N hY hN => h x hx Y N (fun e => hY x (by rw [if_pos e])) (fun e => hN (by rw [if_neg (by rw [e]; decide)]))) hl ?_
  have : xs.filterMap (fun x => if p x then some x else none) = xs.filter p := by
    clear h hl hQ
    induction xs with
    | nil => rfl
    | cons x r ih =>
      cases e : p x with
      | true => rw [List.filterMap_cons_some (by rw [if_pos e]), List.filter_cons_of_pos e, ih]
      | false => rw [List.filterMap_cons_none (by rw [if_neg (by rw [e]; decide)]), List.filter_cons_of_neg (by rw [e]; decide), ih]
  rwa [this]
/-- any, all, sum of e for x in xs if t -/
theorem gen_all {α β : Type} {toD : α → PyData} {enc : β → PyData} {g : GD} {wt : PWB} {we : PW} {ρ : En} {P : List (Option α) → Prop} (xs : List β) (f : β → Option α)
    (h : ∀ x ∈ xs, g (enc x) ρ fun ρ2 => wt ρ2 (fun k => match f x with | some y => k = true ∧ we ρ2 (fun z => z = toD y) (fun _ => False) | none => k = false) (fun _ => False)) (hQ : ∀ bs, bs.filterMap id = xs.filterMap f → P bs) :
    ∃ bs : List (Option α), All2 (fun d ob => g d ρ fun ρ2 => wt ρ2 (fun k => match ob with | some y => k = true ∧ we ρ2 (fun z => z = toD y) (fun _ => False) | none => k = false) (fun _ => False)) (xs.map enc) bs ∧ P bs :=
  ⟨xs.map f, All2.map h, hQ _ (by rw [List.filterMap_map]; rfl)⟩
theorem gen_map {α β : Type} {toD : α → PyData} {enc : β → PyData} {g : GD} {we : PW} {ρ : En} {P : List (Option α) → Prop} (xs : List β) (f : β → α)
    (h : ∀ x ∈ xs, g (enc x) ρ fun ρ2 => true = true ∧ we ρ2 (fun z => z = toD (f x)) (fun _ => False)) (hQ : ∀ bs, bs.filterMap id = xs.map f → P bs) :
    ∃ bs : List (Option α), All2 (fun d ob => g d ρ fun ρ2 => wYes ρ2 (fun k => match ob with | some y => k = true ∧ we ρ2 (fun z => z = toD y) (fun _ => False) | none => k = false) (fun _ => False)) (xs.map enc) bs ∧ P bs :=
  gen_all (wt := wYes) xs (fun x => some (f x)) (fun x hx => h x hx) (fun bs e => hQ bs (e.trans (List.filterMap_eq_map ▸ rfl)))
/-! slices -/
theorem cut_hi {α : Type} (f : α → PyData) (ws : List α) {k : Nat} (h : k ≤ ws.length) : PL.cutD (ws.map f) none (some (k : Int)) = (ws.take k).map f := by
  unfold PL.cutD
  rw [HT.sIx_none, HT.sIx_nat, List.length_map, Nat.min_eq_left h, List.drop_zero, Nat.sub_zero, List.map_take]
theorem cut_lo {α : Type} (f : α → PyData) (ws : List α) {k : Nat} (h : k ≤ ws.length) : PL.cutD (ws.map f) (some (k : Int)) none = (ws.drop k).map f := by
  unfold PL.cutD
  rw [HT.sIx_none, HT.sIx_nat, List.length_map, Nat.min_eq_left h, ← List.map_drop, List.take_of_length_le (by rw [List.length_map, List.length_drop]; omega)]
theorem cut_seg {α : Type} (f : α → PyData) (ws : List α) {i j : Nat} (hi : i ≤ j) (h : j ≤ ws.length) : PL.cutD (ws.map f) (some (i : Int)) (some (j : Int)) = ((ws.drop i).take (j - i)).map f := by
  unfold PL.cutD
  rw [HT.sIx_nat, HT.sIx_nat, List.length_map, Nat.min_eq_left h, Nat.min_eq_left (Nat.le_trans hi h), ← List.map_drop, ← List.map_take]
/-! at a place -/
theorem at_nat {α : Type} (xs : List α) {i : Nat} : atI xs (i : Int) = xs[i]? := by
  unfold atI ixN
  by_cases h : i < xs.length
  · rw [if_pos (by omega), if_pos (by omega)]
    simp
  · rw [if_pos (by omega), if_neg (by omega), List.getElem?_eq_none (by omega)]
    rfl
theorem at_last {α : Type} (xs : List α) (x : α) : atI (xs ++ [x]) (-1) = some x := by
  unfold atI ixN
  rw [List.length_append, List.length_singleton, if_neg (by omega), if_pos (by omega)]
  show (xs ++ [x])[(-1 + ((xs.length + 1 : Nat) : Int)).toNat]? = _
  rw [show (-1 + ((xs.length + 1 : Nat) : Int)).toNat = xs.length by omega]
  simp
/-! least and greatest -/
section
variable {α : Type} [DecidableEq α] [DatumOrd α]
theorem p_min (x : α) (xs : List α) {Q : PyData → Prop} (h : Q (Datum.toD (PySem.W.minOf x xs))) (hd : Datum.depth α ≤ 30 := by decide) : fMin (.list ((x :: xs).map Datum.toD)) Q :=
  ⟨⟨PySem.W.plainAll_map (x :: xs), Nat.le_trans (PySem.W.depthAll_map (x :: xs)) hd, PySem.W.alikeAll_datum (x :: xs)⟩, by
    show Q (PySem.W.minD (Datum.toD x) (xs.map Datum.toD))
    rw [PySem.W.minD_map x xs]
    exact h⟩
theorem p_max (x : α) (xs : List α) {Q : PyData → Prop} (h : Q (Datum.toD (PySem.W.maxOf x xs))) (hd : Datum.depth α ≤ 30 := by decide) : fMax (.list ((x :: xs).map Datum.toD)) Q :=
  ⟨⟨PySem.W.plainAll_map (x :: xs), Nat.le_trans (PySem.W.depthAll_map (x :: xs)) hd, PySem.W.alikeAll_datum (x :: xs)⟩, by
    show Q (PySem.W.maxD (Datum.toD x) (xs.map Datum.toD))
    rw [PySem.W.maxD_map x xs]
    exact h⟩
theorem p_maxL {l : List α} {x : α} {xs : List α} (e : l = x :: xs) {Q : PyData → Prop} (h : Q (Datum.toD (PySem.W.maxOf x xs))) (hd : Datum.depth α ≤ 30 := by decide) : fMax (.list (l.map Datum.toD)) Q := by subst e; exact p_max x xs h hd
theorem p_minL {l : List α} {x : α} {xs : List α} (e : l = x :: xs) {Q : PyData → Prop} (h : Q (Datum.toD (PySem.W.minOf x xs))) (hd : Datum.depth α ≤ 30 := by decide) : fMin (.list (l.map Datum.toD)) Q := by subst e; exact p_min x xs h hd
theorem maxOf_mem (x : α) (xs : List α) : PySem.W.maxOf x xs ∈ x :: xs := by
  unfold PySem.W.maxOf
  induction xs generalizing x with
  | nil => exact List.mem_cons_self
  | cons y r ih =>
    rw [List.foldl_cons]
    split
    · exact List.mem_cons_of_mem _ (ih y)
    · rcases List.mem_cons.mp (ih x) with h | h
      · rw [h]; exact List.mem_cons_self
      · exact List.mem_cons_of_mem _ (List.mem_cons_of_mem _ h)
theorem minOf_mem (x : α) (xs : List α) : PySem.W.minOf x xs ∈ x :: xs := by
  unfold PySem.W.minOf
  induction xs generalizing x with
  | nil => exact List.mem_cons_self
  | cons y r ih =>
    rw [List.foldl_cons]
    split
    · exact List.mem_cons_of_mem _ (ih y)
    · rcases List.mem_cons.mp (ih x) with h | h
      · rw [h]; exact List.mem_cons_self
      · exact List.mem_cons_of_mem _ (List.mem_cons_of_mem _ h)
end
theorem minOf_int (x : Int) (xs : List Int) : ∀ y ∈ x :: xs, PySem.W.minOf x xs ≤ y := by
  unfold PySem.W.minOf
  induction xs generalizing x with
  | nil => intro y hy; rw [List.mem_singleton.mp hy]; exact Int.le_refl _
  | cons z r ih =>
    intro y hy
    rw [List.foldl_cons]
    have hz : (DatumOrd.lt z x = true) ↔ z < x := decide_eq_true_iff
    split
    · rename_i c
      rcases List.mem_cons.mp hy with rfl | hy
      · exact Int.le_trans (ih z z List.mem_cons_self) (Int.le_of_lt (hz.mp c))
      · exact ih z y hy
    · rename_i c
      rcases List.mem_cons.mp hy with rfl | hy
      · exact ih _ _ List.mem_cons_self
      · rcases List.mem_cons.mp hy with rfl | hy
        · exact Int.le_trans (ih x x List.mem_cons_self) (Int.not_lt.mp fun q => c (hz.mpr q))
        · exact ih x y (List.mem_cons_of_mem _ hy)
theorem maxOf_int (x : Int) (xs : List Int) : ∀ y ∈ x :: xs, y ≤ PySem.W.maxOf x xs := by
  unfold PySem.W.maxOf
  induction xs generalizing x with
  | nil => intro y hy; rw [List.mem_singleton.mp hy]; exact Int.le_refl _
  | cons z r ih =>
    intro y hy
    rw [List.foldl_cons]
    have hz : (DatumOrd.lt x z = true) ↔ x < z := decide_eq_true_iff
    split
    · rename_i c
      rcases List.mem_cons.mp hy with rfl | hy
      · exact Int.le_trans (Int.le_of_lt (hz.mp c)) (ih z z List.mem_cons_self)
      · exact ih z y hy
    · rename_i c
      rcases List.mem_cons.mp hy with rfl | hy
      · exact ih _ _ List.mem_cons_self
      · rcases List.mem_cons.mp hy with rfl | hy
        · exact Int.le_trans (Int.not_lt.mp fun q => c (hz.mpr q)) (ih x x List.mem_cons_self)
        · exact ih x y (List.mem_cons_of_mem _ hy)
/-! in order -/
theorem plainAll_ints : ∀ ns : List Int, PyData.plainAll (ns.map .int) = true
  | [] => rfl
  | n :: r => by
    show (PyData.plain (.int n) && PyData.plainAll (r.map .int)) = true
    rw [plainAll_ints r]
    rfl
theorem sort_ints (ns : List Int) : (ns.map PyData.int).mergeSort (PySem.W.dataLe false id) = (ns.mergeSort fun a b => decide (a ≤ b)).map .int := by
  refine (List.map_mergeSort fun a _ b _ => ?_).symm
  exact (congrFun (congrFun (PySem.W.dataLe_int id) a) b).symm
theorem sort_rev {ns : List Int} (h : ns.Pairwise (fun x y => y ≤ x)) : ns.mergeSort (fun a b => decide (a ≤ b)) = ns.reverse := by
  have h1 := List.pairwise_mergeSort (le := fun (a b : Int) => decide (a ≤ b)) (fun a b c x y => by simp only [decide_eq_true_eq] at *; omega) (fun a b => by simp only [Bool.or_eq_true, decide_eq_true_eq]; omega) ns
  have h2 : ns.reverse.Pairwise (fun a b => decide (a ≤ b) = true) := by
    rw [List.pairwise_reverse]
    exact h.imp fun h => decide_eq_true h
  exact List.Perm.eq_of_pairwise (fun a b _ _ x y => by simp only [decide_eq_true_eq] at *; omega) h1 h2 ((List.mergeSort_perm _ _).trans (List.reverse_perm _).symm)
theorem sort_side_ints (ns : List Int) : PyData.plainAll (ns.map .int) = true ∧ (∀ d ∈ ns.map PyData.int, d.depth ≤ 30) ∧ PySem.W.AllAlike (ns.map .int) ∧ PySem.W.Sortable (ns.map .int) := by
  refine ⟨plainAll_ints ns, fun d hd => ?_, PySem.W.AllAlike.of (enc := PyData.int) fun _ _ => rfl, PySem.W.Sortable.others (enc := PyData.int) fun b => ⟨fun e => (by cases e), fun _ e => (by cases e)⟩⟩
  obtain ⟨n, _, rfl⟩ := List.mem_map.mp hd
  exact Nat.zero_le _
end U
set_option Elab.async false
set_option linter.all false
set_option maxRecDepth 100000
set_option maxHeartbeats 4000000
namespace M8
open PySem PySem.Spec PyProof.Rows L2 PL
open LamX (lamS_by)
def top (i : Nat) : Stmt := PySem.Challenge.pw_museum_k08_labels_in_lines.main.body.getD i (.Pass ⟨0, 0, 0, 0⟩)
abbrev s_broken : Stmt := top 6
abbrev s_filled : Stmt := top 7
abbrev s_spread : Stmt := top 8
abbrev s__law_dice : Stmt := top 10
abbrev s__law_roll : Stmt := top 11
abbrev s__law_rounds : Stmt := top 12
abbrev s__law_told : Stmt := top 13
abbrev s__law_ways : Stmt := top 14
abbrev s_law : Stmt := top 15
theorem bt_abs : bootBuiltins "abs" = some (.builtin "abs") := by decide +kernel
theorem bt_int : bootBuiltins "int" = some (.type "int") := by decide +kernel
theorem bt_len : bootBuiltins "len" = some (.builtin "len") := by decide +kernel
theorem bt_list : bootBuiltins "list" = some (.type "list") := by decide +kernel
theorem bt_max : bootBuiltins "max" = some (.builtin "max") := by decide +kernel
theorem bt_min : bootBuiltins "min" = some (.builtin "min") := by decide +kernel
theorem bt_sorted : bootBuiltins "sorted" = some (.builtin "sorted") := by decide +kernel
theorem bt_sum : bootBuiltins "sum" = some (.builtin "sum") := by decide +kernel
theorem bt_tuple : bootBuiltins "tuple" = some (.type "tuple") := by decide +kernel
structure Ad where
  f_broken : Addr
  c_broken : Addr
  d_broken : FuncData
  p_broken : Addr
  f_filled : Addr
  c_filled : Addr
  d_filled : FuncData
  p_filled : Addr
  f_spread : Addr
  c_spread : Addr
  d_spread : FuncData
  p_spread : Addr
  f__law_dice : Addr
  c__law_dice : Addr
  d__law_dice : FuncData
  f__law_roll : Addr
  c__law_roll : Addr
  d__law_roll : FuncData
  f__law_rounds : Addr
  c__law_rounds : Addr
  d__law_rounds : FuncData
  f__law_told : Addr
  c__law_told : Addr
  d__law_told : FuncData
  f__law_ways : Addr
  c__law_ways : Addr
  d__law_ways : FuncData
  f_law : Addr
  c_law : Addr
  d_law : FuncData
  p_law : Addr
  x_NoWay : Addr
  x_BadPlan : Addr
  x_BadPaper : Addr
structure ExM (K : PySem.W.Frag) (mg : Str → Option Value) (x : Str) (C : Addr) : Prop where
  g : mg x = some (.ref C)
  kp : PySem.W.keepIn K (.ref C) = true
  sub : PySem.W.subIn K (.ref C) (.type "BaseException") = some true
  ty : PySem.W.typeIn K (.ref C) = some (.type "type")
structure Tx (a : Ad) (K : PySem.W.Frag) (mg : Str → Option Value) (base : Heap) (T : Tb) : Prop where
  m_abs : mg "abs" = none
  m_any : mg "any" = none
  m_enumerate : mg "enumerate" = none
  m_int : mg "int" = none
  m_len : mg "len" = none
  m_list : mg "list" = none
  m_max : mg "max" = none
  m_min : mg "min" = none
  m_range : mg "range" = none
  m_reversed : mg "reversed" = none
  m_sorted : mg "sorted" = none
  m_sum : mg "sum" = none
  m_tuple : mg "tuple" = none
  f_broken : FunC K "broken" s_broken a.f_broken a.c_broken a.d_broken
  g_broken : mg "broken" = some (.ref a.f_broken)
  t_broken : GxR.TabB base mg a.c_broken a.p_broken
  tm_broken : a.p_broken ∈ T.tg
  tn_broken : ∀ q ∈ T.tl, q.1 ≠ a.p_broken
  f_filled : FunC K "filled" s_filled a.f_filled a.c_filled a.d_filled
  g_filled : mg "filled" = some (.ref a.f_filled)
  t_filled : GxR.TabB base mg a.c_filled a.p_filled
  tm_filled : a.p_filled ∈ T.tg
  tn_filled : ∀ q ∈ T.tl, q.1 ≠ a.p_filled
  f_spread : FunC K "spread" s_spread a.f_spread a.c_spread a.d_spread
  g_spread : mg "spread" = some (.ref a.f_spread)
  t_spread : GxR.TabB base mg a.c_spread a.p_spread
  tm_spread : a.p_spread ∈ T.tg
  tn_spread : ∀ q ∈ T.tl, q.1 ≠ a.p_spread
  f__law_dice : FunC K "_law_dice" s__law_dice a.f__law_dice a.c__law_dice a.d__law_dice
  g__law_dice : mg "_law_dice" = some (.ref a.f__law_dice)
  f__law_roll : FunC K "_law_roll" s__law_roll a.f__law_roll a.c__law_roll a.d__law_roll
  g__law_roll : mg "_law_roll" = some (.ref a.f__law_roll)
  f__law_rounds : FunC K "_law_rounds" s__law_rounds a.f__law_rounds a.c__law_rounds a.d__law_rounds
  g__law_rounds : mg "_law_rounds" = some (.ref a.f__law_rounds)
  f__law_told : FunC K "_law_told" s__law_told a.f__law_told a.c__law_told a.d__law_told
  g__law_told : mg "_law_told" = some (.ref a.f__law_told)
  f__law_ways : FunC K "_law_ways" s__law_ways a.f__law_ways a.c__law_ways a.d__law_ways
  g__law_ways : mg "_law_ways" = some (.ref a.f__law_ways)
  f_law : FunC K "law" s_law a.f_law a.c_law a.d_law
  g_law : mg "law" = some (.ref a.f_law)
  l_law : LamX.TabB base mg a.c_law a.p_law
  lm_law : (a.p_law, (envOfC "law" (defScope s_law) 0 0 (.ref 0)).qual ++ "<lambda>") ∈ T.tl
  lu_law : ∀ p ∈ T.tl, p.1 = a.p_law → p.2 = (envOfC "law" (defScope s_law) 0 0 (.ref 0)).qual ++ "<lambda>"
  ln_law : a.p_law ∉ T.tg
  x_NoWay : ExM K mg "NoWay" a.x_NoWay
  xe_NoWay : PySem.W.excIn K a.x_NoWay [.type "ValueError", .type "Exception", .type "BaseException", .type "object"] "ValueError.__new__" = true
  x_BadPlan : ExM K mg "BadPlan" a.x_BadPlan
  x_BadPaper : ExM K mg "BadPaper" a.x_BadPaper
  apart : Apart K [a.x_NoWay, a.x_BadPlan, a.x_BadPaper]
def hsT (a : Ad) : List (Addr × Str) := [(a.x_NoWay, "no way"), (a.x_BadPlan, "plan"), (a.x_BadPaper, "paper")]
abbrev N_broken : List Str := ["words", "wide", "best", "last", "rows", "first", "line", "cost", "lines", "more", "word"]
theorem sc_broken : FnScope N_broken ["words", "wide"] (defScope s_broken) := ⟨rfl, rfl, rfl, by decide +kernel, rfl, by decide +kernel, by decide +kernel⟩
abbrev N_filled : List Str := ["words", "wide", "found", "word"]
theorem sc_filled : FnScope N_filled ["words", "wide"] (defScope s_filled) := ⟨rfl, rfl, rfl, by decide +kernel, rfl, by decide +kernel, by decide +kernel⟩
abbrev N_spread : List Str := ["line", "wide", "words", "blanks", "found", "k", "word"]
theorem sc_spread : FnScope N_spread ["line", "wide"] (defScope s_spread) := ⟨rfl, rfl, rfl, by decide +kernel, rfl, by decide +kernel, by decide +kernel⟩
abbrev N__law_dice : List Str := ["cell"]
theorem sc__law_dice : FnScope N__law_dice ["cell"] (defScope s__law_dice) := ⟨rfl, rfl, rfl, by decide +kernel, rfl, by decide +kernel, by decide +kernel⟩
abbrev N__law_roll : List Str := ["dice", "many", "found"]
theorem sc__law_roll : FnScope N__law_roll ["dice", "many"] (defScope s__law_roll) := ⟨rfl, rfl, rfl, by decide +kernel, rfl, by decide +kernel, by decide +kernel⟩
abbrev N__law_rounds : List Str := ["script", "most", "cells", "cell"]
theorem sc__law_rounds : FnScope N__law_rounds ["script", "most"] (defScope s__law_rounds) := ⟨rfl, rfl, rfl, by decide +kernel, rfl, by decide +kernel, by decide +kernel⟩
abbrev N__law_told : List Str := ["what"]
theorem sc__law_told : FnScope N__law_told ["what"] (defScope s__law_told) := ⟨rfl, rfl, rfl, by decide +kernel, rfl, by decide +kernel, by decide +kernel⟩
abbrev N__law_ways : List Str := ["words", "wide", "found", "k", "line", "cost", "rest"]
theorem sc__law_ways : FnScope N__law_ways ["words", "wide"] (defScope s__law_ways) := ⟨rfl, rfl, rfl, by decide +kernel, rfl, by decide +kernel, by decide +kernel⟩
abbrev N_law : List Str := ["script", "dice", "words", "wide", "ways", "lines", "k", "line", "there", "gaps", "here", "cost", "row", "word"]
theorem sc_law : FnScope N_law ["script"] (defScope s_law) := ⟨rfl, rfl, rfl, by decide +kernel, rfl, by decide +kernel, by decide +kernel⟩
section
variable {P : Program} {w : World} {K : PySem.W.Frag} {mg : Str → Option Value} {base : Heap} {T : Tb} {a : Ad}
theorem bi_broken (t : Tx a K mg base T) : L2.Binds K a.d_broken ["words", "wide"] [] := t.f_broken.binds (ps := ["words", "wide"]) fun _ _ _ _ _ _ us hl => match us, hl with | [_, _], _ => rfl
theorem bi_filled (t : Tx a K mg base T) : L2.Binds K a.d_filled ["words", "wide"] [] := t.f_filled.binds (ps := ["words", "wide"]) fun _ _ _ _ _ _ us hl => match us, hl with | [_, _], _ => rfl
theorem bi_spread (t : Tx a K mg base T) : L2.Binds K a.d_spread ["line", "wide"] [] := t.f_spread.binds (ps := ["line", "wide"]) fun _ _ _ _ _ _ us hl => match us, hl with | [_, _], _ => rfl
theorem bi__law_dice (t : Tx a K mg base T) : L2.Binds K a.d__law_dice ["cell"] [] := t.f__law_dice.binds (ps := ["cell"]) fun _ _ _ _ _ _ us hl => match us, hl with | [_], _ => rfl
theorem bi__law_roll (t : Tx a K mg base T) : L2.Binds K a.d__law_roll ["dice", "many"] [] := t.f__law_roll.binds (ps := ["dice", "many"]) fun _ _ _ _ _ _ us hl => match us, hl with | [_, _], _ => rfl
theorem bi__law_rounds (t : Tx a K mg base T) : L2.Binds K a.d__law_rounds ["script", "most"] [] := t.f__law_rounds.binds (ps := ["script", "most"]) fun _ _ _ _ _ _ us hl => match us, hl with | [_, _], _ => rfl
theorem bi__law_told (t : Tx a K mg base T) : L2.Binds K a.d__law_told ["what"] [] := t.f__law_told.binds (ps := ["what"]) fun _ _ _ _ _ _ us hl => match us, hl with | [_], _ => rfl
theorem bi__law_ways (t : Tx a K mg base T) : L2.Binds K a.d__law_ways ["words", "wide"] [] := t.f__law_ways.binds (ps := ["words", "wide"]) fun _ _ _ _ _ _ us hl => match us, hl with | [_, _], _ => rfl
theorem bi_law (t : Tx a K mg base T) : L2.Binds K a.d_law ["script"] [] := t.f_law.binds (ps := ["script"]) fun _ _ _ _ _ _ us hl => match us, hl with | [_], _ => rfl
def u_broken (a : Ad) : SW :=
 (sSeq (sIf (wT (wGen PyData.bool (wItL (wVar 0)) (gNameD 10) wYes (wOrV (w2 (fC fun i j => decide (j < i)) (w1 fLen (wRd 10)) (wRd 1)) (w2 (fEq false) (wRd 10) (wC (.str "")))) [10] rAnyD)) (sRaise a.x_NoWay) sNil)
 (sSeq (sOwn 2 (w2 fCat (wLst (wCons (wTup (wCons (wC (.int 0)) (wCons (wTup wNil) wNil))) wNil)) (w2 fRep (wLst (wCons (wC .none) wNil)) (w1 fLen (wRd 0)))))
 (sSeq (sFor (wRng2 (wCons (wC (.int 1)) (wCons (w2 fAdd (w1 fLen (wRd 0)) (wC (.int 1))) wNil))) (gNameD 3)
 (sSeq (sOwn 4 (wLst wNil))
 (sSeq (sFor (wRng1 (wCons (wVar 3) wNil)) (gNameD 5)
 (sSeq (sSet 6 (wM1 fJoin (wC (.str " ")) (wSl fSlL (wRd 0) (wSo (wVar 5)) (wSo (wVar 3)))))
 (sIf (wT (w2 (fC fun i j => decide (i ≤ j)) (w1 fLen (wRd 6)) (wRd 1))) (sSeq (sAsg (w2 fIx (wRd 2) (wRd 5)) (gTupD 2 (gConsD (gNameD 7) (gConsD (gNameD 8) gNilD))))
 (sSeq (sSet 9 (wIf (wT (w2 (fEq false) (wRd 3) (w1 fLen (wRd 0)))) (wC (.int 0)) (w2 fMul (w2 (fI CT fun i j => i - j) (wRd 1) (w1 fLen (wRd 6))) (w2 (fI CT fun i j => i - j) (wRd 1) (w1 fLen (wRd 6))))))
 (sApp 4 (wTup (wCons (w2 fAdd (wRd 7) (wRd 9)) (wCons (w2 fAdd (wRd 8) (wTup (wCons (wVar 6) wNil))) wNil)))))) sNil)))
 (sSetI 2 (wVar 3) (w1 fMin (wRd 4))))))
 (sRet (w2 fIx (wRd 2) (wNeg (wC (.int 1))))))))
def c_broken (a : Ad) : PW := cOf N_broken (u_broken a)
theorem dd_broken (t : Tx a K mg base T) (A : Around) (outer : List Env) (s : Shared) (H : Hp) (E : XK) (hr : Room 10 (A.deeper (envOfC "broken" (defScope s_broken) s.heap.objs.size a.f_broken (.ref a.c_broken)))) :
  DSs T (cxOf (L2.CX P w) P w K mg base N_broken "broken" (defScope s_broken) a.f_broken (.ref a.c_broken) A outer s H E) (fun cls d _ H => E cls d H) (defBody s_broken) (u_broken a) :=
 (dss_cons (ds_if (dt_val (de_gen (toD := PyData.bool) (toV := V.bl) (R := rAnyD) (vR := (fun l => .bl (l.any id))) false hTB (fun _ _ _ => .bl _) (k := 9) hrr_any (GxI.gx_any hr) (by rfl) t.m_any hr (by rfl) sc_broken.nd t.t_broken t.tm_broken t.tn_broken (by rfl) ⟨by rfl, nocell_by (by rfl), by rfl⟩ (blk_by (own := [("word", 10)]) (by rfl)) (sl := [10]) (by decide) (di_list (de_var 0 (pv 0))) (fun _ _ _ _ _ _ _ => (dg_name 10 (pg_name sc_broken.nd rfl (by first | exact .inl rfl | exact .inr rfl)))) (fun _ _ _ _ _ _ _ hR => dts_nil) (fun _ _ _ _ _ _ _ hR => (de_or (de_cmp opD_gtI mono_fC (dr_of (de_callB cd_len mono_len (by rfl) t.m_len bt_len (dr_var 10 (pv 10)))) (dr_var 1 (pv 1)) (by rfl)) (de_one (de_cmp (opD_eq hR) mono_eq (dr_var 10 (pv 10)) (dr_of de_str) (by rfl)))))))
 (dss_one (ds_raise rfl (takes_of rfl rfl rfl rfl) (pmk_own PySem.F.excBase_ValueError t.xe_NoWay t.x_NoWay.g t.x_NoWay.kp (raises_own t.x_NoWay.sub t.x_NoWay.ty) rfl))) dss_nil)
 (dss_cons (ds_own (i := 2) sc_broken.nd rfl (by first | exact .inl rfl | exact .inr rfl) (df_op opF_cat mono_cat (dr_of (de_fresh (df_lst (da_cons (de_tup (da_cons de_int (da_cons (de_tup da_nil) da_nil))) da_nil)))) (dr_of (de_fresh (df_op opF_rep mono_rep (dr_of (de_fresh (df_lst (da_cons de_non da_nil)))) (dr_of (de_callB cd_len mono_len (by rfl) t.m_len bt_len (dr_var 0 (pv 0)))))))))
 (dss_cons (ds_for (passes_of rfl) rfl (di_range2 (by rfl) t.m_range (da_cons de_int (da_cons (de_op opD_add mono_add (dr_of (de_callB cd_len mono_len (by rfl) t.m_len bt_len (dr_var 0 (pv 0)))) (dr_of de_int)) da_nil))) (dg_name 3 (pg_name sc_broken.nd rfl (by first | exact .inl rfl | exact .inr rfl)))
 (dss_cons (ds_own (i := 4) sc_broken.nd rfl (by first | exact .inl rfl | exact .inr rfl) (df_lst da_nil))
 (dss_cons (ds_for (passes_of rfl) rfl (di_range1 (by rfl) t.m_range (da_cons (de_var 3 (pv 3)) da_nil)) (dg_name 5 (pg_name sc_broken.nd rfl (by first | exact .inl rfl | exact .inr rfl)))
 (dss_cons (ds_set (i := 6) sc_broken.nd rfl (by first | exact .inl rfl | exact .inr rfl) (de_join de_str (dr_of (de_fresh (df_sl (dr_var 0 (pv 0)) (do_some (de_var 5 (pv 5))) (do_some (de_var 3 (pv 3))))))))
 (dss_one (ds_if (dt_cmp opD_leI mono_fC (dr_of (de_callB cd_len mono_len (by rfl) t.m_len bt_len (dr_var 6 (pv 6)))) (dr_var 1 (pv 1)) (by rfl))
 (dss_cons (ds_asg (de_ix (dr_var 2 (pv 2)) (dr_var 5 (pv 5))) (dg_tup (by rfl) (dgs_cons (dg_name 7 (pg_name sc_broken.nd rfl (by first | exact .inl rfl | exact .inr rfl))) (dgs_cons (dg_name 8 (pg_name sc_broken.nd rfl (by first | exact .inl rfl | exact .inr rfl))) dgs_nil))))
 (dss_cons (ds_set (i := 9) sc_broken.nd rfl (by first | exact .inl rfl | exact .inr rfl) (de_if (dt_cmp (opD_eq hr) mono_eq (dr_var 3 (pv 3)) (dr_of (de_callB cd_len mono_len (by rfl) t.m_len bt_len (dr_var 0 (pv 0)))) (by rfl)) de_int (de_op opD_mul mono_mul (dr_of (de_op opD_sub mono_fI (dr_var 1 (pv 1)) (dr_of (de_callB cd_len mono_len (by rfl) t.m_len bt_len (dr_var 6 (pv 6)))))) (dr_of (de_op opD_sub mono_fI (dr_var 1 (pv 1)) (dr_of (de_callB cd_len mono_len (by rfl) t.m_len bt_len (dr_var 6 (pv 6)))))))))
 (dss_one (ds_app (i := 4) (pv 4) (de_tup (da_cons (de_op opD_add mono_add (dr_var 7 (pv 7)) (dr_var 9 (pv 9))) (da_cons (de_op opD_add mono_add (dr_var 8 (pv 8)) (dr_of (de_tup (da_cons (de_var 6 (pv 6)) da_nil)))) da_nil))))))) dss_nil))))
 (dss_one (ds_setI (i := 2) (pv 2) (de_var 3 (pv 3)) (de_callB (cd_min hr) mono_min (by rfl) t.m_min bt_min (dr_var 4 (pv 4))))))))
 (dss_one (ds_ret (de_ix (dr_var 2 (pv 2)) (dr_of (de_neg de_int))))))))
theorem ok_broken (t : Tx a K mg base T) : FnOk P w K mg base (L2.CX P w) (10 + 1) a.f_broken a.d_broken ["words", "wide"] (spD T K 2 (c_broken a)) := fn_okD t.f_broken sc_broken fun A outer s H E hr => dd_broken t A outer s H E hr
theorem mono_broken (t : Tx a K mg base T) (w : World) (s : Shared) {A : Around} (hr : Room (10 + 1) A) : Mono (c_broken a) := mono_cOf (dd_broken (P := PySem.Challenge.pw_museum_k08_labels_in_lines) (w := w) t A [] s (fun _ => none) (fun _ _ _ => False) (hr.deeper _)).mono
def u_filled (a : Ad) : SW :=
 (sSeq (sIf (wT (wGen PyData.bool (wItL (wVar 0)) (gNameD 3) wYes (wOrV (w2 (fC fun i j => decide (j < i)) (w1 fLen (wRd 3)) (wRd 1)) (w2 (fEq false) (wRd 3) (wC (.str "")))) [3] rAnyD)) (sRaise a.x_NoWay) sNil)
 (sSeq (sOwn 2 (wLst wNil))
 (sSeq (sFor (wItL (wVar 0)) (gNameD 3)
 (sIf (wAnd (wT (w2 (fEq true) (wRd 2) (wLst wNil))) (wT (w2 (fC fun i j => decide (i ≤ j)) (w2 fAdd (w2 fAdd (w1 fLen (w2 fIx (wRd 2) (wNeg (wC (.int 1))))) (wC (.int 1))) (w1 fLen (wRd 3))) (wRd 1)))) (sSetI 2 (wNeg (wC (.int 1))) (w2 fAdd (w2 fAdd (w2 fIx (wRd 2) (wNeg (wC (.int 1)))) (wC (.str " "))) (wRd 3))) (sApp 2 (wVar 3))))
 (sRet (w1 fTuple (wRd 2))))))
def c_filled (a : Ad) : PW := cOf N_filled (u_filled a)
theorem dd_filled (t : Tx a K mg base T) (A : Around) (outer : List Env) (s : Shared) (H : Hp) (E : XK) (hr : Room 10 (A.deeper (envOfC "filled" (defScope s_filled) s.heap.objs.size a.f_filled (.ref a.c_filled)))) :
  DSs T (cxOf (L2.CX P w) P w K mg base N_filled "filled" (defScope s_filled) a.f_filled (.ref a.c_filled) A outer s H E) (fun cls d _ H => E cls d H) (defBody s_filled) (u_filled a) :=
 (dss_cons (ds_if (dt_val (de_gen (toD := PyData.bool) (toV := V.bl) (R := rAnyD) (vR := (fun l => .bl (l.any id))) false hTB (fun _ _ _ => .bl _) (k := 9) hrr_any (GxI.gx_any hr) (by rfl) t.m_any hr (by rfl) sc_filled.nd t.t_filled t.tm_filled t.tn_filled (by rfl) ⟨by rfl, nocell_by (by rfl), by rfl⟩ (blk_by (own := [("word", 3)]) (by rfl)) (sl := [3]) (by decide) (di_list (de_var 0 (pv 0))) (fun _ _ _ _ _ _ _ => (dg_name 3 (pg_name sc_filled.nd rfl (by first | exact .inl rfl | exact .inr rfl)))) (fun _ _ _ _ _ _ _ hR => dts_nil) (fun _ _ _ _ _ _ _ hR => (de_or (de_cmp opD_gtI mono_fC (dr_of (de_callB cd_len mono_len (by rfl) t.m_len bt_len (dr_var 3 (pv 3)))) (dr_var 1 (pv 1)) (by rfl)) (de_one (de_cmp (opD_eq hR) mono_eq (dr_var 3 (pv 3)) (dr_of de_str) (by rfl)))))))
 (dss_one (ds_raise rfl (takes_of rfl rfl rfl rfl) (pmk_own PySem.F.excBase_ValueError t.xe_NoWay t.x_NoWay.g t.x_NoWay.kp (raises_own t.x_NoWay.sub t.x_NoWay.ty) rfl))) dss_nil)
 (dss_cons (ds_own (i := 2) sc_filled.nd rfl (by first | exact .inl rfl | exact .inr rfl) (df_lst da_nil))
 (dss_cons (ds_for (passes_of rfl) rfl (di_list (de_var 0 (pv 0))) (dg_name 3 (pg_name sc_filled.nd rfl (by first | exact .inl rfl | exact .inr rfl)))
 (dss_one (ds_if (dt_bool (dw_and (dt_cmp (opD_ne hr) mono_eq (dr_var 2 (pv 2)) (dr_of (de_fresh (df_lst da_nil))) (by rfl)) (dw_and1 (dt_cmp opD_leI mono_fC (dr_of (de_op opD_add mono_add (dr_of (de_op opD_add mono_add (dr_of (de_callB cd_len mono_len (by rfl) t.m_len bt_len (dr_of (de_ix (dr_var 2 (pv 2)) (dr_of (de_neg de_int)))))) (dr_of de_int))) (dr_of (de_callB cd_len mono_len (by rfl) t.m_len bt_len (dr_var 3 (pv 3)))))) (dr_var 1 (pv 1)) (by rfl)))))
 (dss_one (ds_setI (i := 2) (pv 2) (de_neg de_int) (de_op opD_add mono_add (dr_of (de_op opD_add mono_add (dr_of (de_ix (dr_var 2 (pv 2)) (dr_of (de_neg de_int)))) (dr_of de_str))) (dr_var 3 (pv 3))))) (dss_one (ds_app (i := 2) (pv 2) (de_var 3 (pv 3)))))))
 (dss_one (ds_ret (de_callTy cd_tuple mono_tuple (by rfl) t.m_tuple bt_tuple (dr_var 2 (pv 2))))))))
theorem ok_filled (t : Tx a K mg base T) : FnOk P w K mg base (L2.CX P w) (10 + 1) a.f_filled a.d_filled ["words", "wide"] (spD T K 2 (c_filled a)) := fn_okD t.f_filled sc_filled fun A outer s H E hr => dd_filled t A outer s H E hr
theorem mono_filled (t : Tx a K mg base T) (w : World) (s : Shared) {A : Around} (hr : Room (10 + 1) A) : Mono (c_filled a) := mono_cOf (dd_filled (P := PySem.Challenge.pw_museum_k08_labels_in_lines) (w := w) t A [] s (fun _ => none) (fun _ _ _ => False) (hr.deeper _)).mono
def u_spread (a : Ad) : SW :=
 (sSeq (sSet 2 (wM1 fSplit (wVar 0) (wC (.str " "))))
 (sSeq (sIf (wT (w2 (fEq false) (w1 fLen (wRd 2)) (wC (.int 1)))) (sRet (wVar 0)) sNil)
 (sSeq (sSet 3 (w2 (fI CT fun i j => i - j) (wRd 1) (wGen PyData.int (wItL (wVar 2)) (gNameD 6) wYes (w1 fLen (wRd 6)) [6] rSumD)))
 (sSeq (sIf (wT (w2 (fC fun i j => decide (i < j)) (wRd 3) (w2 (fI CT fun i j => i - j) (w1 fLen (wRd 2)) (wC (.int 1))))) (sRaise a.x_NoWay) sNil)
 (sSeq (sSet 4 (w2 fIx (wRd 2) (wC (.int 0))))
 (sSeq (sFor (wItE (wSl fSlL (wRd 2) (wSo (wC (.int 1))) wNo)) (gTupD 2 (gConsD (gNameD 5) (gConsD (gNameD 6) gNilD)))
 (sAug 4 fAddS (w2 fAdd (w2 fMul (wC (.str " ")) (w2 fAdd (w2 (fI CDiv fun i j => i / j) (wRd 3) (w2 (fI CT fun i j => i - j) (w1 fLen (wRd 2)) (wC (.int 1)))) (w1 fInt (w2 (fC fun i j => decide (i < j)) (wRd 5) (w2 (fI (fun _ j => 0 < j) fun i j => i % j) (wRd 3) (w2 (fI CT fun i j => i - j) (w1 fLen (wRd 2)) (wC (.int 1)))))))) (wRd 6))))
 (sRet (wVar 4))))))))
def c_spread (a : Ad) : PW := cOf N_spread (u_spread a)
theorem dd_spread (t : Tx a K mg base T) (A : Around) (outer : List Env) (s : Shared) (H : Hp) (E : XK) (hr : Room 10 (A.deeper (envOfC "spread" (defScope s_spread) s.heap.objs.size a.f_spread (.ref a.c_spread)))) :
  DSs T (cxOf (L2.CX P w) P w K mg base N_spread "spread" (defScope s_spread) a.f_spread (.ref a.c_spread) A outer s H E) (fun cls d _ H => E cls d H) (defBody s_spread) (u_spread a) :=
 (dss_cons (ds_set (i := 2) sc_spread.nd rfl (by first | exact .inl rfl | exact .inr rfl) (de_fresh (df_split (de_var 0 (pv 0)) de_str)))
 (dss_cons (ds_if (dt_cmp (opD_eq hr) mono_eq (dr_of (de_callB cd_len mono_len (by rfl) t.m_len bt_len (dr_var 2 (pv 2)))) (dr_of de_int) (by rfl))
 (dss_one (ds_ret (de_var 0 (pv 0)))) dss_nil)
 (dss_cons (ds_set (i := 3) sc_spread.nd rfl (by first | exact .inl rfl | exact .inr rfl) (de_op opD_sub mono_fI (dr_var 1 (pv 1)) (dr_of (de_gen (toD := PyData.int) (toV := V.int) (R := rSumD) (vR := (fun l => .int l.sum)) 0 hTI (fun _ _ _ => .int _) (k := 9) hrr_sum (GxI.gx_sum hr) (by rfl) t.m_sum hr (by rfl) sc_spread.nd t.t_spread t.tm_spread t.tn_spread (by rfl) ⟨by rfl, nocell_by (by rfl), by rfl⟩ (blk_by (own := [("word", 6)]) (by rfl)) (sl := [6]) (by decide) (di_list (de_var 2 (pv 2))) (fun _ _ _ _ _ _ _ => (dg_name 6 (pg_name sc_spread.nd rfl (by first | exact .inl rfl | exact .inr rfl)))) (fun _ _ _ _ _ _ _ hR => dts_nil) (fun _ _ _ _ _ _ _ hR => (de_callB cd_len mono_len (by rfl) t.m_len bt_len (dr_var 6 (pv 6))))))))
 (dss_cons (ds_if (dt_cmp opD_ltI mono_fC (dr_var 3 (pv 3)) (dr_of (de_op opD_sub mono_fI (dr_of (de_callB cd_len mono_len (by rfl) t.m_len bt_len (dr_var 2 (pv 2)))) (dr_of de_int))) (by rfl))
 (dss_one (ds_raise rfl (takes_of rfl rfl rfl rfl) (pmk_own PySem.F.excBase_ValueError t.xe_NoWay t.x_NoWay.g t.x_NoWay.kp (raises_own t.x_NoWay.sub t.x_NoWay.ty) rfl))) dss_nil)
 (dss_cons (ds_set (i := 4) sc_spread.nd rfl (by first | exact .inl rfl | exact .inr rfl) (de_ix (dr_var 2 (pv 2)) (dr_of de_int)))
 (dss_cons (ds_for (passes_of rfl) rfl (di_enum (by rfl) t.m_enumerate (de_fresh (df_sl (dr_var 2 (pv 2)) (do_some de_int) do_none))) (dg_tup (by rfl) (dgs_cons (dg_name 5 (pg_name sc_spread.nd rfl (by first | exact .inl rfl | exact .inr rfl))) (dgs_cons (dg_name 6 (pg_name sc_spread.nd rfl (by first | exact .inl rfl | exact .inr rfl))) dgs_nil)))
 (dss_one (ds_aug (i := 4) sc_spread.nd rfl (by first | exact .inl rfl | exact .inr rfl) (de_op opD_add mono_add (dr_of (de_op opD_mul mono_mul (dr_of de_str) (dr_of (de_op opD_add mono_add (dr_of (de_op opD_fdiv mono_fI (dr_var 3 (pv 3)) (dr_of (de_op opD_sub mono_fI (dr_of (de_callB cd_len mono_len (by rfl) t.m_len bt_len (dr_var 2 (pv 2)))) (dr_of de_int))))) (dr_of (de_callTy cd_int mono_int (by rfl) t.m_int bt_int (dr_of (de_cmp opD_ltI mono_fC (dr_var 5 (pv 5)) (dr_of (de_op opD_mod mono_fI (dr_var 3 (pv 3)) (dr_of (de_op opD_sub mono_fI (dr_of (de_callB cd_len mono_len (by rfl) t.m_len bt_len (dr_var 2 (pv 2)))) (dr_of de_int))))) (by rfl))))))))) (dr_var 6 (pv 6))) iopD_addS mono_addS)))
 (dss_one (ds_ret (de_var 4 (pv 4))))))))))
theorem ok_spread (t : Tx a K mg base T) : FnOk P w K mg base (L2.CX P w) (10 + 1) a.f_spread a.d_spread ["line", "wide"] (spD T K 2 (c_spread a)) := fn_okD t.f_spread sc_spread fun A outer s H E hr => dd_spread t A outer s H E hr
theorem mono_spread (t : Tx a K mg base T) (w : World) (s : Shared) {A : Around} (hr : Room (10 + 1) A) : Mono (c_spread a) := mono_cOf (dd_spread (P := PySem.Challenge.pw_museum_k08_labels_in_lines) (w := w) t A [] s (fun _ => none) (fun _ _ _ => False) (hr.deeper _)).mono
def u__law_dice (a : Ad) : SW :=
 (sSeq (sIf (wT (wCh (fC fun i j => decide (i < j)) (fC fun i j => decide (i < j)) (w2 (fI CT fun i j => i - j) (wC (.int 0)) (wC (.int 10))) (wVar 0) (wC (.int 10)))) (sRet (wLst (wCons (w1 fAbs (wRd 0)) (wCons (wC (.int 0)) (wCons (wC (.int 2)) wNil))))) sNil)
 (sRet (wLst (wCons (wVar 0) (wCons (w2 fAdd (wC (.int 1)) (w2 (fI (fun _ j => 0 < j) fun i j => i % j) (w1 fInt (wRd 0)) (wC (.int 1009)))) (wCons (w1 fInt (w2 (fC fun i j => decide (j ≤ i)) (wRd 0) (w2 (fI CPow fun i j => i ^ j.toNat) (wC (.int 10)) (wC (.int 18))))) wNil))))))
def c__law_dice (a : Ad) : PW := cOf N__law_dice (u__law_dice a)
theorem dd__law_dice (t : Tx a K mg base T) (A : Around) (outer : List Env) (s : Shared) (H : Hp) (E : XK) (hr : Room 10 (A.deeper (envOfC "_law_dice" (defScope s__law_dice) s.heap.objs.size a.f__law_dice (.ref a.c__law_dice)))) :
  DSs T (cxOf (L2.CX P w) P w K mg base N__law_dice "_law_dice" (defScope s__law_dice) a.f__law_dice (.ref a.c__law_dice) A outer s H E) (fun cls d _ H => E cls d H) (defBody s__law_dice) (u__law_dice a) :=
 (dss_cons (ds_if (dt_chain opD_ltI opD_ltI mono_fC mono_fC (de_op opD_sub mono_fI (dr_of de_int) (dr_of de_int)) (de_var 0 (pv 0)) de_int)
 (dss_one (ds_ret (de_fresh (df_lst (da_cons (de_callB cd_abs mono_abs (by rfl) t.m_abs bt_abs (dr_var 0 (pv 0))) (da_cons de_int (da_cons de_int da_nil))))))) dss_nil)
 (dss_one (ds_ret (de_fresh (df_lst (da_cons (de_var 0 (pv 0)) (da_cons (de_op opD_add mono_add (dr_of de_int) (dr_of (de_op opD_mod mono_fI (dr_of (de_callTy cd_int mono_int (by rfl) t.m_int bt_int (dr_var 0 (pv 0)))) (dr_of de_int)))) (da_cons (de_callTy cd_int mono_int (by rfl) t.m_int bt_int (dr_of (de_cmp opD_geI mono_fC (dr_var 0 (pv 0)) (dr_of (de_op opD_pow mono_fI (dr_of de_int) (dr_of de_int))) (by rfl)))) da_nil))))))))
theorem ok__law_dice (t : Tx a K mg base T) : FnOk P w K mg base (L2.CX P w) (10 + 1) a.f__law_dice a.d__law_dice ["cell"] (spD T K 1 (c__law_dice a)) := fn_okD t.f__law_dice sc__law_dice fun A outer s H E hr => dd__law_dice t A outer s H E hr
theorem mono__law_dice (t : Tx a K mg base T) (w : World) (s : Shared) {A : Around} (hr : Room (10 + 1) A) : Mono (c__law_dice a) := mono_cOf (dd__law_dice (P := PySem.Challenge.pw_museum_k08_labels_in_lines) (w := w) t A [] s (fun _ => none) (fun _ _ _ => False) (hr.deeper _)).mono
def u__law_roll (a : Ad) : SW :=
 (sSeq (sIf (wOr (wT (w2 (fEq false) (wDix 0 2) (wC (.int 2)))) (wAnd (wT (w2 (fEq false) (wDix 0 2) (wC (.int 1)))) (wT (w2 (fC fun i j => decide (j < i)) (wDix 0 0) (wC (.int 0)))))) (sSeq (sSet 2 (w2 (fI (fun _ j => 0 < j) fun i j => i % j) (w1 fInt (wDix 0 0)) (wRd 1)))
 (sSeq (sDst 0 0 (w2 (fI CDiv fun i j => i / j) (wDix 0 0) (wRd 1)))
 (sRet (wVar 2)))) sNil)
 (sSeq (sDst 0 2 (wC (.int 0)))
 (sSeq (sDst 0 0 (w2 (fI (fun _ j => 0 < j) fun i j => i % j) (w1 fInt (w2 fAdd (w2 fAdd (w2 fMul (wDix 0 0) (wC (.int 48271))) (w2 fMul (wDix 0 1) (wC (.int 69621)))) (wC (.int 11)))) (wC (.int 2147483647))))
 (sSeq (sDst 0 1 (w2 fAdd (wDix 0 1) (wC (.int 1))))
 (sRet (w2 (fI (fun _ j => 0 < j) fun i j => i % j) (w1 fInt (w2 fAdd (w2 (fI CDiv fun i j => i / j) (wDix 0 0) (wC (.int 7))) (wDix 0 0))) (wRd 1)))))))
def c__law_roll (a : Ad) : PW := cOf N__law_roll (u__law_roll a)
theorem dd__law_roll (t : Tx a K mg base T) (A : Around) (outer : List Env) (s : Shared) (H : Hp) (E : XK) (hr : Room 10 (A.deeper (envOfC "_law_roll" (defScope s__law_roll) s.heap.objs.size a.f__law_roll (.ref a.c__law_roll)))) :
  DSs T (cxOf (L2.CX P w) P w K mg base N__law_roll "_law_roll" (defScope s__law_roll) a.f__law_roll (.ref a.c__law_roll) A outer s H E) (fun cls d _ H => E cls d H) (defBody s__law_roll) (u__law_roll a) :=
 (dss_cons (ds_if (dt_bool (dw_or (dt_cmp (opD_eq hr) mono_eq (dr_of (de_dix (i := 0) (k := 2) (pv 0))) (dr_of de_int) (by rfl)) (dw_or1 (dt_bool (dw_and (dt_cmp (opD_eq hr) mono_eq (dr_of (de_dix (i := 0) (k := 2) (pv 0))) (dr_of de_int) (by rfl)) (dw_and1 (dt_cmp opD_gtI mono_fC (dr_of (de_dix (i := 0) (k := 0) (pv 0))) (dr_of de_int) (by rfl))))))))
 (dss_cons (ds_set (i := 2) sc__law_roll.nd rfl (by first | exact .inl rfl | exact .inr rfl) (de_op opD_mod mono_fI (dr_of (de_callTy cd_int mono_int (by rfl) t.m_int bt_int (dr_of (de_dix (i := 0) (k := 0) (pv 0))))) (dr_var 1 (pv 1))))
 (dss_cons (ds_dst (i := 0) (k := 0) (pv 0) (de_op opD_fdiv mono_fI (dr_of (de_dix (i := 0) (k := 0) (pv 0))) (dr_var 1 (pv 1))))
 (dss_one (ds_ret (de_var 2 (pv 2)))))) dss_nil)
 (dss_cons (ds_dst (i := 0) (k := 2) (pv 0) de_int)
 (dss_cons (ds_dst (i := 0) (k := 0) (pv 0) (de_op opD_mod mono_fI (dr_of (de_callTy cd_int mono_int (by rfl) t.m_int bt_int (dr_of (de_op opD_add mono_add (dr_of (de_op opD_add mono_add (dr_of (de_op opD_mul mono_mul (dr_of (de_dix (i := 0) (k := 0) (pv 0))) (dr_of de_int))) (dr_of (de_op opD_mul mono_mul (dr_of (de_dix (i := 0) (k := 1) (pv 0))) (dr_of de_int))))) (dr_of de_int))))) (dr_of de_int)))
 (dss_cons (ds_dst (i := 0) (k := 1) (pv 0) (de_op opD_add mono_add (dr_of (de_dix (i := 0) (k := 1) (pv 0))) (dr_of de_int)))
 (dss_one (ds_ret (de_op opD_mod mono_fI (dr_of (de_callTy cd_int mono_int (by rfl) t.m_int bt_int (dr_of (de_op opD_add mono_add (dr_of (de_op opD_fdiv mono_fI (dr_of (de_dix (i := 0) (k := 0) (pv 0))) (dr_of de_int))) (dr_of (de_dix (i := 0) (k := 0) (pv 0))))))) (dr_var 1 (pv 1)))))))))
theorem ok__law_roll (t : Tx a K mg base T) : FnOk P w K mg base (L2.CX P w) (10 + 1) a.f__law_roll a.d__law_roll ["dice", "many"] (spD T K 2 (c__law_roll a)) := fn_okD t.f__law_roll sc__law_roll fun A outer s H E hr => dd__law_roll t A outer s H E hr
theorem mono__law_roll (t : Tx a K mg base T) (w : World) (s : Shared) {A : Around} (hr : Room (10 + 1) A) : Mono (c__law_roll a) := mono_cOf (dd__law_roll (P := PySem.Challenge.pw_museum_k08_labels_in_lines) (w := w) t A [] s (fun _ => none) (fun _ _ _ => False) (hr.deeper _)).mono
def u__law_rounds (a : Ad) : SW :=
 (sSeq (sSet 2 (wScr 0 (wSo (wVar 1))))
 (sSeq (sIf (wT (w2 (fEq false) (wRd 2) (wLst wNil))) (sSet 2 (wLst (wCons (wC (.int 0)) wNil))) sNil)
 (sRet (wLc (wItL (wVar 2)) (gNameD 3) wYes (wCall 1 (c__law_dice a) (wpSh (wVar 3) wpNil)) [3]))))
def c__law_rounds (a : Ad) : PW := cOf N__law_rounds (u__law_rounds a)
theorem dd__law_rounds (t : Tx a K mg base T) (A : Around) (outer : List Env) (s : Shared) (H : Hp) (E : XK) (hr : Room 12 (A.deeper (envOfC "_law_rounds" (defScope s__law_rounds) s.heap.objs.size a.f__law_rounds (.ref a.c__law_rounds)))) :
  DSs T (cxOf (L2.CX P w) P w K mg base N__law_rounds "_law_rounds" (defScope s__law_rounds) a.f__law_rounds (.ref a.c__law_rounds) A outer s H E) (fun cls d _ H => E cls d H) (defBody s__law_rounds) (u__law_rounds a) :=
 (dss_cons (ds_set (i := 2) sc__law_rounds.nd rfl (by first | exact .inl rfl | exact .inr rfl) (de_fresh (df_scr (pv 0) (do_some (de_var 1 (pv 1))))))
 (dss_cons (ds_if (dt_cmp (opD_eq hr) mono_eq (dr_var 2 (pv 2)) (dr_of (de_fresh (df_lst da_nil))) (by rfl))
 (dss_one (ds_set (i := 2) sc__law_rounds.nd rfl (by first | exact .inl rfl | exact .inr rfl) (de_fresh (df_lst (da_cons de_int da_nil))))) dss_nil)
 (dss_one (ds_ret (de_fresh (df_lc (by rfl) sc__law_rounds.nd (di_list (de_var 2 (pv 2))) (blk_by (own := [("cell", 3)]) (by rfl)) (sl := [3]) (by decide) (fun _ _ _ _ _ => (dg_name 3 (pg_name sc__law_rounds.nd rfl (by first | exact .inl rfl | exact .inr rfl)))) (fun _ _ _ _ _ => dts_nil) (fun _ _ _ _ _ => (de_call (ok__law_dice t) (mono__law_dice t w s (hr.mono (by decide))) (hr.mono (by decide)) (by rfl) t.g__law_dice t.f__law_dice.kp (bi__law_dice t) L2.takes0 (dp_sh (de_var 3 (pv 3)) dp_nil)))))))))
theorem ok__law_rounds (t : Tx a K mg base T) : FnOk P w K mg base (L2.CX P w) (12 + 1) a.f__law_rounds a.d__law_rounds ["script", "most"] (spD T K 2 (c__law_rounds a)) := fn_okD t.f__law_rounds sc__law_rounds fun A outer s H E hr => dd__law_rounds t A outer s H E hr
theorem mono__law_rounds (t : Tx a K mg base T) (w : World) (s : Shared) {A : Around} (hr : Room (12 + 1) A) : Mono (c__law_rounds a) := mono_cOf (dd__law_rounds (P := PySem.Challenge.pw_museum_k08_labels_in_lines) (w := w) t A [] s (fun _ => none) (fun _ _ _ => False) (hr.deeper _)).mono
def u__law_ways (a : Ad) (rec : PW) : SW :=
 (sSeq (sIf (wT (w2 (fEq false) (wRd 0) (wLst wNil))) (sRet (wLst (wCons (wTup (wCons (wC (.int 0)) (wCons (wTup wNil) wNil))) wNil))) sNil)
 (sSeq (sOwn 2 (wLst wNil))
 (sSeq (sFor (wRng2 (wCons (wC (.int 1)) (wCons (w2 fAdd (w1 fLen (wRd 0)) (wC (.int 1))) wNil))) (gNameD 3)
 (sSeq (sSet 4 (wM1 fJoin (wC (.str " ")) (wSl fSlL (wRd 0) wNo (wSo (wVar 3)))))
 (sIf (wT (w2 (fC fun i j => decide (i ≤ j)) (w1 fLen (wRd 4)) (wRd 1))) (sFor (wItL (wCall 2 rec (wpSh (wSl fSlL (wRd 0) (wSo (wVar 3)) wNo) (wpSh (wVar 1) wpNil)))) (gTupD 2 (gConsD (gNameD 5) (gConsD (gNameD 6) gNilD)))
 (sApp 2 (wTup (wCons (w2 fAdd (wRd 5) (wIf (wT (w2 (fEq false) (wRd 6) (wTup wNil))) (wC (.int 0)) (w2 fMul (w2 (fI CT fun i j => i - j) (wRd 1) (w1 fLen (wRd 4))) (w2 (fI CT fun i j => i - j) (wRd 1) (w1 fLen (wRd 4)))))) (wCons (w2 fAdd (wTup (wCons (wVar 4) wNil)) (wRd 6)) wNil))))) sNil)))
 (sFrz 2 (sRet (wVar 2))))))
def c__law_ways (a : Ad) : Nat → PW
  | 0 => fun _ _ _ => False
  | n + 1 => cOf N__law_ways (u__law_ways a (c__law_ways a n))
theorem dd__law_ways (t : Tx a K mg base T) {rec : PW} {n : Nat} (G : FnOk P w K mg base (L2.CX P w) (12 + n) a.f__law_ways a.d__law_ways ["words", "wide"] (spD T K 2 rec)) (mc : Mono rec) (A : Around) (outer : List Env) (s : Shared) (H : Hp) (E : XK) (hr : Room (12 + n) (A.deeper (envOfC "_law_ways" (defScope s__law_ways) s.heap.objs.size a.f__law_ways (.ref a.c__law_ways)))) :
  DSs T (cxOf (L2.CX P w) P w K mg base N__law_ways "_law_ways" (defScope s__law_ways) a.f__law_ways (.ref a.c__law_ways) A outer s H E) (fun cls d _ H => E cls d H) (defBody s__law_ways) (u__law_ways a rec) :=
 (dss_cons (ds_if (dt_cmp (opD_eq hr) mono_eq (dr_var 0 (pv 0)) (dr_of (de_fresh (df_lst da_nil))) (by rfl))
 (dss_one (ds_ret (de_fresh (df_lst (da_cons (de_tup (da_cons de_int (da_cons (de_tup da_nil) da_nil))) da_nil))))) dss_nil)
 (dss_cons (ds_own (i := 2) sc__law_ways.nd rfl (by first | exact .inl rfl | exact .inr rfl) (df_lst da_nil))
 (dss_cons (ds_for (passes_of rfl) rfl (di_range2 (by rfl) t.m_range (da_cons de_int (da_cons (de_op opD_add mono_add (dr_of (de_callB cd_len mono_len (by rfl) t.m_len bt_len (dr_var 0 (pv 0)))) (dr_of de_int)) da_nil))) (dg_name 3 (pg_name sc__law_ways.nd rfl (by first | exact .inl rfl | exact .inr rfl)))
 (dss_cons (ds_set (i := 4) sc__law_ways.nd rfl (by first | exact .inl rfl | exact .inr rfl) (de_join de_str (dr_of (de_fresh (df_sl (dr_var 0 (pv 0)) do_none (do_some (de_var 3 (pv 3))))))))
 (dss_one (ds_if (dt_cmp opD_leI mono_fC (dr_of (de_callB cd_len mono_len (by rfl) t.m_len bt_len (dr_var 4 (pv 4)))) (dr_var 1 (pv 1)) (by rfl))
 (dss_one (ds_for (passes_of rfl) rfl (di_list (de_call G mc (hr.mono (by omega)) (by rfl) t.g__law_ways t.f__law_ways.kp (bi__law_ways t) (takes_of rfl rfl rfl rfl) (dp_sh (de_fresh (df_sl (dr_var 0 (pv 0)) (do_some (de_var 3 (pv 3))) do_none)) (dp_sh (de_var 1 (pv 1)) dp_nil)))) (dg_tup (by rfl) (dgs_cons (dg_name 5 (pg_name sc__law_ways.nd rfl (by first | exact .inl rfl | exact .inr rfl))) (dgs_cons (dg_name 6 (pg_name sc__law_ways.nd rfl (by first | exact .inl rfl | exact .inr rfl))) dgs_nil)))
 (dss_one (ds_app (i := 2) (pv 2) (de_tup (da_cons (de_op opD_add mono_add (dr_var 5 (pv 5)) (dr_of (de_if (dt_cmp (opD_eq hr) mono_eq (dr_var 6 (pv 6)) (dr_of (de_tup da_nil)) (by rfl)) de_int (de_op opD_mul mono_mul (dr_of (de_op opD_sub mono_fI (dr_var 1 (pv 1)) (dr_of (de_callB cd_len mono_len (by rfl) t.m_len bt_len (dr_var 4 (pv 4)))))) (dr_of (de_op opD_sub mono_fI (dr_var 1 (pv 1)) (dr_of (de_callB cd_len mono_len (by rfl) t.m_len bt_len (dr_var 4 (pv 4)))))))))) (da_cons (de_op opD_add mono_add (dr_of (de_tup (da_cons (de_var 4 (pv 4)) da_nil))) (dr_var 6 (pv 6))) da_nil))))))) dss_nil))))
 (dss_frz 2 (dss_one (ds_ret (de_var 2 (pv 2))))))))
theorem ok__law_ways (t : Tx a K mg base T) : ∀ n : Nat, FnOk P w K mg base (L2.CX P w) (12 + n) a.f__law_ways a.d__law_ways ["words", "wide"] (spD T K 2 (c__law_ways a n)) ∧ (∀ (A : Around) (s : Shared), Room (12 + n) A → Mono (c__law_ways a n))
  | 0 => ⟨fn_ok0, fun _ _ _ _ _ _ _ _ _ _ h => h⟩
  | n + 1 => by
    obtain ⟨G, mc⟩ := ok__law_ways t n
    refine ⟨fn_okD t.f__law_ways sc__law_ways fun A outer s H E hr => dd__law_ways t G (mc _ s hr) A outer s H E hr, fun A s hA => mono_cOf (dd__law_ways (P := P) (w := w) t G (mc _ s (hA.mono (by omega))) A [] s (fun _ => none) (fun _ _ _ => False) (hA.deeper _)).mono⟩
def u_law (a : Ad) : SW :=
 (sSeq (sPar 2 3 (wCons (wLc (wRng1 (wCons (wCall 2 (c__law_roll a) (wpDc 1 (wpSh (wC (.int 8)) wpNil))) wNil)) (gNameD 6) wYes (wSl fSlS (wC (.str "abcde")) wNo (wSo (w2 fAdd (wC (.int 1)) (wCall 2 (c__law_roll a) (wpDc 1 (wpSh (wC (.int 5)) wpNil)))))) [6]) (wCons (w2 fAdd (wC (.int 5)) (wCall 2 (c__law_roll a) (wpDc 1 (wpSh (wC (.int 6)) wpNil)))) wNil)))
 (sSeq (sSet 4 (wCall 2 (c__law_ways a 8) (wpSh (wVar 2) (wpSh (wVar 3) wpNil))))
 (sSeq (sIf (wT (w2 (fEq true) (wCall 2 (c_broken a) (wpSh (wVar 2) (wpSh (wVar 3) wpNil))) (w1 fMin (wRd 4)))) (sRet (wC (.bool false))) sNil)
 (sSeq (sSet 5 (wCall 2 (c_filled a) (wpSh (wVar 2) (wpSh (wVar 3) wpNil))))
 (sSeq (sIf (wOr (wT (w2 (fEq true) (w1 fLen (wRd 5)) (w1 fMin (wLc (wItL (wVar 4)) (gTupD 2 (gConsD (gNameD 11) (gConsD (gNameD 12) gNilD))) wYes (w1 fLen (wRd 12)) [11, 12])))) (wT (w2 (fIn true) (wRd 5) (wLc (wItL (wVar 4)) (gTupD 2 (gConsD (gNameD 11) (gConsD (gNameD 12) gNilD))) wYes (wVar 12) [11, 12])))) (sRet (wC (.bool false))) sNil)
 (sSeq (sFor (wRng2 (wCons (wC (.int 1)) (wCons (w1 fLen (wRd 5)) wNil))) (gNameD 6)
 (sIf (wT (w2 (fC fun i j => decide (i ≤ j)) (w2 fAdd (w2 fAdd (w1 fLen (w2 fIx (wRd 5) (w2 (fI CT fun i j => i - j) (wRd 6) (wC (.int 1))))) (wC (.int 1))) (w1 fLen (w2 fIx (wM1 fSplit (w2 fIx (wRd 5) (wRd 6)) (wC (.str " "))) (wC (.int 0))))) (wRd 3))) (sRet (wC (.bool false))) sNil))
 (sSeq (sFor (wItT (wVar 5)) (gNameD 7)
 (sSeq (sSet 8 (wCall 2 (c_spread a) (wpSh (wVar 7) (wpSh (wVar 3) wpNil))))
 (sSeq (sPar 9 10 (wCons (wLst wNil) (wCons (wC (.int 0)) wNil)))
 (sSeq (sFor (wRng1 (wCons (w1 fLen (wRd 8)) wNil)) (gNameD 6)
 (sIf (wT (w2 (fEq false) (w2 fIx (wRd 8) (wRd 6)) (wC (.str " ")))) (sSet 10 (w2 fAdd (wRd 10) (wC (.int 1)))) (sIf (wT (w2 (fC fun i j => decide (j < i)) (wRd 10) (wC (.int 0)))) (sPar 9 10 (wCons (w2 fCat (wRd 9) (wLst (wCons (wVar 10) wNil))) (wCons (wC (.int 0)) wNil))) sNil)))
 (sSeq (sIf (wAnd (wT (w2 (fIn false) (wC (.str " ")) (wRd 7))) (wOr (wT (w2 (fEq true) (w1 fLen (wRd 8)) (wRd 3))) (wOr (wT (w2 (fC fun i j => decide (j < i)) (w2 (fI CT fun i j => i - j) (w1 fMax (wRd 9)) (w1 fMin (wRd 9))) (wC (.int 1)))) (wT (w2 (fEq true) (wRd 9) (wLR (w1 fSorted (wRd 9)))))))) (sRet (wC (.bool false))) sNil)
 (sSeq (sIf (wT (w2 (fEq true) (wLc (wItL (wM1 fSplit (wVar 8) (wC (.str " ")))) (gNameD 13) (wT (w2 (fEq true) (wRd 13) (wC (.str "")))) (wVar 13) [13]) (wM1 fSplit (wVar 7) (wC (.str " "))))) (sRet (wC (.bool false))) sNil)
 (sIf (wAnd (wT (w2 (fIn true) (wC (.str " ")) (wRd 7))) (wT (w2 (fEq true) (wRd 8) (wRd 7)))) (sRet (wC (.bool false))) sNil)))))))
 (sSeq (sIf (wT (w2 (fEq true) (wTold (hsT a) (wCall 2 (c_broken a) (wpSh (wLst (wCons (wC (.str "abcdef")) wNil)) (wpSh (wC (.int 5)) wpNil)))) (wC (.str "no way")))) (sRet (wC (.bool false))) sNil)
 (sIf (wT (w2 (fEq true) (wTold (hsT a) (wCall 2 (c_spread a) (wpSh (wC (.str "ab cd")) (wpSh (wC (.int 4)) wpNil)))) (wC (.str "no way")))) (sRet (wC (.bool false))) sNil)))))))))
def i_law (a : Ad) : PW := (wCall 2 (c__law_rounds a) (wpSc 0 (wpSh (wC (.int 3)) wpNil)))
theorem di_law (t : Tx a K mg base T) (A : Around) (outer : List Env) (s : Shared) (H : Hp) (E : XK) (hr : Room 30 (A.deeper (envOfC "law" (defScope s_law) s.heap.objs.size a.f_law (.ref a.c_law)))) : DE T (cxOf (L2.CX P w) P w K mg base N_law "law" (defScope s_law) a.f_law (.ref a.c_law) A outer s H E) (fun cls d _ H => E cls d H) (lawIter s_law) (i_law a) := (de_call (ok__law_rounds t) (mono__law_rounds t w s (hr.mono (by decide))) (hr.mono (by decide)) (by rfl) t.g__law_rounds t.f__law_rounds.kp (bi__law_rounds t) (takes_of rfl rfl rfl rfl) (dp_sc (pv 0) (dp_sh de_int dp_nil)))
theorem dd_law (t : Tx a K mg base T) (A : Around) (outer : List Env) (s : Shared) (H : Hp) (E : XK) (hr : Room 30 (A.deeper (envOfC "law" (defScope s_law) s.heap.objs.size a.f_law (.ref a.c_law)))) :
  DSs T (cxOf (L2.CX P w) P w K mg base N_law "law" (defScope s_law) a.f_law (.ref a.c_law) A outer s H E) (fun cls d _ H => E cls d H) (lawBody s_law) (u_law a) :=
 (dss_cons (ds_par (i := 2) (j := 3) rfl sc_law.nd rfl rfl (by decide) rfl rfl (da_cons (de_fresh (df_lc (by rfl) sc_law.nd (di_range1 (by rfl) t.m_range (da_cons (de_call (ok__law_roll t) (mono__law_roll t w s (hr.mono (by decide))) (hr.mono (by decide)) (by rfl) t.g__law_roll t.f__law_roll.kp (bi__law_roll t) (takes_of rfl rfl rfl rfl) (dp_dc (pv 1) (dp_sh de_int dp_nil))) da_nil)) (blk_by (own := [("k", 6)]) (by rfl)) (sl := [6]) (by decide) (fun _ _ _ _ _ => (dg_name 6 (pg_name sc_law.nd rfl (by first | exact .inl rfl | exact .inr rfl)))) (fun _ _ _ _ _ => dts_nil) (fun _ _ _ _ _ => (de_sl (dr_of de_str) do_none (do_some (de_op opD_add mono_add (dr_of de_int) (dr_of (de_call (ok__law_roll t) (mono__law_roll t w s (hr.mono (by decide))) (hr.mono (by decide)) (by rfl) t.g__law_roll t.f__law_roll.kp (bi__law_roll t) L2.takes0 (dp_dc (pv 1) (dp_sh de_int dp_nil)))))))))) (da_cons (de_op opD_add mono_add (dr_of de_int) (dr_of (de_call (ok__law_roll t) (mono__law_roll t w s (hr.mono (by decide))) (hr.mono (by decide)) (by rfl) t.g__law_roll t.f__law_roll.kp (bi__law_roll t) (takes_of rfl rfl rfl rfl) (dp_dc (pv 1) (dp_sh de_int dp_nil))))) da_nil)) (by rfl))
 (dss_cons (ds_set (i := 4) sc_law.nd rfl (by first | exact .inl rfl | exact .inr rfl) (de_call (ok__law_ways t 8).1 ((ok__law_ways (P := P) (w := w) t 8).2 _ s (hr.mono (by decide))) (hr.mono (by decide)) (by rfl) t.g__law_ways t.f__law_ways.kp (bi__law_ways t) (takes_of rfl rfl rfl rfl) (dp_sh (de_var 2 (pv 2)) (dp_sh (de_var 3 (pv 3)) dp_nil))))
 (dss_cons (ds_if (dt_cmp (opD_ne hr) mono_eq (dr_of (de_call (ok_broken t) (mono_broken t w s (hr.mono (by decide))) (hr.mono (by decide)) (by rfl) t.g_broken t.f_broken.kp (bi_broken t) (takes_of rfl rfl rfl rfl) (dp_sh (de_var 2 (pv 2)) (dp_sh (de_var 3 (pv 3)) dp_nil)))) (dr_of (de_callB (cd_min hr) mono_min (by rfl) t.m_min bt_min (dr_var 4 (pv 4)))) (by rfl))
 (dss_one (ds_ret de_bl)) dss_nil)
 (dss_cons (ds_set (i := 5) sc_law.nd rfl (by first | exact .inl rfl | exact .inr rfl) (de_call (ok_filled t) (mono_filled t w s (hr.mono (by decide))) (hr.mono (by decide)) (by rfl) t.g_filled t.f_filled.kp (bi_filled t) (takes_of rfl rfl rfl rfl) (dp_sh (de_var 2 (pv 2)) (dp_sh (de_var 3 (pv 3)) dp_nil))))
 (dss_cons (ds_if (dt_bool (dw_or (dt_cmp (opD_ne hr) mono_eq (dr_of (de_callB cd_len mono_len (by rfl) t.m_len bt_len (dr_var 5 (pv 5)))) (dr_of (de_callB (cd_min hr) mono_min (by rfl) t.m_min bt_min (dr_of (de_fresh (df_lc (by rfl) sc_law.nd (di_list (de_var 4 (pv 4))) (blk_by (own := [("cost", 11), ("row", 12)]) (by rfl)) (sl := ([11] ++ ([12] ++ []))) (by decide) (fun _ _ _ _ _ => (dg_tup (by rfl) (dgs_cons (dg_name 11 (pg_name sc_law.nd rfl (by first | exact .inl rfl | exact .inr rfl))) (dgs_cons (dg_name 12 (pg_name sc_law.nd rfl (by first | exact .inl rfl | exact .inr rfl))) dgs_nil)))) (fun _ _ _ _ _ => dts_nil) (fun _ _ _ _ _ => (de_callB cd_len mono_len (by rfl) t.m_len bt_len (dr_var 12 (pv 12))))))))) (by rfl)) (dw_or1 (dt_cmp (opD_notIn hr) mono_in (dr_var 5 (pv 5)) (dr_of (de_fresh (df_lc (by rfl) sc_law.nd (di_list (de_var 4 (pv 4))) (blk_by (own := [("cost", 11), ("row", 12)]) (by rfl)) (sl := ([11] ++ ([12] ++ []))) (by decide) (fun _ _ _ _ _ => (dg_tup (by rfl) (dgs_cons (dg_name 11 (pg_name sc_law.nd rfl (by first | exact .inl rfl | exact .inr rfl))) (dgs_cons (dg_name 12 (pg_name sc_law.nd rfl (by first | exact .inl rfl | exact .inr rfl))) dgs_nil)))) (fun _ _ _ _ _ => dts_nil) (fun _ _ _ _ _ => (de_var 12 (pv 12)))))) (by rfl)))))
 (dss_one (ds_ret de_bl)) dss_nil)
 (dss_cons (ds_for (passes_of rfl) rfl (di_range2 (by rfl) t.m_range (da_cons de_int (da_cons (de_callB cd_len mono_len (by rfl) t.m_len bt_len (dr_var 5 (pv 5))) da_nil))) (dg_name 6 (pg_name sc_law.nd rfl (by first | exact .inl rfl | exact .inr rfl)))
 (dss_one (ds_if (dt_cmp opD_leI mono_fC (dr_of (de_op opD_add mono_add (dr_of (de_op opD_add mono_add (dr_of (de_callB cd_len mono_len (by rfl) t.m_len bt_len (dr_of (de_ix (dr_var 5 (pv 5)) (dr_of (de_op opD_sub mono_fI (dr_var 6 (pv 6)) (dr_of de_int))))))) (dr_of de_int))) (dr_of (de_callB cd_len mono_len (by rfl) t.m_len bt_len (dr_of (de_ix (dr_of (de_fresh (df_split (de_ix (dr_var 5 (pv 5)) (dr_var 6 (pv 6))) de_str))) (dr_of de_int))))))) (dr_var 3 (pv 3)) (by rfl))
 (dss_one (ds_ret de_bl)) dss_nil)))
 (dss_cons (ds_for (passes_of rfl) rfl (di_tup (de_var 5 (pv 5))) (dg_name 7 (pg_name sc_law.nd rfl (by first | exact .inl rfl | exact .inr rfl)))
 (dss_cons (ds_set (i := 8) sc_law.nd rfl (by first | exact .inl rfl | exact .inr rfl) (de_call (ok_spread t) (mono_spread t w s (hr.mono (by decide))) (hr.mono (by decide)) (by rfl) t.g_spread t.f_spread.kp (bi_spread t) (takes_of rfl rfl rfl rfl) (dp_sh (de_var 7 (pv 7)) (dp_sh (de_var 3 (pv 3)) dp_nil))))
 (dss_cons (ds_par (i := 9) (j := 10) rfl sc_law.nd rfl rfl (by decide) rfl rfl (da_cons (de_fresh (df_lst da_nil)) (da_cons de_int da_nil)) (by rfl))
 (dss_cons (ds_for (passes_of rfl) rfl (di_range1 (by rfl) t.m_range (da_cons (de_callB cd_len mono_len (by rfl) t.m_len bt_len (dr_var 8 (pv 8))) da_nil)) (dg_name 6 (pg_name sc_law.nd rfl (by first | exact .inl rfl | exact .inr rfl)))
 (dss_one (ds_if (dt_cmp (opD_eq hr) mono_eq (dr_of (de_ix (dr_var 8 (pv 8)) (dr_var 6 (pv 6)))) (dr_of de_str) (by rfl))
 (dss_one (ds_set (i := 10) sc_law.nd rfl (by first | exact .inl rfl | exact .inr rfl) (de_op opD_add mono_add (dr_var 10 (pv 10)) (dr_of de_int)))) (dss_one (ds_if (dt_cmp opD_gtI mono_fC (dr_var 10 (pv 10)) (dr_of de_int) (by rfl))
 (dss_one (ds_par (i := 9) (j := 10) rfl sc_law.nd rfl rfl (by decide) rfl rfl (da_cons (de_fresh (df_op opF_cat mono_cat (dr_var 9 (pv 9)) (dr_of (de_fresh (df_lst (da_cons (de_var 10 (pv 10)) da_nil)))))) (da_cons de_int da_nil)) (by rfl))) dss_nil)))))
 (dss_cons (ds_if (dt_bool (dw_and (dt_cmp (opD_in hr) mono_in (dr_of de_str) (dr_var 7 (pv 7)) (by rfl)) (dw_and1 (dt_bool (dw_or (dt_cmp (opD_ne hr) mono_eq (dr_of (de_callB cd_len mono_len (by rfl) t.m_len bt_len (dr_var 8 (pv 8)))) (dr_var 3 (pv 3)) (by rfl)) (dw_or (dt_cmp opD_gtI mono_fC (dr_of (de_op opD_sub mono_fI (dr_of (de_callB (cd_max hr) mono_max (by rfl) t.m_max bt_max (dr_var 9 (pv 9)))) (dr_of (de_callB (cd_min hr) mono_min (by rfl) t.m_min bt_min (dr_var 9 (pv 9)))))) (dr_of de_int) (by rfl)) (dw_or1 (dt_cmp (opD_ne hr) mono_eq (dr_var 9 (pv 9)) (dr_of (de_fresh (df_lr (by rfl) (by rfl) t.m_list (by rfl) t.m_reversed (de_fresh (df_callB (cf_sorted hr) mono_sorted (by rfl) t.m_sorted bt_sorted (dr_var 9 (pv 9))))))) (by rfl)))))))))
 (dss_one (ds_ret de_bl)) dss_nil)
 (dss_cons (ds_if (dt_cmp (opD_ne hr) mono_eq (dr_of (de_fresh (df_lc (by rfl) sc_law.nd (di_list (de_fresh (df_split (de_var 8 (pv 8)) de_str))) (blk_by (own := [("word", 13)]) (by rfl)) (sl := [13]) (by decide) (fun _ _ _ _ _ => (dg_name 13 (pg_name sc_law.nd rfl (by first | exact .inl rfl | exact .inr rfl)))) (fun _ _ _ _ _ => (dts_one (dt_cmp (opD_ne hr) mono_eq (dr_var 13 (pv 13)) (dr_of de_str) (by rfl)))) (fun _ _ _ _ _ => (de_var 13 (pv 13)))))) (dr_of (de_fresh (df_split (de_var 7 (pv 7)) de_str))) (by rfl))
 (dss_one (ds_ret de_bl)) dss_nil)
 (dss_one (ds_if (dt_bool (dw_and (dt_cmp (opD_notIn hr) mono_in (dr_of de_str) (dr_var 7 (pv 7)) (by rfl)) (dw_and1 (dt_cmp (opD_ne hr) mono_eq (dr_var 8 (pv 8)) (dr_var 7 (pv 7)) (by rfl)))))
 (dss_one (ds_ret de_bl)) dss_nil))))))))
 (dss_cons (ds_if (dt_cmp (opD_ne hr) mono_eq (dr_of (de_told (hs := hsT a) (k := 28) (Ng := N__law_told) (by rfl) t.g__law_told t.f__law_told (bi__law_told t) sc__law_told (by rfl) (.inl (by rfl)) (told_gives3 t.apart (by rfl) t.x_NoWay.g (by decide) (by rfl) t.x_BadPlan.g (by decide) (by rfl) t.x_BadPaper.g (by decide) (fun _ => by rfl)) t.l_law (by rfl) t.lm_law t.lu_law t.ln_law hr (lamS_by (by rfl)) (by rfl) (fun _ _ _ _ _ => by rfl) (fun A outer s H E f c hrL => (de_call (ok_broken t) (mono_broken t w s (hrL.mono (by decide))) (hrL.mono (by decide)) (by rfl) t.g_broken t.f_broken.kp (bi_broken t) (takes_of rfl rfl rfl rfl) (dp_sh (de_fresh (df_lst (da_cons de_str da_nil))) (dp_sh de_int dp_nil)))))) (dr_of de_str) (by rfl))
 (dss_one (ds_ret de_bl)) dss_nil)
 (dss_one (ds_if (dt_cmp (opD_ne hr) mono_eq (dr_of (de_told (hs := hsT a) (k := 28) (Ng := N__law_told) (by rfl) t.g__law_told t.f__law_told (bi__law_told t) sc__law_told (by rfl) (.inl (by rfl)) (told_gives3 t.apart (by rfl) t.x_NoWay.g (by decide) (by rfl) t.x_BadPlan.g (by decide) (by rfl) t.x_BadPaper.g (by decide) (fun _ => by rfl)) t.l_law (by rfl) t.lm_law t.lu_law t.ln_law hr (lamS_by (by rfl)) (by rfl) (fun _ _ _ _ _ => by rfl) (fun A outer s H E f c hrL => (de_call (ok_spread t) (mono_spread t w s (hrL.mono (by decide))) (hrL.mono (by decide)) (by rfl) t.g_spread t.f_spread.kp (bi_spread t) (takes_of rfl rfl rfl rfl) (dp_sh de_str (dp_sh de_int dp_nil)))))) (dr_of de_str) (by rfl))
 (dss_one (ds_ret de_bl)) dss_nil))))))))))
end
section
variable {l : PySem.W.OpenLaw} {w : World} {K : PySem.W.Frag} {h : Heap} {mg : Str → Option Value} {q : Program} {fa : Addr}
/-- what the top has written -/
structure Fc (a : Ad) (K : PySem.W.Frag) : Prop where
  d_broken : DefF K "broken" s_broken a.f_broken a.c_broken a.d_broken
  d_filled : DefF K "filled" s_filled a.f_filled a.c_filled a.d_filled
  d_spread : DefF K "spread" s_spread a.f_spread a.c_spread a.d_spread
  d__law_dice : DefF K "_law_dice" s__law_dice a.f__law_dice a.c__law_dice a.d__law_dice
  d__law_roll : DefF K "_law_roll" s__law_roll a.f__law_roll a.c__law_roll a.d__law_roll
  d__law_rounds : DefF K "_law_rounds" s__law_rounds a.f__law_rounds a.c__law_rounds a.d__law_rounds
  d__law_told : DefF K "_law_told" s__law_told a.f__law_told a.c__law_told a.d__law_told
  d__law_ways : DefF K "_law_ways" s__law_ways a.f__law_ways a.c__law_ways a.d__law_ways
  d_law : DefF K "law" s_law a.f_law a.c_law a.d_law
  t_broken : TabF K a.c_broken a.p_broken
  t_filled : TabF K a.c_filled a.p_filled
  t_spread : TabF K a.c_spread a.p_spread
  t_law : TabF K a.c_law a.p_law
  x_NoWay : ExcF K "NoWay" a.x_NoWay
  xe_NoWay : PySem.W.excIn K a.x_NoWay [.type "ValueError", .type "Exception", .type "BaseException", .type "object"] "ValueError.__new__" = true
  x_BadPlan : ExcF K "BadPlan" a.x_BadPlan
  x_BadPaper : ExcF K "BadPaper" a.x_BadPaper
  m_abs : PySem.W.nsIn K mainGlobals "abs" = some none
  m_any : PySem.W.nsIn K mainGlobals "any" = some none
  m_enumerate : PySem.W.nsIn K mainGlobals "enumerate" = some none
  m_int : PySem.W.nsIn K mainGlobals "int" = some none
  m_len : PySem.W.nsIn K mainGlobals "len" = some none
  m_list : PySem.W.nsIn K mainGlobals "list" = some none
  m_max : PySem.W.nsIn K mainGlobals "max" = some none
  m_min : PySem.W.nsIn K mainGlobals "min" = some none
  m_range : PySem.W.nsIn K mainGlobals "range" = some none
  m_reversed : PySem.W.nsIn K mainGlobals "reversed" = some none
  m_sorted : PySem.W.nsIn K mainGlobals "sorted" = some none
  m_sum : PySem.W.nsIn K mainGlobals "sum" = some none
  m_tuple : PySem.W.nsIn K mainGlobals "tuple" = some none
  apart : Apart K [a.x_NoWay, a.x_BadPlan, a.x_BadPaper]
  off : ∀ p ∈ [a.p_broken, a.p_filled, a.p_spread], a.p_law ≠ p
def tb (a : Ad) : Tb := { tg := [a.p_broken, a.p_filled, a.p_spread], tl := [(a.p_law, (envOfC "law" (defScope s_law) 0 0 (.ref 0)).qual ++ "<lambda>")] }
def cs (a : Ad) : List (Addr × Addr) := [(a.c_broken, a.p_broken), (a.c_filled, a.p_filled), (a.c_spread, a.p_spread), (a.c_law, a.p_law)]
theorem tx_of {a : Ad} (F : Fc a K) (X : K.In h) (G : h.Ns mainGlobals mg) {base : Heap} (B : ∀ p ∈ cs a, LamX.TabB base mg p.1 p.2) (dc : List Addr) : Tx a K mg base { tb a with dc := dc } := {
  m_abs := PySem.W.mg_none_of X G F.m_abs
  m_any := PySem.W.mg_none_of X G F.m_any
  m_enumerate := PySem.W.mg_none_of X G F.m_enumerate
  m_int := PySem.W.mg_none_of X G F.m_int
  m_len := PySem.W.mg_none_of X G F.m_len
  m_list := PySem.W.mg_none_of X G F.m_list
  m_max := PySem.W.mg_none_of X G F.m_max
  m_min := PySem.W.mg_none_of X G F.m_min
  m_range := PySem.W.mg_none_of X G F.m_range
  m_reversed := PySem.W.mg_none_of X G F.m_reversed
  m_sorted := PySem.W.mg_none_of X G F.m_sorted
  m_sum := PySem.W.mg_none_of X G F.m_sum
  m_tuple := PySem.W.mg_none_of X G F.m_tuple
  f_broken := F.d_broken.F
  g_broken := PySem.W.mg_of X G F.d_broken.ns
  t_broken := gxTab (B (a.c_broken, a.p_broken) (by simp [cs]))
  tm_broken := by simp [tb]
  tn_broken := by
    intro p hp
    have := F.off a.p_broken (by simp)
    simp only [tb, List.mem_cons, List.not_mem_nil, or_false] at hp
    rcases hp with rfl
    · exact this
  f_filled := F.d_filled.F
  g_filled := PySem.W.mg_of X G F.d_filled.ns
  t_filled := gxTab (B (a.c_filled, a.p_filled) (by simp [cs]))
  tm_filled := by simp [tb]
  tn_filled := by
    intro p hp
    have := F.off a.p_filled (by simp)
    simp only [tb, List.mem_cons, List.not_mem_nil, or_false] at hp
    rcases hp with rfl
    · exact this
  f_spread := F.d_spread.F
  g_spread := PySem.W.mg_of X G F.d_spread.ns
  t_spread := gxTab (B (a.c_spread, a.p_spread) (by simp [cs]))
  tm_spread := by simp [tb]
  tn_spread := by
    intro p hp
    have := F.off a.p_spread (by simp)
    simp only [tb, List.mem_cons, List.not_mem_nil, or_false] at hp
    rcases hp with rfl
    · exact this
  f__law_dice := F.d__law_dice.F
  g__law_dice := PySem.W.mg_of X G F.d__law_dice.ns
  f__law_roll := F.d__law_roll.F
  g__law_roll := PySem.W.mg_of X G F.d__law_roll.ns
  f__law_rounds := F.d__law_rounds.F
  g__law_rounds := PySem.W.mg_of X G F.d__law_rounds.ns
  f__law_told := F.d__law_told.F
  g__law_told := PySem.W.mg_of X G F.d__law_told.ns
  f__law_ways := F.d__law_ways.F
  g__law_ways := PySem.W.mg_of X G F.d__law_ways.ns
  f_law := F.d_law.F
  g_law := PySem.W.mg_of X G F.d_law.ns
  l_law := B (a.c_law, a.p_law) (by simp [cs])
  lm_law := by simp [tb]
  lu_law := fun p hp e => by
    simp only [tb, List.mem_cons, List.not_mem_nil, or_false] at hp
    rw [hp]
  ln_law := fun z => by
    have := F.off a.p_law z
    simp at this
  x_NoWay := ⟨PySem.W.mg_of X G F.x_NoWay.ns, F.x_NoWay.kp, F.x_NoWay.sub, F.x_NoWay.ty⟩
  xe_NoWay := F.xe_NoWay
  x_BadPlan := ⟨PySem.W.mg_of X G F.x_BadPlan.ns, F.x_BadPlan.kp, F.x_BadPlan.sub, F.x_BadPlan.ty⟩
  x_BadPaper := ⟨PySem.W.mg_of X G F.x_BadPaper.ns, F.x_BadPaper.kp, F.x_BadPaper.sub, F.x_BadPaper.ty⟩
  apart := F.apart }
theorem law_at {a : Ad} (F : Fc a K) (X : K.In h) (G : h.Ns mainGlobals mg) (hl : l.prog = PySem.Challenge.pw_museum_k08_labels_in_lines) (hfa : mg "law" = some (.ref fa)) (tabs : ∀ (y : Str) (f : Addr), ((recsOf q).any fun e => e.name == y) = true → mg y = some (.ref f) → LamX.OwnTab K f h)
    (hq : ∀ y ∈ [("broken" : Str), ("filled" : Str), ("spread" : Str), ("law" : Str)], ((recsOf q).any fun e => e.name == y) = true)
    (pure_law : ∀ ns : List Int, ns.length ≤ 63 → i_law a (.scr ns :: uns (N_law.length - 1)) (fun d => ∃ ds, d = .list ds ∧ Triples ds ∧ u_law a ((uns N_law.length).set 1 .dice) (lawEnd N_law.length)) (fun _ => False)) :
    LamX.LawAtS l w K (L2.CX l.prog w) 31 63 "script" mg fa h := by
  have e := hfa.symm.trans (PySem.W.mg_of X G F.d_law.ns)
  cases e
  refine ⟨a.d_law, cs a, fun vs H Q _ => ∃ (b : Addr) (ns : List Int), vs = [.ref b] ∧ ns.length ≤ 63 ∧ SqL K H b (ns.map V.int) ∧ TOk (tb a) H ∧ ∀ H', Q (.bl true) H', fun p hp => ?_, fun p hp => ?_, fun p hp => ?_, fun s u => ?_, fun H b ns hn _ hc hS => ⟨b, ns, rfl, hn, hS, ⟨fun P hP => ?_, fun p hp => ?_⟩, fun _ => rfl⟩, fun base Kb Gb B => ?_⟩
  · simp only [cs, List.mem_cons, List.not_mem_nil, or_false] at hp
    rcases hp with rfl | rfl | rfl | rfl
    · exact F.t_broken.empty F.d_broken.F (tabs "broken" _ (hq _ (by simp)) (PySem.W.mg_of X G F.d_broken.ns))
    · exact F.t_filled.empty F.d_filled.F (tabs "filled" _ (hq _ (by simp)) (PySem.W.mg_of X G F.d_filled.ns))
    · exact F.t_spread.empty F.d_spread.F (tabs "spread" _ (hq _ (by simp)) (PySem.W.mg_of X G F.d_spread.ns))
    · exact F.t_law.empty F.d_law.F (tabs "law" _ (hq _ (by simp)) (PySem.W.mg_of X G F.d_law.ns))
  · simp only [cs, List.mem_cons, List.not_mem_nil, or_false] at hp
    rcases hp with rfl | rfl | rfl | rfl
    · exact F.t_broken.out
    · exact F.t_filled.out
    · exact F.t_spread.out
    · exact F.t_law.out
  · simp only [cs, List.mem_cons, List.not_mem_nil, or_false] at hp
    rcases hp with rfl | rfl | rfl | rfl
    · exact PySem.W.codeHd_of_K X F.t_broken.hd
    · exact PySem.W.codeHd_of_K X F.t_filled.hd
    · exact PySem.W.codeHd_of_K X F.t_spread.hd
    · exact PySem.W.codeHd_of_K X F.t_law.hd
  · obtain ⟨oc, od, kV, doc, pm, an, ct, osl, e, _, _⟩ := F.d_law.F.ex
    rw [e]
    exact .of_eq rfl
  · refine ⟨#[], ?_, trivial⟩
    simp only [tb, List.mem_cons, List.not_mem_nil, or_false] at hP
    rcases hP with rfl | rfl | rfl
    · exact hc (a.c_broken, a.p_broken) (by simp [cs])
    · exact hc (a.c_filled, a.p_filled) (by simp [cs])
    · exact hc (a.c_spread, a.p_spread) (by simp [cs])
  · simp only [tb, List.mem_cons, List.not_mem_nil, or_false] at hp
    rcases hp with rfl
    · exact LamX.TabS.nil (hc (a.c_law, a.p_law) (by simp [cs]))
  · have t := fun dc => tx_of F X G B dc
    rw [hl]
    exact law_okD (T := tb a) (k := 30) (i := 1) (wi := i_law a) (bw := u_law a) F.d_law.F sc_law (by decide) (by decide) rfl rfl (fun A outer s H E hr => di_law (t []) A outer s H E hr) (fun A outer s H E => pg_name sc_law.nd rfl (by first | exact .inl rfl | exact .inr rfl)) (fun A outer s H E dc hr => dd_law (t dc) A outer s H E hr) (fun _ _ _ _ _ _ => rfl) pure_law
end
end M8
set_option Elab.async false
set_option linter.all false
set_option maxRecDepth 100000
set_option maxHeartbeats 1000000
namespace M8
open PySem PySem.Spec PyProof.Rows L2 PL
theorem sz3 : 3 ≤ sizeLine := by rw [sizeLine_eq]; decide
theorem p_dice (a : Ad) (c : Int) (Q : PyData → Prop) (E : Exn → Prop) (h : ∀ x y z : Int, Q (.list [.int x, .int y, .int z])) : c__law_dice a [.sh (.int c)] Q E := by
  have s3 := sz3
  show u__law_dice a [.sh (.int c)] _
  simp only [u__law_dice, sSeq, sIf, sRet, sNil, wT, wCh, w2, wC, wVar, wRd, fC, fI, wLst, wCons, wNil, w1, fAbs, fAdd, fInt, CT, List.getElem?_cons_zero]
  refine ⟨trivial, ?_⟩
  have last : CPow 10 18 ∧ ([PyData.int c, PyData.int (1 + c % 1009), PyData.int (if (decide ((10:Int) ^ Int.toNat 18 ≤ c)) = true then 1 else 0)].length ≤ sizeLine ∧ Q (.list [.int c, .int (1 + c % 1009), .int (if (decide ((10:Int) ^ Int.toNat 18 ≤ c)) = true then 1 else 0)])) := ⟨⟨by decide, by decide, by decide⟩, s3, h _ _ _⟩
  by_cases e1 : (0:Int) - 10 < c
  · simp only [decide_eq_true e1]
    by_cases e2 : c < (10:Int)
    · simp only [decide_eq_true e2, if_true]
      exact ⟨s3, h _ _ _⟩
    · simp only [decide_eq_false e2]
      exact ⟨by decide, last⟩
  · simp only [decide_eq_false e1]
    exact ⟨by decide, last⟩
theorem p_roll (a : Ad) (n : Int) (Q : PyData → Prop) (E : Exn → Prop) (h0 : 0 < n) (h1 : n < 1073741824) (h : ∀ r : Int, 0 ≤ r → r < n → Q (.int r)) : c__law_roll a [.dice, .sh (.int n)] Q E := by
  show u__law_roll a [.dice, .sh (.int n), .un] _
  have hm : ∀ x : Int, Q (.int (x % n)) := fun x => h _ (Int.emod_nonneg _ (by omega)) (Int.emod_lt_of_pos _ h0)
  have pl : ∀ i : Int, Pl (.int i) := fun i => ⟨rfl, Nat.zero_le _⟩
  have rest : sSeq (sDst 0 2 (wC (.int 0))) (sSeq (sDst 0 0 (w2 (fI (fun _ j => 0 < j) fun i j => i % j) (w1 fInt (w2 fAdd (w2 fAdd (w2 fMul (wDix 0 0) (wC (.int 48271))) (w2 fMul (wDix 0 1) (wC (.int 69621)))) (wC (.int 11)))) (wC (.int 2147483647))))
      (sSeq (sDst 0 1 (w2 fAdd (wDix 0 1) (wC (.int 1)))) (sRet (w2 (fI (fun _ j => 0 < j) fun i j => i % j) (w1 fInt (w2 fAdd (w2 (fI CDiv fun i j => i / j) (wDix 0 0) (wC (.int 7))) (wDix 0 0))) (wRd 1))))) [.dice, .sh (.int n), .un] { nx := fun _ => Q .none, rt := Q, ex := E } := by
    refine ⟨rfl, by decide, rfl, by decide, rfl, by decide, fun x => ⟨.inr ⟨by decide, by decide⟩, ?_⟩⟩
    refine ⟨rfl, by decide, fun y => ⟨.inr ⟨by decide, by decide⟩, ?_⟩⟩
    refine ⟨(by decide : (0:Int) < 2147483647), rfl, by decide, rfl, by decide, fun z => ?_⟩
    refine ⟨rfl, by decide, fun u => ⟨⟨by decide, by decide⟩, ?_⟩⟩
    exact ⟨rfl, by decide, fun v => ⟨h0, hm _⟩⟩
  refine ⟨rfl, by decide, fun x => ⟨⟨pl _, pl _⟩, ?_⟩⟩
  have first : ∀ D, sSeq (sSet 2 (w2 (fI (fun _ j => 0 < j) fun i j => i % j) (w1 fInt (wDix 0 0)) (wRd 1))) (sSeq (sDst 0 0 (w2 (fI CDiv fun i j => i / j) (wDix 0 0) (wRd 1))) (sRet (wVar 2))) [.dice, .sh (.int n), .un] { nx := D, rt := Q, ex := E } := fun D =>
    ⟨rfl, by decide, fun y => ⟨h0, rfl, by decide, rfl, by decide, fun z => ⟨⟨h0, h1⟩, hm _⟩⟩⟩
  by_cases e : PyData.eqv (.int x) (.int 2) = true
  · rw [if_neg (by decide), e]
    exact first _
  · rw [if_neg (by decide), Bool.eq_false_iff.mpr e]
    refine ⟨rfl, by decide, fun y => ⟨⟨pl _, pl _⟩, ?_⟩⟩
    by_cases e' : PyData.eqv (.int y) (.int 1) = true
    · rw [if_neg (by decide), e']
      refine ⟨rfl, by decide, fun z => ?_⟩
      by_cases e'' : 0 < z
      · show if decide (0 < z) = true then _ else _
        rw [if_pos (decide_eq_true e'')]
        exact first _
      · show if decide (0 < z) = true then _ else _
        rw [if_neg (by rw [decide_eq_false e'']; decide)]
        exact rest
    · rw [if_neg (by decide), Bool.eq_false_iff.mpr e']
      exact rest
theorem plainAll_ints : ∀ ns : List Int, PyData.plainAll (ns.map .int) = true
  | [] => rfl
  | n :: r => by
    show (PyData.plain (.int n) && PyData.plainAll (r.map .int)) = true
    rw [plainAll_ints r]
    rfl
theorem depthAll_ints : ∀ ns : List Int, PyData.depthAll (ns.map .int) ≤ 1
  | [] => Nat.zero_le _
  | n :: r => by
    have := depthAll_ints r
    simp only [List.map_cons, PyData.depthAll, PyData.depth]
    omega
theorem Pl_ints (ns : List Int) : Pl (.list (ns.map .int)) := ⟨plainAll_ints ns, by
  have := depthAll_ints ns
  simp only [PyData.depth]
  omega⟩
theorem cutD_map (ns : List Int) (lo hi : Option Int) : ∃ ms : List Int, PL.cutD (ns.map .int) lo hi = ms.map .int ∧ ms.length ≤ ns.length := by
  unfold PL.cutD
  rw [← List.map_drop, ← List.map_take]
  exact ⟨_, rfl, by rw [List.length_take, List.length_drop]; omega⟩
theorem lc_dice (a : Ad) {ρw : En} {ns : List Int} {x y : PyData} (hρ : ρw = [.scr ns, .sh x, .sh y, .un]) (Q : List PyData → Prop) (h : ∀ ds, Triples ds → Q ds) : ∀ (ms : List Int) (acc : List PyData), Triples acc → acc.length + ms.length < 1000 →
    goLc (gNameD 3) wYes (wCall 1 (c__law_dice a) (wpSh (wVar 3) wpNil)) ρw (ms.map .int) acc Q
  | [], acc, t, _ => h acc t
  | m :: r, acc, t, hl => by
    subst hρ
    rw [List.length_cons] at hl
    refine ⟨rfl, p_dice a m _ _ fun x y z => ⟨?_, lc_dice a rfl Q h r _ (fun d hd => ?_) ?_⟩⟩
    · rw [sizeLine_eq]; omega
    · rcases List.mem_append.mp hd with hd | hd
      · exact t d hd
      · rw [List.mem_singleton.mp hd]; exact ⟨x, y, z, rfl⟩
    · rw [List.length_append]
      simp only [List.length_cons, List.length_nil]
      omega
theorem p_rounds (a : Ad) (ns : List Int) (k : Int) (hn : ns.length ≤ 63) (Q : PyData → Prop) (E : Exn → Prop) (h : ∀ ds, Triples ds → Q (.list ds)) : c__law_rounds a [.scr ns, .sh (.int k)] Q E := by
  show u__law_rounds a [.scr ns, .sh (.int k), .un, .un] _
  obtain ⟨ms, e, hm⟩ := cutD_map ns none (some k)
  have fin : ∀ ms : List Int, ms.length ≤ 63 → sRet (wLc (wItL (wVar 2)) (gNameD 3) wYes (wCall 1 (c__law_dice a) (wpSh (wVar 3) wpNil)) [3]) [.scr ns, .sh (.int k), .sh (.list (ms.map .int)), .un] { nx := fun _ => Q .none, rt := Q, ex := E } := fun ms hm => by
    refine ⟨fun i hi s hs => ?_, lc_dice a rfl _ h ms [] (fun d hd => by cases hd) (by simp only [List.length_nil]; omega)⟩
    rw [List.mem_singleton.mp hi] at hs
    cases hs
    rfl
  have rest : sSeq (sIf (wT (w2 (fEq false) (wRd 2) (wLst wNil))) (sSet 2 (wLst (wCons (wC (.int 0)) wNil))) sNil) (sRet (wLc (wItL (wVar 2)) (gNameD 3) wYes (wCall 1 (c__law_dice a) (wpSh (wVar 3) wpNil)) [3]))
      [.scr ns, .sh (.int k), .sh (.list (ms.map .int)), .un] { nx := fun _ => Q .none, rt := Q, ex := E } := by
    refine ⟨Nat.zero_le _, ⟨Pl_ints ms, Pl_ints []⟩, ?_⟩
    show if PyData.eqv (.list (ms.map .int)) (.list []) = true then _ else _
    by_cases c : PyData.eqv (.list (ms.map .int)) (.list []) = true
    · rw [if_pos c]
      exact ⟨by rw [sizeLine_eq]; decide, fin [0] (by decide)⟩
    · rw [if_neg c]
      exact fin ms (by omega)
  rw [← e] at rest
  exact ⟨ns, rfl, rest⟩
end M8
set_option Elab.async false
set_option linter.all false
set_option maxRecDepth 100000
set_option maxHeartbeats 1000000
/-! the mathematics of lines -/
namespace M8
open PySem PySem.W
abbrev sp : Str := " "
abbrev line (ch : List Str) : Str := Txt.join sp ch
def tot : List Str → Nat
  | [] => 0
  | w :: r => w.length + 1 + tot r
theorem tot_app (a b : List Str) : tot (a ++ b) = tot a + tot b := by
  induction a with
  | nil => simp [tot]
  | cons w r ih => rw [List.cons_append, tot, tot, ih]; omega
theorem tot_pos {ch : List Str} (h : ch ≠ []) : 0 < tot ch := by
  cases ch with
  | nil => exact absurd rfl h
  | cons w r => rw [tot]; omega
theorem tl_sp : TL.tl sp = [32] := by decide +kernel
theorem tl_line (ch : List Str) : TL.tl (line ch) = TL.joinL [32] (ch.map TL.tl) := by
  show TL.tl (Txt.join sp ch) = _
  rw [TL.join_eq, TL.tl_join, tl_sp]
theorem line_len : ∀ {ch : List Str}, ch ≠ [] → (line ch).length + 1 = tot ch := by
  intro ch h
  rw [TL.len_tl, tl_line]
  induction ch with
  | nil => exact absurd rfl h
  | cons w r ih =>
    cases r with
    | nil => simp [TL.joinL, tot, TL.len_tl]
    | cons u t =>
      have := ih (by simp)
      simp only [List.map_cons, TL.joinL, List.length_append, List.length_cons, List.length_nil, tot] at this ⊢
      rw [TL.len_tl]
      omega
theorem line_one (w : Str) : line [w] = w := by
  apply TL.ext_tl
  rw [tl_line]
  rfl
abbrev R := Int × Tup Str
def cst (wide : Int) (l : Str) : Int := (wide - l.length) * (wide - l.length)
def fit (wide : Int) (ch : List Str) : Prop := ch ≠ [] ∧ ((line ch).length : Int) ≤ wide
def Sol (wide : Int) (ws : List Str) (r : R) : Prop := ∃ cs : List (List Str), cs.flatten = ws ∧ (∀ ch ∈ cs, fit wide ch) ∧ r = ((cs.dropLast.map fun ch => cst wide (line ch)).sum, ⟨cs.map line⟩)
def Pre (wide : Int) (ws : List Str) (r : R) : Prop := ∃ cs : List (List Str), cs.flatten = ws ∧ (∀ ch ∈ cs, fit wide ch) ∧ r = ((cs.map fun ch => cst wide (line ch)).sum, ⟨cs.map line⟩)
def grow (wide : Int) (l : Str) (r : R) : R := (r.1 + (if r.2.items = [] then 0 else cst wide l), ⟨l :: r.2.items⟩)
def ways (wide : Int) : Nat → List Str → List R
  | 0, _ => []
  | n + 1, ws => if ws = [] then [(0, ⟨[]⟩)] else (List.range ws.length).flatMap fun i => if ((line (ws.take (i + 1))).length : Int) ≤ wide then (ways wide n (ws.drop (i + 1))).map (grow wide (line (ws.take (i + 1)))) else []
theorem sol_nil {wide : Int} {r : R} : Sol wide [] r ↔ r = (0, ⟨[]⟩) := by
  constructor
  · rintro ⟨cs, h1, h2, rfl⟩
    cases cs with
    | nil => rfl
    | cons c t => exact absurd (List.append_eq_nil_iff.mp h1).1 (h2 c List.mem_cons_self).1
  · rintro rfl
    exact ⟨[], rfl, (fun ch h => by cases h), rfl⟩
theorem sol_cons {wide : Int} {ws : List Str} (hw : ws ≠ []) {r : R} : Sol wide ws r ↔ ∃ i, i < ws.length ∧ ((line (ws.take (i + 1))).length : Int) ≤ wide ∧ ∃ r', Sol wide (ws.drop (i + 1)) r' ∧ r = grow wide (line (ws.take (i + 1))) r' := by
  constructor
  · rintro ⟨cs, h1, h2, rfl⟩
    cases cs with
    | nil => exact absurd h1.symm hw
    | cons c t =>
      have hc := h2 c List.mem_cons_self
      have hl : 0 < c.length := List.length_pos_iff.mpr hc.1
      have e1 : ws.take (c.length - 1 + 1) = c := by rw [← h1, Nat.sub_add_cancel hl]; simp
      have e2 : ws.drop (c.length - 1 + 1) = t.flatten := by rw [← h1, Nat.sub_add_cancel hl]; simp
      refine ⟨c.length - 1, ?_, by rw [e1]; exact hc.2, ((t.dropLast.map fun ch => cst wide (line ch)).sum, ⟨t.map line⟩), ⟨t, by rw [e2], fun ch h => h2 ch (List.mem_cons_of_mem _ h), rfl⟩, ?_⟩
      · rw [← h1, List.flatten_cons, List.length_append]; omega
      · rw [e1, grow]
        cases t with
        | nil => simp
        | cons u v => simp [Int.add_comm]
  · rintro ⟨i, hi, hf, r', ⟨cs, h1, h2, rfl⟩, rfl⟩
    refine ⟨ws.take (i + 1) :: cs, by rw [List.flatten_cons, h1, List.take_append_drop], fun ch h => ?_, ?_⟩
    · rcases List.mem_cons.mp h with rfl | h
      · exact ⟨fun z => by have := congrArg List.length z; rw [List.length_take, List.length_nil] at this; omega, hf⟩
      · exact h2 ch h
    · rw [grow]
      cases cs with
      | nil => simp
      | cons u v => simp [Int.add_comm]
theorem mem_ways {wide : Int} : ∀ {n : Nat} {ws : List Str} {r : R}, ws.length < n → (r ∈ ways wide n ws ↔ Sol wide ws r)
  | 0, ws, r, h => by omega
  | n + 1, ws, r, h => by
    rw [ways]
    by_cases hw : ws = []
    · rw [if_pos hw, hw, sol_nil, List.mem_singleton]
    · rw [if_neg hw, sol_cons hw, List.mem_flatMap]
      constructor
      · rintro ⟨i, hi, hr⟩
        rw [List.mem_range] at hi
        split at hr
        · rename_i hf
          obtain ⟨r', hr', rfl⟩ := List.mem_map.mp hr
          exact ⟨i, hi, hf, r', (mem_ways (by rw [List.length_drop]; omega)).mp hr', rfl⟩
        · cases hr
      · rintro ⟨i, hi, hf, r', hr', rfl⟩
        refine ⟨i, List.mem_range.mpr hi, ?_⟩
        rw [if_pos hf]
        exact List.mem_map.mpr ⟨r', (mem_ways (by rw [List.length_drop]; omega)).mpr hr', rfl⟩
/-! ### order -/
structure Lin {α : Type} (lt : α → α → Bool) : Prop where
  irr : ∀ a, lt a a = false
  tra : ∀ a b c, lt a b = true → lt b c = true → lt a c = true
  tri : ∀ a b, lt a b = false → lt b a = false → a = b
theorem lin_int : Lin (DatumOrd.lt (α := Int)) := ⟨fun a => decide_eq_false (by omega), fun a b c h1 h2 => decide_eq_true (by have := of_decide_eq_true h1; have := of_decide_eq_true h2; omega), fun a b h1 h2 => by have := of_decide_eq_false h1; have := of_decide_eq_false h2; omega⟩
theorem lin_str : Lin (DatumOrd.lt (α := Str)) := by
  refine ⟨fun a => decide_eq_false (List.lt_irrefl _), fun a b c h1 h2 => decide_eq_true (List.lt_trans (of_decide_eq_true h1) (of_decide_eq_true h2)), fun a b h1 h2 => ?_⟩
  have h1 := of_decide_eq_false h1
  have h2 := of_decide_eq_false h2
  exact TL.ext_tl (List.le_antisymm (List.not_lt.mp h2) (List.not_lt.mp h1))
section
variable {α β : Type} [DecidableEq α] [DatumOrd α] [DecidableEq β] [DatumOrd β]
theorem lin_list (L : Lin (DatumOrd.lt (α := α))) : Lin (listLt (α := α)) := by
  refine ⟨fun a => ?_, fun a b c h1 h2 => ?_, fun a b h1 h2 => ?_⟩
  · induction a with
    | nil => rfl
    | cons x r ih => rw [listLt, if_pos rfl]; exact ih
  · induction a generalizing b c with
    | nil =>
      cases b with
      | nil => cases h1
      | cons y s => cases c with
        | nil => cases h2
        | cons z t => rfl
    | cons x r ih =>
      cases b with
      | nil => cases h1
      | cons y s => cases c with
        | nil => cases h2
        | cons z t =>
          rw [listLt] at h1 h2 ⊢
          by_cases e1 : x = y
          · subst e1
            rw [if_pos rfl] at h1
            by_cases e2 : x = z
            · rw [if_pos e2] at h2 ⊢; exact ih _ _ h1 h2
            · rw [if_neg e2] at h2 ⊢; exact h2
          · rw [if_neg e1] at h1
            by_cases e2 : y = z
            · subst e2; rw [if_neg e1]; exact h1
            · rw [if_neg e2] at h2
              have h3 := L.tra _ _ _ h1 h2
              have : x ≠ z := fun e => by rw [e, L.irr] at h3; cases h3
              rw [if_neg this]; exact h3
  · induction a generalizing b with
    | nil => cases b with
      | nil => rfl
      | cons y s => cases h1
    | cons x r ih => cases b with
      | nil => cases h2
      | cons y s =>
        rw [listLt] at h1 h2
        by_cases e : x = y
        · subst e
          rw [if_pos rfl] at h1 h2
          rw [ih _ h1 h2]
        · rw [if_neg e] at h1
          rw [if_neg (Ne.symm e)] at h2
          exact absurd (L.tri _ _ h1 h2) e
theorem lin_tup (L : Lin (DatumOrd.lt (α := α))) : Lin (DatumOrd.lt (α := Tup α)) := by
  have M := lin_list L
  refine ⟨fun a => M.irr _, fun a b c => M.tra _ _ _, fun a b h1 h2 => ?_⟩
  have := M.tri _ _ h1 h2
  cases a; cases b
  exact congrArg Tup.mk this
theorem lin_pair (L : Lin (DatumOrd.lt (α := α))) (M : Lin (DatumOrd.lt (α := β))) : Lin (DatumOrd.lt (α := α × β)) := by
  have e : ∀ p q : α × β, DatumOrd.lt p q = if p.1 = q.1 then DatumOrd.lt p.2 q.2 else DatumOrd.lt p.1 q.1 := fun _ _ => rfl
  refine ⟨fun a => by rw [e, if_pos rfl]; exact M.irr _, fun a b c h1 h2 => ?_, fun a b h1 h2 => ?_⟩
  · rw [e] at h1 h2 ⊢
    by_cases e1 : a.1 = b.1
    · rw [if_pos e1] at h1
      rw [e1]
      by_cases e2 : b.1 = c.1
      · rw [if_pos e2] at h2 ⊢; exact M.tra _ _ _ h1 h2
      · rw [if_neg e2] at h2 ⊢; exact h2
    · rw [if_neg e1] at h1
      by_cases e2 : b.1 = c.1
      · rw [← e2, if_neg e1]; exact h1
      · rw [if_neg e2] at h2
        have h3 := L.tra _ _ _ h1 h2
        have : a.1 ≠ c.1 := fun z => by rw [z, L.irr] at h3; cases h3
        rw [if_neg this]; exact h3
  · rw [e] at h1 h2
    by_cases e1 : a.1 = b.1
    · rw [if_pos e1] at h1
      rw [if_pos e1.symm] at h2
      exact Prod.ext e1 (M.tri _ _ h1 h2)
    · rw [if_neg e1] at h1
      rw [if_neg (Ne.symm e1)] at h2
      exact absurd (L.tri _ _ h1 h2) e1
/-- b is least in S -/
def IsMin (S : α → Prop) (b : α) : Prop := S b ∧ ∀ y, S y → DatumOrd.lt y b = false
theorem IsMin.uniq (L : Lin (DatumOrd.lt (α := α))) {S : α → Prop} {a b : α} (h1 : IsMin S a) (h2 : IsMin S b) : a = b := L.tri _ _ (h2.2 _ h1.1) (h1.2 _ h2.1)
theorem minOf_isMin (L : Lin (DatumOrd.lt (α := α))) (x : α) (xs : List α) : IsMin (fun y => y ∈ x :: xs) (minOf x xs) := by
  unfold minOf
  induction xs generalizing x with
  | nil => exact ⟨List.mem_cons_self, fun y hy => by rw [List.mem_singleton.mp hy]; exact L.irr _⟩
  | cons z r ih =>
    rw [List.foldl_cons]
    by_cases c : DatumOrd.lt z x = true
    · rw [if_pos c]
      obtain ⟨h1, h2⟩ := ih z
      refine ⟨List.mem_cons_of_mem _ h1, fun y hy => ?_⟩
      rcases List.mem_cons.mp hy with rfl | hy
      · have hz := h2 z List.mem_cons_self
        cases h : DatumOrd.lt y _ with
        | false => rfl
        | true => rw [L.tra _ _ _ c h] at hz; cases hz
      · exact h2 y hy
    · rw [if_neg c]
      obtain ⟨h1, h2⟩ := ih x
      refine ⟨?_, fun y hy => ?_⟩
      · rcases List.mem_cons.mp h1 with h | h
        · rw [h]; exact List.mem_cons_self
        · exact List.mem_cons_of_mem _ (List.mem_cons_of_mem _ h)
      · rcases List.mem_cons.mp hy with rfl | hy
        · exact h2 _ List.mem_cons_self
        rcases List.mem_cons.mp hy with rfl | hy
        · have hx := h2 x List.mem_cons_self
          cases h : DatumOrd.lt y _ with
          | false => rfl
          | true =>
            by_cases e : DatumOrd.lt x y = true
            · rw [L.tra _ _ _ e h] at hx; cases hx
            · have exy := L.tri _ _ (Bool.eq_false_iff.mpr e) (Bool.eq_false_iff.mpr c)
              subst exy
              rw [hx] at h; cases h
        · exact h2 y (List.mem_cons_of_mem _ hy)
theorem IsMin.congr {S S' : α → Prop} {b : α} (h : ∀ y, S y ↔ S' y) (m : IsMin S b) : IsMin S' b := ⟨(h _).mp m.1, fun y hy => m.2 y ((h y).mpr hy)⟩
end
theorem lin_R : Lin (DatumOrd.lt (α := R)) := lin_pair lin_int (lin_tup lin_str)
/-! ### the table of the best -/
def put (m : Int) (t : Str) (r : R) : R := (r.1 + m, ⟨r.2.items ++ [t]⟩)
theorem tot_lines : ∀ {cs : List (List Str)}, (∀ ch ∈ cs, ch ≠ []) → tot (cs.map line) = tot cs.flatten
  | [], _ => rfl
  | c :: t, h => by
    rw [List.map_cons, tot, List.flatten_cons, tot_app, tot_lines fun ch hc => h ch (List.mem_cons_of_mem _ hc), line_len (h c List.mem_cons_self)]
theorem listLt_app (t : Str) : ∀ l1 l2 : List Str, tot l1 = tot l2 → listLt (l1 ++ [t]) (l2 ++ [t]) = listLt l1 l2
  | [], [], _ => by rw [List.nil_append]; exact (lin_list lin_str).irr _
  | [], y :: s, h => by rw [tot, tot] at h; omega
  | x :: r, [], h => by rw [tot, tot] at h; omega
  | x :: r, y :: s, h => by
    rw [List.cons_append, List.cons_append, listLt, listLt]
    by_cases e : x = y
    · subst e
      rw [tot, tot] at h
      rw [if_pos rfl, if_pos rfl]
      exact listLt_app t r s (by omega)
    · rw [if_neg e, if_neg e]
theorem put_lt {m : Int} {t : Str} {a b : R} (h : tot a.2.items = tot b.2.items) : DatumOrd.lt (put m t a) (put m t b) = DatumOrd.lt a b := by
  show (if a.1 + m = b.1 + m then listLt (a.2.items ++ [t]) (b.2.items ++ [t]) else decide (a.1 + m < b.1 + m)) = (if a.1 = b.1 then listLt a.2.items b.2.items else decide (a.1 < b.1))
  by_cases e : a.1 = b.1
  · rw [if_pos e, if_pos (by rw [e]), listLt_app t _ _ h]
  · rw [if_neg e, if_neg (by omega)]
    exact decide_eq_decide.mpr (by omega)
theorem pre_tot {wide : Int} {ws : List Str} {r : R} (h : Pre wide ws r) : tot r.2.items = tot ws := by
  obtain ⟨cs, h1, h2, rfl⟩ := h
  rw [← h1]
  exact tot_lines fun ch hc => (h2 ch hc).1
theorem le_of {α : Type} {lt : α → α → Bool} (L : Lin lt) {y p b : α} (h1 : lt y p = false) (h2 : lt p b = false) : lt y b = false := by
  cases h : lt y b with
  | false => rfl
  | true =>
    cases e : lt p y with
    | true => rw [L.tra _ _ _ e h] at h2; cases h2
    | false => rw [L.tri _ _ h1 e] at h; rw [h2] at h; cases h
/-- words[i:j] -/
def seg (ws : List Str) (i j : Nat) : List Str := (ws.drop i).take (j - i)
theorem take_seg {ws : List Str} {i j : Nat} (h : i ≤ j) : ws.take i ++ seg ws i j = ws.take j := by
  unfold seg
  rw [← List.take_add]
  congr 1
  omega
theorem seg_ne {ws : List Str} {i j : Nat} (h : i < j) (hj : j ≤ ws.length) : seg ws i j ≠ [] := fun z => by
  have := congrArg List.length z
  rw [seg, List.length_take, List.length_drop, List.length_nil] at this
  omega
/-- the last line apart -/
theorem snoc_cases {ws : List Str} {j : Nat} (hj : j ≤ ws.length) (h0 : 0 < j) {cs : List (List Str)} (h1 : cs.flatten = ws.take j) (hne : ∀ ch ∈ cs, ch ≠ []) : ∃ cs' i, i < j ∧ cs = cs' ++ [seg ws i j] ∧ cs'.flatten = ws.take i := by
  rcases List.eq_nil_or_concat cs with rfl | ⟨t, c, rfl⟩
  · have := congrArg List.length h1
    rw [List.flatten_nil, List.length_nil, List.length_take] at this
    omega
  · rw [List.concat_eq_append] at h1 hne ⊢
    rw [List.flatten_append, List.flatten_cons, List.flatten_nil, List.append_nil] at h1
    have hc : 0 < c.length := List.length_pos_iff.mpr (hne c (List.mem_append_right _ List.mem_cons_self))
    have hl := congrArg List.length h1
    rw [List.length_append, List.length_take, Nat.min_eq_left hj] at hl
    have e1 : t.flatten = ws.take t.flatten.length := by
      have := congrArg (List.take t.flatten.length) h1
      rw [List.take_left, List.take_take, Nat.min_eq_left (by omega)] at this
      exact this
    refine ⟨t, t.flatten.length, by omega, ?_, e1⟩
    have e2 : c = seg ws t.flatten.length j := by
      have h2 := take_seg (ws := ws) (i := t.flatten.length) (j := j) (by omega)
      rw [← e1, ← h1] at h2
      exact (List.append_cancel_left h2).symm
    rw [← e2]
theorem pre_snoc {wide : Int} {ws : List Str} {j : Nat} (hj : j ≤ ws.length) (h0 : 0 < j) {r : R} : Pre wide (ws.take j) r ↔ ∃ i, i < j ∧ ((line (seg ws i j)).length : Int) ≤ wide ∧ ∃ r', Pre wide (ws.take i) r' ∧ r = put (cst wide (line (seg ws i j))) (line (seg ws i j)) r' := by
  constructor
  · rintro ⟨cs, h1, h2, rfl⟩
    obtain ⟨cs', i, hi, rfl, h3⟩ := snoc_cases hj h0 h1 fun ch hc => (h2 ch hc).1
    refine ⟨i, hi, (h2 _ (List.mem_append_right _ List.mem_cons_self)).2, _, ⟨cs', h3, fun ch hc => h2 ch (List.mem_append_left _ hc), rfl⟩, ?_⟩
    simp [put]
  · rintro ⟨i, hi, hf, r', ⟨cs, h1, h2, rfl⟩, rfl⟩
    refine ⟨cs ++ [seg ws i j], by simp [h1, take_seg (Nat.le_of_lt hi)], fun ch hc => ?_, by simp [put]⟩
    rcases List.mem_append.mp hc with hc | hc
    · exact h2 ch hc
    · rw [List.mem_singleton.mp hc]; exact ⟨seg_ne hi hj, hf⟩
theorem sol_snoc {wide : Int} {ws : List Str} (h0 : 0 < ws.length) {r : R} : Sol wide ws r ↔ ∃ i, i < ws.length ∧ ((line (seg ws i ws.length)).length : Int) ≤ wide ∧ ∃ r', Pre wide (ws.take i) r' ∧ r = put 0 (line (seg ws i ws.length)) r' := by
  constructor
  · rintro ⟨cs, h1, h2, rfl⟩
    obtain ⟨cs', i, hi, rfl, h3⟩ := snoc_cases (Nat.le_refl _) h0 (h1.trans List.take_length.symm) fun ch hc => (h2 ch hc).1
    refine ⟨i, hi, (h2 _ (List.mem_append_right _ List.mem_cons_self)).2, _, ⟨cs', h3, fun ch hc => h2 ch (List.mem_append_left _ hc), rfl⟩, ?_⟩
    simp [put]
  · rintro ⟨i, hi, hf, r', ⟨cs, h1, h2, rfl⟩, rfl⟩
    refine ⟨cs ++ [seg ws i ws.length], by simp [h1, take_seg (Nat.le_of_lt hi)], fun ch hc => ?_, by simp [put]⟩
    rcases List.mem_append.mp hc with hc | hc
    · exact h2 ch hc
    · rw [List.mem_singleton.mp hc]; exact ⟨seg_ne hi (Nat.le_refl _), hf⟩
/-- the rows of one turn -/
def rowsTo (wide : Int) (ws : List Str) (bs : List R) (j : Nat) (m : Str → Int) : Nat → List R
  | 0 => []
  | f + 1 => rowsTo wide ws bs j m f ++ (if ((line (seg ws f j)).length : Int) ≤ wide then [put (m (line (seg ws f j))) (line (seg ws f j)) (bs.getD f (0, ⟨[]⟩))] else [])
theorem mem_rowsTo {wide : Int} {ws : List Str} {bs : List R} {j : Nat} {m : Str → Int} : ∀ {f : Nat} {r : R}, r ∈ rowsTo wide ws bs j m f ↔ ∃ i, i < f ∧ ((line (seg ws i j)).length : Int) ≤ wide ∧ r = put (m (line (seg ws i j))) (line (seg ws i j)) (bs.getD i (0, ⟨[]⟩))
  | 0, r => ⟨(fun h => by cases h), (fun ⟨i, h, _⟩ => by omega)⟩
  | f + 1, r => by
    rw [rowsTo, List.mem_append, mem_rowsTo]
    constructor
    · rintro (⟨i, h1, h2, h3⟩ | h)
      · exact ⟨i, by omega, h2, h3⟩
      · split at h
        · rename_i hf
          exact ⟨f, by omega, hf, List.mem_singleton.mp h⟩
        · cases h
    · rintro ⟨i, h1, h2, h3⟩
      by_cases e : i = f
      · subst e
        exact .inr (by rw [if_pos h2, h3]; exact List.mem_cons_self)
      · exact .inl ⟨i, by omega, h2, h3⟩
theorem step_min {wide : Int} {ws : List Str} {bs : List R} {j : Nat} {m : Str → Int} {S : R → Prop} (hb : ∀ i, i < j → IsMin (Pre wide (ws.take i)) (bs.getD i (0, ⟨[]⟩)))
    (hS : ∀ r, S r ↔ ∃ i, i < j ∧ ((line (seg ws i j)).length : Int) ≤ wide ∧ ∃ r', Pre wide (ws.take i) r' ∧ r = put (m (line (seg ws i j))) (line (seg ws i j)) r') {b : R} (h : IsMin (fun r => r ∈ rowsTo wide ws bs j m j) b) : IsMin S b := by
  refine ⟨?_, fun y hy => ?_⟩
  · obtain ⟨i, h1, h2, h3⟩ := mem_rowsTo.mp h.1
    exact (hS b).mpr ⟨i, h1, h2, _, (hb i h1).1, h3⟩
  · obtain ⟨i, h1, h2, r', h3, rfl⟩ := (hS y).mp hy
    refine le_of lin_R ?_ (h.2 _ (mem_rowsTo.mpr ⟨i, h1, h2, rfl⟩))
    rw [put_lt (by rw [pre_tot h3, pre_tot (hb i h1).1])]
    exact (hb i h1).2 _ h3
end M8
set_option Elab.async false
set_option linter.all false
set_option maxRecDepth 100000
set_option maxHeartbeats 1000000
namespace M8
open PySem PySem.Spec PyProof.Rows L2 PL
open PySem.W (Datum DatumOrd Tup)
theorem PlD {α : Type} [DecidableEq α] [Datum α] (x : α) (h : Datum.depth α ≤ 30 := by decide) : Pl (Datum.toD x) := ⟨Datum.plain x, Nat.le_trans (Datum.depth_le x) h⟩
theorem goFor_by {g : GD} {b : SW} {D : PEn} {ds : List PyData} (Inv : Nat → En → Prop)
    (hs : ∀ i d ρ (N : En → Prop), (∀ ρ', Inv (i + 1) ρ' → N ρ') → ds[i]? = some d → Inv i ρ → g d ρ fun ρ2 => b ρ2 { D with nx := N, ct := N, bk := D.nx }) (hd : ∀ ρ, Inv ds.length ρ → D.nx ρ) : ∀ ρ, Inv 0 ρ → goFor g b D ds ρ := by
  have key : ∀ (k i : Nat) (ρ : En), i + k = ds.length → Inv i ρ → goFor g b D (ds.drop i) ρ := by
    intro k
    induction k with
    | zero =>
      intro i ρ e h
      rw [List.drop_eq_nil_of_le (by omega)]
      have : i = ds.length := by omega
      subst this
      exact hd ρ h
    | succ k ih =>
      intro i ρ e h
      rw [List.drop_eq_getElem_cons (by omega : i < ds.length)]
      exact hs i _ ρ _ (fun ρ' h' => ih (i + 1) ρ' (by omega) h') (List.getElem?_eq_getElem (by omega)) h
  intro ρ h
  have := key ds.length 0 ρ (by omega) h
  rwa [List.drop_zero] at this
def bad (wide : Int) (w : Str) : Bool := decide (wide < w.length) || PyData.eqv (.str w) (.str "")
theorem any_bad {v : Nat} {ρ : En} {ws : List Str} {wide : Int} {Q : Bool → Prop} {E : Exn → Prop} (h0 : ρ[0]? = some (.sh (.list (ws.map .str)))) (hg : ∀ d, ((wipeE ρ [v]).set v (.sh d))[v]? = some (.sh d)) (hw : ∀ d, ((wipeE ρ [v]).set v (.sh d))[1]? = some (.sh (.int wide)))
    (no : NoOwn [v] ρ) (hl : ∀ w ∈ ws, w.length ≤ sizeLine) (h : Q (ws.any (bad wide))) :
    wT (wGen PyData.bool (wItL (wVar 0)) (gNameD v) wYes (wOrV (w2 (fC fun i j => decide (j < i)) (w1 fLen (wRd v)) (wRd 1)) (w2 (fEq false) (wRd v) (wC (.str "")))) [v] rAnyD) ρ Q E := by
  refine ⟨no, ?_⟩
  unfold wItL wVar
  rw [h0]
  refine ⟨ws.map fun w => some (bad wide w), All2.map fun w hw' => ?_, ?_⟩
  · refine ⟨rfl, ?_⟩
    simp only [wOrV, w2, w1, wRd, hg, hw, fLen, fC, wC, fEq, bad]
    refine ⟨hl w hw', ?_⟩
    by_cases c : wide < (w.length : Int)
    · simp only [decide_eq_true c, Bool.true_or]
    · simp only [decide_eq_false c, Bool.false_or]
      exact ⟨⟨⟨rfl, Nat.zero_le _⟩, ⟨rfl, Nat.zero_le _⟩⟩, rfl⟩
  · have e : (ws.map fun w => some (bad wide w)).filterMap id = ws.map (bad wide) := by
      rw [List.filterMap_map]
      exact (List.filterMap_eq_map (f := bad wide) ▸ rfl)
    show Q (((ws.map fun w => some (bad wide w)).filterMap id).any id)
    rw [e, List.any_map]
    exact h
end M8
set_option Elab.async false
set_option linter.all false
set_option maxRecDepth 100000
set_option maxHeartbeats 1000000
namespace M8
open PySem PySem.Spec PyProof.Rows L2 PL
open PySem.W (Datum DatumOrd Tup)
abbrev wsD (ws : List Str) : PyData := .list (ws.map .str)
abbrev rD (r : R) : PyData := .tuple [.int r.1, .tuple (r.2.items.map .str)]
theorem le_size {n : Nat} (h : n ≤ 1000) : n ≤ sizeLine := by rw [sizeLine_eq]; omega
theorem lt_size' {n : Nat} (h : n ≤ 1000) : n < sizeLine := by rw [sizeLine_eq]; omega
theorem cut_hi {α : Type} (f : α → PyData) (ws : List α) {k : Nat} (h : k ≤ ws.length) : PL.cutD (ws.map f) none (some (k : Int)) = (ws.take k).map f := by
  unfold PL.cutD
  rw [HT.sIx_none, HT.sIx_nat, List.length_map, Nat.min_eq_left h, List.drop_zero, Nat.sub_zero, List.map_take]
theorem cut_lo {α : Type} (f : α → PyData) (ws : List α) {k : Nat} (h : k ≤ ws.length) : PL.cutD (ws.map f) (some (k : Int)) none = (ws.drop k).map f := by
  unfold PL.cutD
  rw [HT.sIx_none, HT.sIx_nat, List.length_map, Nat.min_eq_left h, ← List.map_drop, List.take_of_length_le (by rw [List.length_map, List.length_drop]; omega)]
theorem cut_seg {α : Type} (f : α → PyData) (ws : List α) {i j : Nat} (hi : i ≤ j) (h : j ≤ ws.length) : PL.cutD (ws.map f) (some (i : Int)) (some (j : Int)) = ((ws.drop i).take (j - i)).map f := by
  unfold PL.cutD
  rw [HT.sIx_nat, HT.sIx_nat, List.length_map, Nat.min_eq_left h, Nat.min_eq_left (Nat.le_trans hi h), ← List.map_drop, ← List.map_take]
/-- the part of ways that the i-th line's end gives -/
def wayF (wide : Int) (n : Nat) (ws : List Str) (i : Nat) : List R := if ((line (ws.take (i + 1))).length : Int) ≤ wide then (ways wide n (ws.drop (i + 1))).map (grow wide (line (ws.take (i + 1)))) else []
def wayA (wide : Int) (n : Nat) (ws : List Str) : Nat → List R
  | 0 => []
  | i + 1 => wayA wide n ws i ++ wayF wide n ws i
theorem wayA_eq (wide : Int) (n : Nat) (ws : List Str) : ∀ i, wayA wide n ws i = (List.range i).flatMap (wayF wide n ws)
  | 0 => rfl
  | i + 1 => by rw [wayA, wayA_eq wide n ws i, List.range_succ, List.flatMap_append]; simp
theorem ways_succ {wide : Int} {n : Nat} {ws : List Str} (h : ws ≠ []) : ways wide (n + 1) ws = wayA wide n ws ws.length := by
  rw [wayA_eq, ways, if_neg h]
  rfl
theorem ways_len (wide : Int) : ∀ (n : Nat) (ws : List Str), (ways wide n ws).length ≤ 2 ^ ws.length ∧ ∀ i, i ≤ ws.length → (wayA wide n ws i).length + 2 ^ (ws.length - i) ≤ 2 ^ ws.length
  | 0, ws => by
    refine ⟨Nat.zero_le _, fun i => ?_⟩
    induction i with
    | zero => intro _; simp [wayA]
    | succ i ih =>
      intro h
      have h2 := ih (by omega)
      have : (wayF wide 0 ws i).length = 0 := by unfold wayF; split <;> rfl
      rw [wayA, List.length_append, this]
      have : 2 ^ (ws.length - (i + 1)) ≤ 2 ^ (ws.length - i) := Nat.pow_le_pow_right (by omega) (by omega)
      omega
  | n + 1, ws => by
    have key : ∀ m, (∀ ws, (ways wide m ws).length ≤ 2 ^ ws.length) → ∀ ws : List Str, ∀ i, i ≤ ws.length → (wayA wide m ws i).length + 2 ^ (ws.length - i) ≤ 2 ^ ws.length := fun m hm ws i => by
      induction i with
      | zero => intro _; simp [wayA]
      | succ i ih =>
        intro h
        have h2 := ih (by omega)
        have h3 : (wayF wide m ws i).length ≤ 2 ^ (ws.length - (i + 1)) := by
          unfold wayF
          split
          · rw [List.length_map]
            have := hm (ws.drop (i + 1))
            rwa [List.length_drop] at this
          · exact Nat.zero_le _
        have h4 : 2 ^ (ws.length - i) = 2 ^ (ws.length - (i + 1)) + 2 ^ (ws.length - (i + 1)) := by
          rw [show ws.length - i = ws.length - (i + 1) + 1 by omega, Nat.pow_succ]; omega
        rw [wayA, List.length_append]
        omega
    have h1 : ∀ ws, (ways wide (n + 1) ws).length ≤ 2 ^ ws.length := fun ws => by
      by_cases h : ws = []
      · rw [ways, if_pos h, h]; exact Nat.le_refl _
      · rw [ways_succ h]
        exact Nat.le_trans (Nat.le_add_right _ _) (key n (fun ws => (ways_len wide n ws).1) ws ws.length (Nat.le_refl _))
    exact ⟨h1 ws, key (n + 1) h1 ws⟩
theorem flat_len : ∀ {cs : List (List Str)}, (∀ ch ∈ cs, ch ≠ []) → cs.length ≤ cs.flatten.length
  | [], _ => Nat.le_refl _
  | c :: t, h => by
    have := flat_len (cs := t) fun ch hc => h ch (List.mem_cons_of_mem _ hc)
    have := List.length_pos_iff.mpr (h c List.mem_cons_self)
    rw [List.flatten_cons, List.length_append, List.length_cons]
    omega
theorem ways_items {wide : Int} {n : Nat} {ws : List Str} (h : ws.length < n) {r : R} (hr : r ∈ ways wide n ws) : r.2.items.length ≤ ws.length := by
  obtain ⟨cs, h1, h2, rfl⟩ := (mem_ways h).mp hr
  rw [← h1]
  show (cs.map line).length ≤ _
  rw [List.length_map]
  exact flat_len fun ch hc => (h2 ch hc).1
theorem tot_take (ws : List Str) : ∀ k, tot (ws.take k) ≤ tot ws := by
  intro k
  have := tot_app (ws.take k) (ws.drop k)
  rw [List.take_append_drop] at this
  omega
theorem tot_drop (ws : List Str) : ∀ k, tot (ws.drop k) ≤ tot ws := by
  intro k
  have := tot_app (ws.take k) (ws.drop k)
  rw [List.take_append_drop] at this
  omega
theorem len_sum : ∀ ch : List Str, (ch.map (·.length)).sum + ch.length * 1 = tot ch
  | [] => rfl
  | w :: r => by
    have := len_sum r
    simp only [List.map_cons, List.sum_cons, List.length_cons, tot] at this ⊢
    omega
end M8
set_option Elab.async false
set_option linter.all false
set_option maxRecDepth 100000
set_option maxHeartbeats 2000000
namespace M8
open PySem PySem.Spec PyProof.Rows L2 PL
open PySem.W (Datum DatumOrd Tup)
theorem pl_int (i : Int) : Pl (.int i) := ⟨rfl, Nat.zero_le _⟩
theorem pl_str (x : Str) : Pl (.str x) := ⟨rfl, Nat.zero_le _⟩
theorem eqv_ws (xs ys : List Str) : PyData.eqv (wsD xs) (wsD ys) = decide (xs = ys) := Datum.eqv xs ys
theorem eqv_tup (xs ys : List Str) : PyData.eqv (.tuple (xs.map .str)) (.tuple (ys.map .str)) = decide (xs = ys) := by
  have := Datum.eqv (Tup.mk xs) (Tup.mk ys)
  exact this.trans (decide_eq_decide.mpr ⟨fun e => congrArg Tup.items e, fun e => congrArg Tup.mk e⟩)
/-- what the words are like -/
structure Good (ws : List Str) : Prop where
  few : ws.length ≤ 7
  tot : tot ws ≤ 100
theorem Good.take {ws : List Str} (g : Good ws) (k : Nat) : Good (ws.take k) := ⟨Nat.le_trans (by rw [List.length_take]; exact Nat.min_le_right _ _) g.few, Nat.le_trans (tot_take ws k) g.tot⟩
theorem Good.drop {ws : List Str} (g : Good ws) (k : Nat) : Good (ws.drop k) := ⟨Nat.le_trans (by rw [List.length_drop]; exact Nat.sub_le _ _) g.few, Nat.le_trans (tot_drop ws k) g.tot⟩
theorem Good.seg {ws : List Str} (g : Good ws) (i j : Nat) : Good (seg ws i j) := (g.drop i).take _
theorem Good.join {ws : List Str} (g : Good ws) : (ws.map (·.length)).sum + ws.length * sp.length ≤ 16777216 := by
  have e : sp.length = 1 := by decide
  have := len_sum ws
  have := g.tot
  rw [e]
  omega
theorem Good.line {ws : List Str} (g : Good ws) (h : ws ≠ []) : (line ws).length ≤ 100 := by
  have := line_len h
  have := g.tot
  omega
theorem take_ne {ws : List Str} {i : Nat} (h : i < ws.length) : ws.take (i + 1) ≠ [] := fun z => by
  have := congrArg List.length z
  rw [List.length_take, List.length_nil] at this
  omega
theorem range_get {lo : Int} {n i : Nat} {d : PyData} (h : (rangeD lo n)[i]? = some d) : i < n ∧ d = .int (lo + (i : Nat)) := by
  unfold rangeD at h
  rw [List.getElem?_map] at h
  cases e : (List.range n)[i]? with
  | none => rw [e] at h; cases h
  | some k =>
    rw [e] at h
    cases h
    obtain ⟨h1, h2⟩ := List.getElem?_eq_some_iff.mp e
    rw [List.length_range] at h1
    rw [List.getElem_range] at h2
    exact ⟨h1, by rw [h2]⟩
theorem p_ways (a : Ad) {wide : Int} (w0 : 0 ≤ wide) (w1' : wide ≤ 1000) : ∀ (n : Nat) (ws : List Str), ws.length < n → Good ws → ∀ (Q : PyData → Prop) (E : Exn → Prop), Q (.list ((ways wide n ws).map rD)) → c__law_ways a n [.sh (wsD ws), .sh (.int wide)] Q E
  | 0, ws, h, _, _, _, _ => by omega
  | n + 1, ws, hn, gd, Q, E, hQ => by
    show u__law_ways a (c__law_ways a n) [.sh (wsD ws), .sh (.int wide), .un, .un, .un, .un, .un] _
    refine ⟨Nat.zero_le _, ⟨PlD ws, PlD ([] : List Str)⟩, ?_⟩
    show if PyData.eqv (wsD ws) (wsD []) = true then _ else _
    rw [eqv_ws]
    by_cases hw : ws = []
    · rw [if_pos (decide_eq_true hw)]
      rw [ways, if_pos hw] at hQ
      exact ⟨Nat.zero_le _, le_size (by decide), le_size (by decide), hQ⟩
    · rw [if_neg (by rw [decide_eq_false hw]; decide)]
      rw [ways_succ hw] at hQ
      refine ⟨Nat.zero_le _, ⟨by decide, by decide, ?_, ?_⟩, ?_⟩
      · have := gd.few; show -(2:Int) ^ 62 ≤ (((ws.map PyData.str).length : Nat) : Int) + 1; omega
      · have := gd.few; show (((ws.map PyData.str).length : Nat) : Int) + 1 < 2 ^ 62; rw [List.length_map]; omega
      · refine goFor_by (fun i ρ => ∃ s3 s4 s5 s6, i ≤ ws.length ∧ ρ = [.sh (wsD ws), .sh (.int wide), .ol ((wayA wide n ws i).map rD), s3, s4, s5, s6]) ?_ ?_ _ ⟨_, _, _, _, Nat.zero_le _, rfl⟩
        · rintro i d ρ N hN hd ⟨s3, s4, s5, s6, hi, rfl⟩
          obtain ⟨hi, rfl⟩ := range_get hd
          have hlw : i < ws.length := by
            rw [List.length_map] at hi
            omega
          have ek : (1 : Int) + (i : Nat) = ((i + 1 : Nat) : Int) := by omega
          have g1 := gd.take (i + 1)
          have gl := g1.line (take_ne hlw)
          conv => whnf
          rw [ek, cut_hi _ _ hlw, allStrs_map]
          refine ⟨g1.join, ?_⟩
          refine ⟨le_size (show (line (ws.take (i + 1))).length ≤ 1000 by omega), ?_⟩
          show if decide (((line (ws.take (i + 1))).length : Int) ≤ wide) = true then _ else _
          by_cases hf : ((line (ws.take (i + 1))).length : Int) ≤ wide
          · rw [if_pos (decide_eq_true hf)]
            refine ⟨rfl, ?_⟩
            show c__law_ways a n [.sh (.list (PL.cutD (ws.map .str) (some ((i + 1 : Nat) : Int)) none)), .sh (.int wide)] _ _
            rw [cut_lo _ _ hlw]
            refine p_ways a w0 w1' n (ws.drop (i + 1)) (by rw [List.length_drop]; omega) (gd.drop _) _ _ ?_
            have hb := (ways_len wide n ws).2 i (Nat.le_of_lt hlw)
            have hF : wayF wide n ws i = (ways wide n (ws.drop (i + 1))).map (grow wide (line (ws.take (i + 1)))) := by rw [wayF, if_pos hf]
            have hl2 : (ways wide n (ws.drop (i + 1))).length ≤ 2 ^ (ws.length - i) := by
              have := (ways_len wide n (ws.drop (i + 1))).1
              rw [List.length_drop] at this
              exact Nat.le_trans this (Nat.pow_le_pow_right (by omega) (by omega))
            have h128 : 2 ^ ws.length ≤ 2 ^ 7 := Nat.pow_le_pow_right (by omega) gd.few
            refine goFor_by (fun j ρ => ∃ s5 s6, j ≤ (ways wide n (ws.drop (i + 1))).length ∧ ρ = [.sh (wsD ws), .sh (.int wide), .ol ((wayA wide n ws i ++ ((ways wide n (ws.drop (i + 1))).take j).map (grow wide (line (ws.take (i + 1))))).map rD), .sh (.int ((i + 1 : Nat) : Int)), .sh (.str (line (ws.take (i + 1)))), s5, s6]) ?_ ?_ _ ⟨_, _, Nat.zero_le _, by rw [List.take_zero, List.map_nil, List.append_nil]; rfl⟩
            · rintro j d ρ N2 hN2 hd ⟨s5, s6, hj, rfl⟩
              rw [List.getElem?_map] at hd
              cases hr : (ways wide n (ws.drop (i + 1)))[j]? with
              | none => rw [hr] at hd; cases hd
              | some r =>
                rw [hr] at hd
                cases hd
                obtain ⟨hj', hrj⟩ := List.getElem?_eq_some_iff.mp hr
                have hit := ways_items (by rw [List.length_drop]; omega) (List.mem_of_getElem? hr)
                rw [List.length_drop] at hit
                refine ⟨rfl, rfl, ⟨Nat.zero_le _, ⟨PlD (Tup.mk r.2.items), PlD (Tup.mk ([] : List Str))⟩, ?_⟩⟩
                have hsz : ((wayA wide n ws i ++ ((ways wide n (ws.drop (i + 1))).take j).map (grow wide (line (ws.take (i + 1))))).map rD).length ≤ 1000 := by
                  rw [List.length_map, List.length_append, List.length_map, List.length_take]
                  omega
                have hnx : (wayA wide n ws i ++ ((ways wide n (ws.drop (i + 1))).take (j + 1)).map (grow wide (line (ws.take (i + 1))))).map rD = (wayA wide n ws i ++ ((ways wide n (ws.drop (i + 1))).take j).map (grow wide (line (ws.take (i + 1))))).map rD ++ [rD (grow wide (line (ws.take (i + 1))) r)] := by
                  rw [show (ways wide n (ws.drop (i + 1))).take (j + 1) = (ways wide n (ws.drop (i + 1))).take j ++ [r] from by rw [List.take_add_one, hr]; rfl]
                  simp only [List.map_append, List.append_assoc, List.map_cons, List.map_nil]
                show if PyData.eqv (.tuple (r.2.items.map .str)) (.tuple (([] : List Str).map .str)) = true then _ else _
                rw [eqv_tup]
                have s2 : [PyData.int 0, PyData.int 0].length ≤ sizeLine := le_size (by decide)
                have s1 : [PyData.int 0].length ≤ sizeLine := le_size (by decide)
                have s3 : [PyData.int 0].length + (r.2.items.map PyData.str).length ≤ sizeLine := le_size (by rw [List.length_map]; have := gd.few; show 1 + r.2.items.length ≤ 1000; omega)
                by_cases c : r.2.items = []
                · rw [if_pos (decide_eq_true c)]
                  refine ⟨s1, s3, s2, lt_size' hsz, hN2 _ ⟨.sh (.int r.1), .sh (.tuple (r.2.items.map .str)), hj', ?_⟩⟩
                  rw [hnx, grow, if_pos c]
                  rfl
                · rw [if_neg (by rw [decide_eq_false c]; decide)]
                  have ll : (line (ws.take (i + 1))).length ≤ sizeLine := le_size (by omega)
                  refine ⟨ll, trivial, ll, trivial, .inl ⟨?_, ?_⟩, s1, s3, s2, lt_size' hsz, hN2 _ ⟨.sh (.int r.1), .sh (.tuple (r.2.items.map .str)), hj', ?_⟩⟩
                  · show -(2 : Int) ^ 64 < wide - ((line (ws.take (i + 1))).length : Int); omega
                  · show wide - ((line (ws.take (i + 1))).length : Int) < 2 ^ 64; omega
                  · rw [hnx, grow, if_neg c]
                    rfl
            · rintro ρ ⟨s5, s6, _, rfl⟩
              rw [List.length_map, List.take_length, ← hF]
              exact hN _ ⟨_, _, _, _, hlw, rfl⟩
          · rw [if_neg (by rw [decide_eq_false hf]; decide)]
            exact hN _ ⟨_, _, _, _, hlw, by rw [wayA, wayF, if_neg hf, List.append_nil]; rfl⟩
        · rintro ρ ⟨s3, s4, s5, s6, _, rfl⟩
          rw [show (rangeD 1 ((((ws.map PyData.str).length : Nat) : Int) + 1 - 1).toNat).length = ws.length by simp [rangeD]]
          exact hQ
end M8
set_option Elab.async false
set_option linter.all false
set_option maxRecDepth 100000
set_option maxHeartbeats 2000000
namespace M8
open PySem PySem.Spec PyProof.Rows L2 PL
open PySem.W (Datum DatumOrd Tup)
section
variable {α : Type} [DecidableEq α] [DatumOrd α]
theorem p_min (x : α) (xs : List α) {Q : PyData → Prop} (h : Q (Datum.toD (PySem.W.minOf x xs))) (hd : Datum.depth α ≤ 30 := by decide) : fMin (.list ((x :: xs).map Datum.toD)) Q :=
  ⟨⟨PySem.W.plainAll_map (x :: xs), Nat.le_trans (PySem.W.depthAll_map (x :: xs)) hd, PySem.W.alikeAll_datum (x :: xs)⟩, by
    show Q (PySem.W.minD (Datum.toD x) (xs.map Datum.toD))
    rw [PySem.W.minD_map x xs]
    exact h⟩
theorem p_max (x : α) (xs : List α) {Q : PyData → Prop} (h : Q (Datum.toD (PySem.W.maxOf x xs))) (hd : Datum.depth α ≤ 30 := by decide) : fMax (.list ((x :: xs).map Datum.toD)) Q :=
  ⟨⟨PySem.W.plainAll_map (x :: xs), Nat.le_trans (PySem.W.depthAll_map (x :: xs)) hd, PySem.W.alikeAll_datum (x :: xs)⟩, by
    show Q (PySem.W.maxD (Datum.toD x) (xs.map Datum.toD))
    rw [PySem.W.maxD_map x xs]
    exact h⟩
end
theorem rep_none (n : Nat) : (List.replicate n [PyData.none]).flatten = List.replicate n .none := by
  induction n with
  | zero => rfl
  | succ n ih => rw [List.replicate_succ, List.flatten_cons, ih, List.replicate_succ]; rfl
theorem pre_nil {wide : Int} {r : R} : Pre wide [] r ↔ r = (0, ⟨[]⟩) := by
  constructor
  · rintro ⟨cs, h1, h2, rfl⟩
    cases cs with
    | nil => rfl
    | cons c t => exact absurd (List.append_eq_nil_iff.mp h1).1 (h2 c List.mem_cons_self).1
  · rintro rfl
    exact ⟨[], rfl, (fun ch h => by cases h), rfl⟩
theorem min_nil {S : R → Prop} (h : ∀ r, S r ↔ r = (0, ⟨[]⟩)) : IsMin S (0, ⟨[]⟩) := ⟨(h _).mpr rfl, fun y hy => by rw [(h y).mp hy]; exact lin_R.irr _⟩
/-- how the table stands behind i turns -/
structure Tab (wide : Int) (ws : List Str) (i : Nat) (bs : List R) : Prop where
  len : bs.length = i + 1
  pre : ∀ j, j ≤ i → j < ws.length → IsMin (Pre wide (ws.take j)) (bs.getD j (0, ⟨[]⟩))
  fin : i = ws.length → IsMin (Sol wide ws) (bs.getD i (0, ⟨[]⟩))
theorem tab_zero (wide : Int) (ws : List Str) : Tab wide ws 0 [(0, ⟨[]⟩)] := ⟨rfl, fun j hj _ => by
    have : j = 0 := by omega
    subst this
    exact min_nil fun r => by rw [List.take_zero]; exact pre_nil, fun h => by
    have : ws = [] := List.length_eq_zero_iff.mp h.symm
    subst this
    exact min_nil fun r => sol_nil⟩
/-- what the turn with last = i + 1 puts -/
def moreOf (wide : Int) (ws : List Str) (j : Nat) (l : Str) : Int := if j = ws.length then 0 else cst wide l
theorem tab_step {wide : Int} {ws : List Str} {i : Nat} {bs : List R} (t : Tab wide ws i bs) (hi : i < ws.length) {x : R} {xs : List R} (hr : rowsTo wide ws bs (i + 1) (moreOf wide ws (i + 1)) (i + 1) = x :: xs) : Tab wide ws (i + 1) (bs ++ [PySem.W.minOf x xs]) := by
  have hm := minOf_isMin lin_R x xs
  rw [← hr] at hm
  have at_ : ∀ j, j ≤ i → (bs ++ [PySem.W.minOf x xs]).getD j (0, ⟨[]⟩) = bs.getD j (0, ⟨[]⟩) := fun j hj => by
    rw [List.getD_eq_getElem?_getD, List.getD_eq_getElem?_getD, List.getElem?_append_left (by rw [t.len]; omega)]
  have new : (bs ++ [PySem.W.minOf x xs]).getD (i + 1) (0, ⟨[]⟩) = PySem.W.minOf x xs := by
    rw [List.getD_eq_getElem?_getD, List.getElem?_append_right (by rw [t.len]; omega), t.len, Nat.sub_self]
    rfl
  refine ⟨by rw [List.length_append, t.len]; rfl, fun j hj hl => ?_, fun h => ?_⟩
  · by_cases e : j = i + 1
    · subst e
      rw [new]
      refine step_min (fun k hk => t.pre k (by omega) (by omega)) (fun r => ?_) hm
      rw [pre_snoc (Nat.le_of_lt hl) (by omega)]
      have : ∀ l, moreOf wide ws (i + 1) l = cst wide l := fun l => if_neg (by omega)
      simp only [this]
    · rw [at_ j (by omega)]
      exact t.pre j (by omega) hl
  · rw [new]
    refine step_min (fun k hk => t.pre k (by omega) (by omega)) (fun r => ?_) hm
    rw [sol_snoc (by omega), ← h]
    have : ∀ l, moreOf wide ws (i + 1) l = 0 := fun l => if_pos h
    simp only [this]
end M8
set_option Elab.async false
set_option linter.all false
set_option maxRecDepth 100000
set_option maxHeartbeats 4000000
namespace M8
open PySem PySem.Spec PyProof.Rows L2 PL
open PySem.W (Datum DatumOrd Tup)
theorem tot_mem {w : Str} : ∀ {ws : List Str}, w ∈ ws → w.length + 1 ≤ tot ws
  | [], h => by cases h
  | x :: r, h => by
    rw [tot]
    rcases List.mem_cons.mp h with e | h
    · rw [e]; omega
    · have := tot_mem h; omega
theorem one_fits {wide : Int} {ws : List Str} (hb : ∀ w ∈ ws, (w.length : Int) ≤ wide) {i : Nat} (hi : i < ws.length) : ((line (seg ws i (i + 1))).length : Int) ≤ wide := by
  have e : seg ws i (i + 1) = [ws[i]] := by
    rw [seg, show i + 1 - i = 1 by omega, List.drop_eq_getElem_cons hi]
    rfl
  rw [e, line_one]
  exact hb _ (List.getElem_mem hi)
theorem rows_cons {wide : Int} {ws : List Str} {bs : List R} {i : Nat} {m : Str → Int} (hb : ∀ w ∈ ws, (w.length : Int) ≤ wide) (hi : i < ws.length) : ∃ x xs, rowsTo wide ws bs (i + 1) m (i + 1) = x :: xs := by
  rw [rowsTo, if_pos (one_fits hb hi)]
  cases rowsTo wide ws bs (i + 1) m i with
  | nil => exact ⟨_, _, rfl⟩
  | cons x xs => exact ⟨_, _, rfl⟩
theorem rows_len (wide : Int) (ws : List Str) (bs : List R) (j : Nat) (m : Str → Int) : ∀ f, (rowsTo wide ws bs j m f).length ≤ f
  | 0 => Nat.le_refl _
  | f + 1 => by
    have := rows_len wide ws bs j m f
    rw [rowsTo, List.length_append]
    split
    · rw [List.length_singleton]; omega
    · rw [List.length_nil]; omega
theorem w_min {α : Type} [DecidableEq α] [DatumOrd α] {k : Nat} {ρ : En} {x : α} {xs : List α} {Q : PyData → Prop} {E : Exn → Prop} (h : ρ[k]? = some (.ol ((x :: xs).map Datum.toD))) (hq : Q (Datum.toD (PySem.W.minOf x xs))) (hd : Datum.depth α ≤ 30 := by decide) : w1 fMin (wRd k) ρ Q E := by
  unfold w1 wRd
  rw [h]
  exact p_min x xs hq hd
theorem i_setI {i : Nat} {ρ : En} {ds : List PyData} {wk w : PW} {D : PEn} (h : ρ[i]? = some (.ol ds)) (hw : w ρ (fun d => wk ρ (fun k => match k with
    | .int n => ∃ j, ixN ds.length n = some j ∧ D.nx (ρ.set i (.ol (ds.set j d)))
    | _ => False) D.ex) D.ex) : sSetI i wk w ρ D := by
  unfold sSetI
  rw [h]
  exact hw
theorem p_broken (a : Ad) {wide : Int} (w0 : 0 ≤ wide) (w1' : wide ≤ 1000) {ws : List Str} (gd : Good ws) (hbad : ws.any (bad wide) = false) (hfit : ∀ w ∈ ws, (w.length : Int) ≤ wide) (Q : PyData → Prop) (E : Exn → Prop) (hQ : ∀ b, IsMin (Sol wide ws) b → Q (rD b)) :
    c_broken a [.sh (wsD ws), .sh (.int wide)] Q E := by
  show u_broken a [.sh (wsD ws), .sh (.int wide), .un, .un, .un, .un, .un, .un, .un, .un, .un] _
  have hn := gd.few
  unfold u_broken
  show wT (wGen PyData.bool (wItL (wVar 0)) (gNameD 10) wYes (wOrV (w2 (fC fun i j => decide (j < i)) (w1 fLen (wRd 10)) (wRd 1)) (w2 (fEq false) (wRd 10) (wC (.str "")))) [10] rAnyD) _ (fun k => if k = true then _ else _) _
  refine any_bad (v := 10) (ρ := [.sh (wsD ws), .sh (.int wide), .un, .un, .un, .un, .un, .un, .un, .un, .un]) (ws := ws) (wide := wide) rfl (fun _ => rfl) (fun _ => rfl) (fun i hi s hs => ?_) (fun w hw => le_size ?_) ?_
  · rw [List.mem_singleton.mp hi] at hs
    cases hs
    rfl
  · have := tot_mem hw
    have := gd.tot
    omega
  rw [hbad, if_neg (by decide)]
  refine ⟨Nat.zero_le _, le_size (by decide), le_size (by decide), le_size (by decide), ⟨?_, ?_, ?_⟩, ?_, ?_⟩
  · show -(2 : Int) ^ 63 ≤ (((ws.map PyData.str).length : Nat) : Int); omega
  · show (((ws.map PyData.str).length : Nat) : Int) < 2 ^ 63; rw [List.length_map]; omega
  · show [PyData.none].length * (((ws.map PyData.str).length : Nat) : Int).toNat ≤ sizeLine
    rw [List.length_map]
    exact le_size (by simp; omega)
  · show [rD (0, ⟨[]⟩)].length + (List.replicate (((ws.map PyData.str).length : Nat) : Int).toNat [PyData.none]).flatten.length ≤ sizeLine
    rw [rep_none, List.length_replicate, List.length_map]
    exact le_size (by simp; omega)
  refine ⟨⟨by decide, by decide, ?_, ?_⟩, ?_⟩
  · show -(2 : Int) ^ 62 ≤ (((ws.map PyData.str).length : Nat) : Int) + 1; omega
  · show (((ws.map PyData.str).length : Nat) : Int) + 1 < 2 ^ 62; rw [List.length_map]; omega
  refine goFor_by (fun i ρ => ∃ bs s3 s4 s5 s6 s7 s8 s9 s10, Tab wide ws i bs ∧ i ≤ ws.length ∧ ρ = [.sh (wsD ws), .sh (.int wide), .ol (bs.map rD ++ List.replicate (ws.length - i) .none), s3, s4, s5, s6, s7, s8, s9, s10]) ?_ ?_ _ ⟨_, .un, .un, .un, .un, .un, .un, .un, .un, tab_zero wide ws, Nat.zero_le _, ?_⟩
  · rintro i d ρ N hN hd ⟨bs, s3, s4, s5, s6, s7, s8, s9, s10, t, hi, rfl⟩
    obtain ⟨hi', rfl⟩ := range_get hd
    have hlw : i < ws.length := by
      rw [List.length_map] at hi'
      omega
    have ek : (1 : Int) + (i : Nat) = ((i + 1 : Nat) : Int) := by omega
    rw [ek]
    refine ⟨Nat.zero_le _, ⟨?_, ?_⟩, ?_⟩
    · show -(2 : Int) ^ 62 ≤ ((i + 1 : Nat) : Int); omega
    · show ((i + 1 : Nat) : Int) < 2 ^ 62; omega
    rw [Int.toNat_natCast]
    refine goFor_by (fun f ρ => ∃ s5 s6 s7 s8 s9 s10, f ≤ i + 1 ∧ ρ = [.sh (wsD ws), .sh (.int wide), .ol (bs.map rD ++ List.replicate (ws.length - i) .none), .sh (.int ((i + 1 : Nat) : Int)), .ol ((rowsTo wide ws bs (i + 1) (moreOf wide ws (i + 1)) f).map rD), s5, s6, s7, s8, s9, s10]) ?_ ?_ _ ⟨s5, s6, s7, s8, s9, s10, Nat.zero_le _, rfl⟩
    · rintro f d ρ N2 hN2 hd2 ⟨s5, s6, s7, s8, s9, s10, hf, rfl⟩
      obtain ⟨hf', rfl⟩ := range_get hd2
      have e0 : (0 : Int) + (f : Nat) = ((f : Nat) : Int) := by omega
      rw [e0]
      have gs := gd.seg f (i + 1)
      have gn := seg_ne hf' hlw
      have gl := gs.line gn
      conv => whnf
      rw [cut_seg _ _ (Nat.le_of_lt hf') hlw]
      rw [show ((ws.drop f).take (i + 1 - f)) = seg ws f (i + 1) from rfl, allStrs_map]
      refine ⟨gs.join, ?_⟩
      refine ⟨le_size (show (line (seg ws f (i + 1))).length ≤ 1000 by omega), ?_⟩
      show if decide (((line (seg ws f (i + 1))).length : Int) ≤ wide) = true then _ else _
      by_cases hw : ((line (seg ws f (i + 1))).length : Int) ≤ wide
      · rw [if_pos (decide_eq_true hw)]
        have ix : atI (bs.map rD ++ List.replicate (ws.length - i) .none) ((f : Nat) : Int) = some (rD (bs.getD f (0, ⟨[]⟩))) := by
          have hb : f < bs.length := by rw [t.len]; omega
          rw [atI_nat]
          rw [List.getElem?_append_left (by rw [List.length_map]; exact hb), List.getElem?_map, List.getD_eq_getElem?_getD, List.getElem?_eq_getElem hb]
          rfl
        conv => whnf
        rw [ix]
        have hit : (bs.getD f (0, ⟨[]⟩)).2.items.length ≤ 7 := by
          obtain ⟨cs, h1, h2, e⟩ := (t.pre f (by omega) (by omega)).1
          rw [e]
          show (cs.map line).length ≤ 7
          rw [List.length_map]
          have h3 := flat_len fun ch hc => (h2 ch hc).1
          rw [h1, List.length_take] at h3
          omega
        have s1 : [PyData.int 0].length ≤ sizeLine := le_size (by decide)
        have s2 : [PyData.int 0, PyData.int 0].length ≤ sizeLine := le_size (by decide)
        have s3 : ((bs.getD f (0, ⟨[]⟩)).2.items.map PyData.str).length + [PyData.int 0].length ≤ sizeLine := le_size (by rw [List.length_map]; show _ + 1 ≤ 1000; omega)
        have s4 : ((rowsTo wide ws bs (i + 1) (moreOf wide ws (i + 1)) f).map rD).length < sizeLine := lt_size' (by
          rw [List.length_map]
          have := rows_len wide ws bs (i + 1) (moreOf wide ws (i + 1)) f
          omega)
        have hnx : (rowsTo wide ws bs (i + 1) (moreOf wide ws (i + 1)) (f + 1)).map rD = (rowsTo wide ws bs (i + 1) (moreOf wide ws (i + 1)) f).map rD ++ [.tuple [.int ((bs.getD f (0, ⟨[]⟩)).1 + moreOf wide ws (i + 1) (line (seg ws f (i + 1)))), .tuple ((bs.getD f (0, ⟨[]⟩)).2.items.map PyData.str ++ [.str (line (seg ws f (i + 1)))])]] := by
          rw [rowsTo, if_pos hw, List.map_append]
          simp [put]
        refine ⟨rfl, rfl, ⟨pl_int _, pl_int _⟩, ?_⟩
        show if PyData.eqv (.int ((i + 1 : Nat) : Int)) (.int (((ws.map PyData.str).length : Nat) : Int)) = true then _ else _
        rw [show PyData.eqv (.int ((i + 1 : Nat) : Int)) (.int (((ws.map PyData.str).length : Nat) : Int)) = decide (((i + 1 : Nat) : Int) = (((ws.map PyData.str).length : Nat) : Int)) from Datum.eqv (α := Int) _ _, List.length_map]
        by_cases c : i + 1 = ws.length
        · rw [if_pos (decide_eq_true (by omega))]
          refine ⟨s1, s3, s2, s4, hN2 _ ⟨.sh (.int ((f : Nat) : Int)), .sh (.str (line (seg ws f (i + 1)))), .sh (.int (bs.getD f (0, ⟨[]⟩)).1), .sh (.tuple ((bs.getD f (0, ⟨[]⟩)).2.items.map PyData.str)), .sh (.int 0), s10, hf', ?_⟩⟩
          rw [hnx, moreOf, if_pos c]
          rfl
        · rw [if_neg (by rw [decide_eq_false (by omega)]; decide)]
          have ll : (line (seg ws f (i + 1))).length ≤ sizeLine := le_size (by omega)
          refine ⟨ll, trivial, ll, trivial, .inl ⟨?_, ?_⟩, s1, s3, s2, s4, hN2 _ ⟨.sh (.int ((f : Nat) : Int)), .sh (.str (line (seg ws f (i + 1)))), .sh (.int (bs.getD f (0, ⟨[]⟩)).1), .sh (.tuple ((bs.getD f (0, ⟨[]⟩)).2.items.map PyData.str)), .sh (.int (cst wide (line (seg ws f (i + 1))))), s10, hf', ?_⟩⟩
          · show -(2 : Int) ^ 64 < wide - ((line (seg ws f (i + 1))).length : Int); omega
          · show wide - ((line (seg ws f (i + 1))).length : Int) < 2 ^ 64; omega
          · rw [hnx, moreOf, if_neg c]
            rfl
      · rw [if_neg (by rw [decide_eq_false hw]; decide)]
        exact hN2 _ ⟨_, _, _, _, _, _, hf', by rw [rowsTo, if_neg hw, List.append_nil]; rfl⟩
    · rintro ρ ⟨s5, s6, s7, s8, s9, s10, hf, rfl⟩
      obtain ⟨x, xs, hx⟩ := rows_cons (bs := bs) (m := moreOf wide ws (i + 1)) hfit hlw
      have hl : (rangeD 0 (i + 1)).length = i + 1 := by simp [rangeD]
      rw [hl, hx]
      dsimp only []
      refine i_setI (i := 2) rfl ?_
      dsimp only []
      refine w_min (k := 4) (x := x) (xs := xs) (by rfl) ?_
      refine ⟨i + 1, ?_, hN _ ⟨_, .sh (.int ((i + 1 : Nat) : Int)), .ol ((x :: xs).map rD), s5, s6, s7, s8, s9, s10, tab_step t hlw hx, hlw, ?_⟩⟩
      · show ixN (bs.map rD ++ List.replicate (ws.length - i) PyData.none).length ((i + 1 : Nat) : Int) = some (i + 1)
        unfold ixN
        rw [List.length_append, List.length_map, List.length_replicate, t.len, if_pos (by omega), if_pos (by omega)]
        rw [Int.toNat_natCast]
      · have e : (bs.map rD ++ List.replicate (ws.length - i) PyData.none).set (i + 1) (rD (PySem.W.minOf x xs)) = (bs ++ [PySem.W.minOf x xs]).map rD ++ List.replicate (ws.length - (i + 1)) PyData.none := by
          rw [List.set_append_right _ _ (by rw [List.length_map, t.len]; omega), List.length_map, t.len, Nat.sub_self, show ws.length - i = ws.length - (i + 1) + 1 by omega, List.replicate_succ, List.set_cons_zero, List.map_append, List.append_assoc]
          rfl
        rw [← e]
        rfl
  · rintro ρ ⟨bs, s3, s4, s5, s6, s7, s8, s9, s10, t, hi, rfl⟩
    have hl : (rangeD 1 ((((ws.map PyData.str).length : Nat) : Int) + 1 - 1).toNat).length = ws.length := by simp [rangeD]
    rw [hl] at t ⊢
    have hb := hQ _ (t.fin rfl)
    have hg : bs[ws.length]? = some (bs.getD ws.length (0, ⟨[]⟩)) := by
      rw [List.getD_eq_getElem?_getD]
      have : ws.length < bs.length := by rw [t.len]; omega
      rw [List.getElem?_eq_getElem this]
      rfl
    have ix : atI (bs.map rD ++ List.replicate (ws.length - ws.length) .none) (-1) = some (rD (bs.getD ws.length (0, ⟨[]⟩))) := by
      rw [Nat.sub_self, List.replicate_zero, List.append_nil]
      unfold atI ixN
      rw [List.length_map, t.len, if_neg (by omega), if_pos (by omega)]
      show (bs.map rD)[(-1 + ((ws.length + 1 : Nat) : Int)).toNat]? = _
      rw [show (-1 + ((ws.length + 1 : Nat) : Int)).toNat = ws.length by omega, List.getElem?_map, hg]
      rfl
    conv => whnf
    rw [ix]
    exact hb
  · show ([Sl.sh (wsD ws), .sh (.int wide), .ol ([rD (0, ⟨[]⟩)] ++ (List.replicate (((ws.map PyData.str).length : Nat) : Int).toNat [PyData.none]).flatten), .un, .un, .un, .un, .un, .un, .un, .un] : En) = _
    rw [rep_none, Int.toNat_natCast, List.length_map]
    rfl
end M8
set_option Elab.async false
set_option linter.all false
set_option maxRecDepth 100000
set_option maxHeartbeats 1000000
/-! the greedy filling takes no more lines than any other -/
namespace M8
open PySem PySem.W
/-- chunks as full as they go: behind each stands a word that did not fit -/
def Full (wide : Int) : List (List Str) → Prop
  | [] => True
  | [_] => True
  | c :: d :: r => (∃ w t, d = w :: t ∧ wide < ((line c).length : Int) + 1 + (w.length : Int)) ∧ Full wide (d :: r)
theorem full_tail {wide : Int} {c : List Str} {t : List (List Str)} (h : Full wide (c :: t)) : Full wide t := by
  cases t with
  | nil => trivial
  | cons d r => exact h.2
theorem greedy_le {wide : Int} : ∀ (gs cs : List (List Str)) (e : List Str), (∀ g ∈ gs, g ≠ []) → Full wide gs → (∀ c ∈ cs, fit wide c) → cs.flatten = e ++ gs.flatten → gs.length ≤ cs.length
  | [], cs, e, _, _, _, _ => Nat.zero_le _
  | g :: gs, [], e, hg, _, _, h => by
    have := congrArg List.length h
    have h2 := List.length_pos_iff.mpr (hg g List.mem_cons_self)
    simp only [List.flatten_nil, List.length_nil, List.flatten_cons, List.length_append] at this
    omega
  | g :: gs, c :: cs, e, hg, hF, hc, h => by
    rw [List.flatten_cons, List.flatten_cons] at h
    have hlen : c.length ≤ e.length + g.length := by
      apply Classical.byContradiction
      intro hn
      -- c holds e, g and the next word
      have hfit := hc c List.mem_cons_self
      cases gs with
      | nil =>
        have := congrArg List.length h
        simp only [List.length_append, List.flatten_nil, List.append_nil] at this
        omega
      | cons d r =>
        obtain ⟨⟨w, t, rfl, hw⟩, _⟩ := hF
        rw [List.flatten_cons, List.cons_append] at h
        have h' : c ++ cs.flatten = (e ++ g) ++ (w :: (t ++ r.flatten)) := by rw [h]; simp
        have pre : ∃ z, c = e ++ g ++ w :: z := by
          have h1 := congrArg (List.take c.length) h'
          rw [List.take_left, List.take_append, List.take_of_length_le (by rw [List.length_append]; omega)] at h1
          rw [List.length_append, show c.length - (e.length + g.length) = (c.length - (e.length + g.length) - 1) + 1 by omega, List.take_succ_cons] at h1
          exact ⟨_, h1⟩
        obtain ⟨z, hz⟩ := pre
        have l1 := line_len hfit.1
        have l2 := line_len (hg g List.mem_cons_self)
        rw [hz, tot_app, tot_app, tot] at l1
        have := hfit.2
        rw [hz] at this
        omega
    have hgl : ∃ e', e ++ g = c ++ e' := by
      have h' : c ++ cs.flatten = (e ++ g) ++ gs.flatten := by rw [h, List.append_assoc]
      have h1 := congrArg (List.take (e ++ g).length) h'
      rw [List.take_left, List.take_append, List.take_of_length_le (by rw [List.length_append]; exact hlen)] at h1
      exact ⟨_, h1.symm⟩
    obtain ⟨e', he⟩ := hgl
    have h3 : cs.flatten = e' ++ gs.flatten := by
      have h' : c ++ cs.flatten = (e ++ g) ++ gs.flatten := by rw [h, List.append_assoc]
      rw [he, List.append_assoc] at h'
      exact List.append_cancel_left h'
    have := greedy_le gs cs e' (fun x hx => hg x (List.mem_cons_of_mem _ hx)) (full_tail hF) (fun x hx => hc x (List.mem_cons_of_mem _ hx)) h3
    rw [List.length_cons, List.length_cons]
    omega
theorem joinL_app (S : List Nat) : ∀ (ps : List (List Nat)) (q : List Nat), ps ≠ [] → TL.joinL S (ps ++ [q]) = TL.joinL S ps ++ (S ++ q)
  | [], q, h => absurd rfl h
  | [p], q, _ => rfl
  | p :: p2 :: r, q, _ => by
    have := joinL_app S (p2 :: r) q (by simp)
    show p ++ (S ++ TL.joinL S ((p2 :: r) ++ [q])) = (p ++ (S ++ TL.joinL S (p2 :: r))) ++ (S ++ q)
    rw [this]
    simp only [List.append_assoc]
theorem line_snoc {g : List Str} (h : g ≠ []) (w : Str) : line (g ++ [w]) = line g ++ sp ++ w := by
  apply TL.ext_tl
  rw [tl_line, List.map_append, TL.tl_append, TL.tl_append, tl_line, tl_sp]
  show TL.joinL [32] (g.map TL.tl ++ [TL.tl w]) = _
  rw [joinL_app _ _ _ (fun z => h (List.map_eq_nil_iff.mp z)), List.append_assoc]
theorem full_ext {wide : Int} {g : List Str} (hg : g ≠ []) (w : Str) : ∀ {gs : List (List Str)}, Full wide (gs ++ [g]) → Full wide (gs ++ [g ++ [w]])
  | [], _ => trivial
  | [c], h => by
    obtain ⟨⟨x, t, e, hw⟩, _⟩ := h
    exact ⟨⟨x, t ++ [w], by rw [e]; rfl, hw⟩, trivial⟩
  | c :: d :: r, h => ⟨h.1, full_ext hg w (gs := d :: r) h.2⟩
theorem full_new {wide : Int} {g : List Str} {w : Str} (hw : wide < ((line g).length : Int) + 1 + (w.length : Int)) : ∀ {gs : List (List Str)}, Full wide (gs ++ [g]) → Full wide (gs ++ [g] ++ [[w]])
  | [], _ => ⟨⟨w, [], rfl, hw⟩, trivial⟩
  | [c], h => ⟨h.1, ⟨w, [], rfl, hw⟩, trivial⟩
  | c :: d :: r, h => ⟨h.1, full_new hw (gs := d :: r) h.2⟩
/-- how the lines stand behind i words -/
structure Fil (wide : Int) (ws : List Str) (i : Nat) (gs : List (List Str)) : Prop where
  flat : gs.flatten = ws.take i
  fit : ∀ g ∈ gs, fit wide g
  full : Full wide gs
theorem fil_zero (wide : Int) (ws : List Str) : Fil wide ws 0 [] := ⟨rfl, (fun g h => by cases h), trivial⟩
theorem fil_ext {wide : Int} {ws : List Str} {i : Nat} {gs : List (List Str)} {g : List Str} {w : Str} (t : Fil wide ws i (gs ++ [g])) (hw : ws[i]? = some w) (hf : ((line g).length : Int) + 1 + (w.length : Int) ≤ wide) : Fil wide ws (i + 1) (gs ++ [g ++ [w]]) := by
  have hg := t.fit g (List.mem_append_right _ List.mem_cons_self)
  refine ⟨?_, fun x hx => ?_, full_ext hg.1 w t.full⟩
  · have := t.flat
    rw [List.take_add_one, hw, ← this]
    simp
  · rcases List.mem_append.mp hx with hx | hx
    · exact t.fit x (List.mem_append_left _ hx)
    · rw [List.mem_singleton.mp hx]
      refine ⟨by simp, ?_⟩
      have l1 := line_len (show g ++ [w] ≠ [] by simp)
      have l2 := line_len hg.1
      rw [tot_app, tot, tot] at l1
      omega
theorem fil_new {wide : Int} {ws : List Str} {i : Nat} {gs : List (List Str)} {w : Str} (t : Fil wide ws i gs) (hw : ws[i]? = some w) (hl : (w.length : Int) ≤ wide) (hf : ∀ gs' g, gs = gs' ++ [g] → wide < ((line g).length : Int) + 1 + (w.length : Int)) : Fil wide ws (i + 1) (gs ++ [[w]]) := by
  refine ⟨by rw [List.flatten_append, t.flat, List.take_add_one, hw]; rfl, fun x hx => ?_, ?_⟩
  · rcases List.mem_append.mp hx with hx | hx
    · exact t.fit x hx
    · rw [List.mem_singleton.mp hx]
      exact ⟨by simp, by rw [line_one]; exact hl⟩
  · rcases List.eq_nil_or_concat gs with rfl | ⟨gs', g, rfl⟩
    · trivial
    · rw [List.concat_eq_append] at t hf ⊢
      exact full_new (hf gs' g rfl) t.full
end M8
set_option Elab.async false
set_option linter.all false
set_option maxRecDepth 100000
set_option maxHeartbeats 4000000
namespace M8
open PySem PySem.Spec PyProof.Rows L2 PL
open PySem.W (Datum DatumOrd Tup)
abbrev lsD (gs : List (List Str)) : List PyData := (gs.map line).map .str
theorem fil_len {wide : Int} {ws : List Str} {i : Nat} {gs : List (List Str)} (t : Fil wide ws i gs) : gs.length ≤ ws.length := by
  have := flat_len fun g hg => (t.fit g hg).1
  rw [t.flat, List.length_take] at this
  omega
theorem fil_line {wide : Int} {ws : List Str} {i : Nat} {gs : List (List Str)} (t : Fil wide ws i gs) (gd : Good ws) {g : List Str} (hg : g ∈ gs) : (line g).length ≤ 100 := by
  have h1 := line_len (t.fit g hg).1
  have h2 : tot g ≤ tot gs.flatten := by
    clear t h1
    induction gs with
    | nil => cases hg
    | cons x r ih =>
      rw [List.flatten_cons, tot_app]
      rcases List.mem_cons.mp hg with e | hg
      · rw [e]; omega
      · have := ih hg; omega
  rw [t.flat] at h2
  have := tot_take ws i
  have := gd.tot
  omega
theorem p_filled (a : Ad) {wide : Int} (w0 : 0 ≤ wide) (w1' : wide ≤ 1000) {ws : List Str} (gd : Good ws) (hbad : ws.any (bad wide) = false) (hfit : ∀ w ∈ ws, (w.length : Int) ≤ wide) (Q : PyData → Prop) (E : Exn → Prop) (hQ : ∀ gs, Fil wide ws ws.length gs → Q (.tuple (lsD gs))) :
    c_filled a [.sh (wsD ws), .sh (.int wide)] Q E := by
  show u_filled a [.sh (wsD ws), .sh (.int wide), .un, .un] _
  have hn := gd.few
  unfold u_filled
  show wT (wGen PyData.bool (wItL (wVar 0)) (gNameD 3) wYes (wOrV (w2 (fC fun i j => decide (j < i)) (w1 fLen (wRd 3)) (wRd 1)) (w2 (fEq false) (wRd 3) (wC (.str "")))) [3] rAnyD) _ (fun k => if k = true then _ else _) _
  refine any_bad (v := 3) (ρ := [.sh (wsD ws), .sh (.int wide), .un, .un]) (ws := ws) (wide := wide) rfl (fun _ => rfl) (fun _ => rfl) (fun i hi s hs => ?_) (fun w hw => le_size ?_) ?_
  · rw [List.mem_singleton.mp hi] at hs
    cases hs
    rfl
  · have := tot_mem hw
    have := gd.tot
    omega
  rw [hbad, if_neg (by decide)]
  refine ⟨Nat.zero_le _, ?_⟩
  refine goFor_by (fun i ρ => ∃ gs s3, Fil wide ws i gs ∧ i ≤ ws.length ∧ ρ = [.sh (wsD ws), .sh (.int wide), .ol (lsD gs), s3]) ?_ ?_ _ ⟨[], .un, fil_zero wide ws, Nat.zero_le _, rfl⟩
  · rintro i d ρ N hN hd ⟨gs, s3, t, hi, rfl⟩
    rw [List.getElem?_map] at hd
    cases hw : ws[i]? with
    | none => rw [hw] at hd; cases hd
    | some w =>
      rw [hw] at hd
      cases hd
      have hil := (List.getElem?_eq_some_iff.mp hw).1
      have hwm := List.mem_of_getElem? hw
      have hwl := hfit w hwm
      have hws : w.length ≤ 100 := by have := tot_mem hwm; have := gd.tot; omega
      have hgl := fil_len t
      have app : (∀ gs' g, gs = gs' ++ [g] → wide < ((line g).length : Int) + 1 + (w.length : Int)) → sApp 2 (wVar 3) [.sh (wsD ws), .sh (.int wide), .ol (lsD gs), .sh (.str w)] { nx := N, rt := Q, bk := fun ρ' => sRet (w1 fTuple (wRd 2)) ρ' { nx := fun _ => Q .none, rt := Q, ex := E }, ct := N, ex := E } := fun hf =>
        ⟨lt_size' (by rw [List.length_map, List.length_map]; omega), hN _ ⟨gs ++ [[w]], .sh (.str w), fil_new t hw hwl hf, hil, by simp [lsD, line_one]⟩⟩
      refine ⟨Nat.zero_le _, ⟨PlD (gs.map line), PlD ([] : List Str)⟩, ?_⟩
      show if (!PyData.eqv (wsD (gs.map line)) (wsD [])) = true then _ else _
      rw [eqv_ws]
      rcases List.eq_nil_or_concat gs with rfl | ⟨gs', g, rfl⟩
      · rw [if_neg (by decide)]
        exact app fun gs' g h => by simp at h
      · rw [List.concat_eq_append] at t app hgl ⊢
        rw [if_pos (by simp)]
        have ix : atI (lsD (gs' ++ [g])) (-1) = some (.str (line g)) := by
          unfold atI ixN
          rw [List.length_map, List.length_map, List.length_append, List.length_singleton, if_neg (by omega), if_pos (by omega)]
          show (lsD (gs' ++ [g]))[(-1 + ((gs'.length + 1 : Nat) : Int)).toNat]? = _
          rw [show (-1 + ((gs'.length + 1 : Nat) : Int)).toNat = gs'.length by omega]
          simp [lsD]
        have hll := fil_line t gd (List.mem_append_right gs' List.mem_cons_self : g ∈ gs' ++ [g])
        conv => whnf
        rw [ix]
        refine ⟨le_size (show (line g).length ≤ 1000 by omega), le_size (show w.length ≤ 1000 by omega), ?_⟩
        show if decide (((line g).length : Int) + 1 + (w.length : Int) ≤ wide) = true then _ else _
        by_cases c : ((line g).length : Int) + 1 + (w.length : Int) ≤ wide
        · rw [if_pos (decide_eq_true c)]
          conv => whnf
          rw [ix]
          have e1 : (line g ++ sp).length = (line g).length + 1 := Str.length_append _ _
          refine ⟨le_size (show (line g).length + 1 ≤ 1000 by omega), le_size (show (line g ++ sp).length + w.length ≤ 1000 by omega), gs'.length, ?_, hN _ ⟨gs' ++ [g ++ [w]], .sh (.str w), fil_ext t hw c, hil, ?_⟩⟩
          · show ixN (lsD (gs' ++ [g])).length (-1) = some gs'.length
            unfold ixN
            rw [List.length_map, List.length_map, List.length_append, List.length_singleton, if_neg (by omega), if_pos (by omega)]
            rw [show (-1 + ((gs'.length + 1 : Nat) : Int)).toNat = gs'.length by omega]
          · have e2 : (lsD (gs' ++ [g])).set gs'.length (.str (line g ++ sp ++ w)) = lsD (gs' ++ [g ++ [w]]) := by
              rw [← line_snoc (t.fit g (List.mem_append_right _ List.mem_cons_self)).1 w]
              simp [lsD, List.set_append]
            rw [← e2]
            rfl
        · rw [if_neg (by rw [decide_eq_false c]; decide)]
          refine app fun gs2 g2 h => ?_
          have := List.append_inj_right' h rfl
          cases this
          omega
  · rintro ρ ⟨gs, s3, t, hi, rfl⟩
    have hl : (ws.map PyData.str).length = ws.length := List.length_map _
    rw [hl] at t
    exact hQ gs t
end M8
set_option Elab.async false
set_option linter.all false
set_option maxRecDepth 100000
set_option maxHeartbeats 1000000
/-! a line widened by blanks -/
namespace M8
open PySem PySem.W
/-- blanks behind the k-th word -/
def gap (b m k : Nat) : Nat := b / m + if k < b % m then 1 else 0
def spr (b m : Nat) : Nat → List Str → Str → Str
  | _, [], acc => acc
  | k, w :: r, acc => spr b m (k + 1) r (acc ++ (PL.repS sp (gap b m k) ++ w))
theorem tl_rep (n : Nat) : TL.tl (PL.repS sp n) = List.replicate n 32 := by
  have key : ∀ (n : Nat) (acc : Array Nat), ((List.replicate n sp.cps).foldl (· ++ ·) acc).toList = acc.toList ++ List.replicate n 32 := by
    intro n
    induction n with
    | zero => intro acc; simp
    | succ n ih =>
      intro acc
      rw [List.replicate_succ, List.foldl_cons, ih, Array.toList_append, show sp.cps.toList = [32] from tl_sp, List.append_assoc, List.replicate_succ]
      rfl
  exact (key n #[]).trans (List.nil_append _)
theorem spr_tl (b m : Nat) : ∀ (ws : List Str) (k : Nat) (acc : Str), TL.tl (spr b m k ws acc) = TL.tl acc ++ ((List.range ws.length).zip ws).flatMap fun p => List.replicate (gap b m (k + p.1)) 32 ++ TL.tl p.2
  | [], k, acc => by simp [spr]
  | w :: r, k, acc => by
    rw [spr, spr_tl b m r (k + 1), TL.tl_append, TL.tl_append, tl_rep, List.length_cons, List.range_succ_eq_map, List.zip_cons_cons, List.flatMap_cons, Nat.add_zero, List.append_assoc]
    congr 2
    rw [List.zip_map_left, List.flatMap_map]
    simp only [Prod.map, id]
    congr 1
    funext p
    rw [show k + 1 + p.1 = k + Nat.succ p.1 by omega]
/-! ### the scan -/
def scan1 (s : List Int × Int) (c : Nat) : List Int × Int := if c = 32 then (s.1, s.2 + 1) else if 0 < s.2 then (s.1 ++ [s.2], 0) else s
theorem scan_word0 : ∀ (l : List Nat) (gs : List Int), 32 ∉ l → l.foldl scan1 (gs, 0) = (gs, 0)
  | [], gs, _ => rfl
  | c :: r, gs, h => by
    rw [List.foldl_cons, scan1, if_neg (fun e => h (by rw [e]; exact List.mem_cons_self)), if_neg (Int.lt_irrefl 0)]
    exact scan_word0 r gs fun z => h (List.mem_cons_of_mem _ z)
theorem scan_word {l : List Nat} (hn : l ≠ []) (h : 32 ∉ l) {gs : List Int} {n : Int} (h0 : 0 < n) : l.foldl scan1 (gs, n) = (gs ++ [n], 0) := by
  cases l with
  | nil => exact absurd rfl hn
  | cons c r =>
    rw [List.foldl_cons, scan1, if_neg (fun e => h (by rw [e]; exact List.mem_cons_self)), if_pos h0]
    exact scan_word0 r _ fun z => h (List.mem_cons_of_mem _ z)
theorem scan_gap : ∀ (n : Nat) (gs : List Int) (k : Int), (List.replicate n 32).foldl scan1 (gs, k) = (gs, k + n)
  | 0, gs, k => by simp
  | n + 1, gs, k => by
    rw [List.replicate_succ, List.foldl_cons, scan1, if_pos rfl, scan_gap n]
    show (gs, k + 1 + (n : Int)) = _
    congr 1
    omega
theorem scan_spr (b m : Nat) : ∀ (ws : List Str) (k : Nat) (acc : Str) (gs : List Int), (∀ w ∈ ws, TL.tl w ≠ [] ∧ 32 ∉ TL.tl w) → (∀ j, k ≤ j → j < k + ws.length → 0 < gap b m j) → (TL.tl acc).foldl scan1 ([], 0) = (gs, 0) →
    (TL.tl (spr b m k ws acc)).foldl scan1 ([], 0) = (gs ++ (List.range ws.length).map fun j => ((gap b m (k + j) : Nat) : Int), 0)
  | [], k, acc, gs, _, _, h => by simpa [spr] using h
  | w :: r, k, acc, gs, hw, hg, h => by
    have h0 := hw w List.mem_cons_self
    have hgk := hg k (Nat.le_refl _) (by rw [List.length_cons]; omega)
    rw [spr, scan_spr b m r (k + 1) _ (gs ++ [((gap b m k : Nat) : Int)]) (fun x hx => hw x (List.mem_cons_of_mem _ hx)) (fun j h1 h2 => hg j (by omega) (by rw [List.length_cons]; omega))]
    · rw [List.length_cons, List.range_succ_eq_map, List.map_cons, List.map_map, Nat.add_zero, List.append_assoc]
      congr 2
      refine congrArg (List.cons _) (List.map_congr_left fun j _ => ?_)
      show ((gap b m (k + 1 + j) : Nat) : Int) = ((gap b m (k + (j + 1)) : Nat) : Int)
      rw [show k + 1 + j = k + (j + 1) by omega]
    · rw [TL.tl_append, TL.tl_append, tl_rep, List.foldl_append, List.foldl_append, h, scan_gap, scan_word h0.1 h0.2 (by omega), Int.zero_add]
end M8
set_option Elab.async false
set_option linter.all false
set_option maxRecDepth 100000
set_option maxHeartbeats 1000000
namespace M8
open PySem PySem.Spec PyProof.Rows L2 PL
open PySem.W (Datum DatumOrd Tup)
def gaps (b m : Nat) : List Int := (List.range m).map fun j => ((gap b m j : Nat) : Int)
theorem gap_sum' (b m : Nat) : ∀ n, n ≤ m → ((List.range n).map (gap b m)).sum = n * (b / m) + min n (b % m)
  | 0, _ => by simp
  | n + 1, h => by
    rw [List.range_succ, List.map_append, List.sum_append, gap_sum' b m n (by omega)]
    simp only [List.map_cons, List.map_nil, List.sum_cons, List.sum_nil, gap, Nat.add_mul]
    split <;> omega
theorem gap_sum {b m : Nat} (h : 0 < m) : ((List.range m).map (gap b m)).sum = b := by
  rw [gap_sum' b m m (Nat.le_refl _), Nat.min_eq_right (Nat.le_of_lt (Nat.mod_lt _ h))]
  exact Nat.div_add_mod b m
theorem gap_le (b m j k : Nat) : gap b m j ≤ gap b m k + 1 := by unfold gap; split <;> split <;> omega
theorem gap_mono (b m : Nat) {j k : Nat} (h : j ≤ k) : gap b m k ≤ gap b m j := by unfold gap; split <;> split <;> omega
theorem gap_pos {b m : Nat} (h0 : 0 < m) (h : m ≤ b) (k : Nat) : 0 < gap b m k := by
  have : 0 < b / m := Nat.div_pos h h0
  unfold gap
  omega
theorem gap_leb (b m k : Nat) : gap b m k ≤ b + 1 := by
  have := Nat.div_le_self b m
  unfold gap
  split <;> omega
theorem gaps_desc (b m : Nat) : (gaps b m).Pairwise (fun x y => y ≤ x) := by
  unfold gaps
  rw [List.pairwise_map]
  refine List.Pairwise.imp (fun {x y} h => ?_) (List.pairwise_lt_range (n := m))
  have := gap_mono b m (Nat.le_of_lt h)
  omega
theorem spr_snoc (b m : Nat) (x : Str) : ∀ (l : List Str) (k : Nat) (acc : Str), spr b m k (l ++ [x]) acc = spr b m k l acc ++ (PL.repS sp (gap b m (k + l.length)) ++ x)
  | [], k, acc => rfl
  | w :: r, k, acc => by
    rw [List.cons_append, spr, spr_snoc b m x r (k + 1), spr, List.length_cons, show k + 1 + r.length = k + (r.length + 1) by omega]
theorem spr_len (b m : Nat) : ∀ (ws : List Str) (k : Nat) (acc : Str), (spr b m k ws acc).length = acc.length + ((List.range ws.length).map fun j => gap b m (k + j)).sum + (ws.map (·.length)).sum
  | [], k, acc => by simp [spr]
  | w :: r, k, acc => by
    have e : (acc ++ (PL.repS sp (gap b m k) ++ w)).length = acc.length + gap b m k + w.length := by
      rw [TL.len_tl, TL.tl_append, TL.tl_append, tl_rep, List.length_append, List.length_append, List.length_replicate, TL.len_tl acc, TL.len_tl w]
      omega
    rw [spr, spr_len b m r (k + 1), e, List.length_cons, List.range_succ_eq_map, List.map_cons, List.sum_cons, List.map_map, List.map_cons, List.sum_cons]
    simp only [Nat.add_zero]
    have : (List.map ((fun j => gap b m (k + j)) ∘ Nat.succ) (List.range r.length)) = (List.range r.length).map fun j => gap b m (k + 1 + j) := List.map_congr_left fun j _ => by
      show gap b m (k + (j + 1)) = _
      rw [show k + (j + 1) = k + 1 + j by omega]
    rw [this]
    omega
/-! splitting -/
def Clean (ch : List Str) : Prop := ∀ w ∈ ch, TL.tl w ≠ [] ∧ 32 ∉ TL.tl w
theorem split_line {ch : List Str} (h : ch ≠ []) (c : Clean ch) : Txt.split (line ch) sp = ch := TL.split_join (S := []) tl_sp (by decide +kernel) h fun p hp => (c p hp).2
theorem spl_acc (l rest acc : List Nat) (h : 32 ∉ l) : TL.spl [32] 0 acc (l ++ rest) = TL.spl [32] 0 (acc ++ l) rest := by
  induction l generalizing acc with
  | nil => rw [List.nil_append, List.append_nil]
  | cons c r ih =>
    rw [List.cons_append, TL.spl_miss (TL.pre_of_head [] _ fun e => h (by rw [e]; exact List.mem_cons_self)), ih _ fun z => h (List.mem_cons_of_mem _ z), List.append_assoc]
    rfl
theorem pre_sp (r : List Nat) : TL.pre [32] (32 :: r) = true := TL.pre_self [32] r
theorem spl_gap : ∀ (n : Nat) (rest : List Nat), (TL.spl [32] 0 [] (List.replicate n 32 ++ rest)).filter (· ≠ []) = (TL.spl [32] 0 [] rest).filter (· ≠ [])
  | 0, rest => rfl
  | n + 1, rest => by
    rw [List.replicate_succ, List.cons_append, TL.spl_hit (pre_sp _)]
    show (([] : List Nat) :: TL.spl [32] 0 [] (List.replicate n 32 ++ rest)).filter _ = _
    rw [List.filter_cons_of_neg (by simp), spl_gap n rest]
theorem spl_flat (b m : Nat) : ∀ (ws : List Str) (k : Nat) (acc : List Nat), acc ≠ [] → Clean ws → (∀ j, 0 < gap b m j) →
    (TL.spl [32] 0 acc (((List.range ws.length).zip ws).flatMap fun p => List.replicate (gap b m (k + p.1)) 32 ++ TL.tl p.2)).filter (· ≠ []) = acc :: ws.map TL.tl
  | [], k, acc, h, _, _ => by
    show (TL.spl [32] 0 acc []).filter _ = _
    rw [TL.spl_nil, List.filter_cons_of_pos (by simpa using h)]
    rfl
  | w :: r, k, acc, h, hc, hg => by
    have h0 := hc w List.mem_cons_self
    rw [List.length_cons, List.range_succ_eq_map, List.zip_cons_cons, List.flatMap_cons, Nat.add_zero, List.zip_map_left, List.flatMap_map]
    have e : (fun a : Nat × Str => List.replicate (gap b m (k + (Prod.map Nat.succ id a).1)) 32 ++ TL.tl (Prod.map Nat.succ id a).2) = fun p => List.replicate (gap b m (k + 1 + p.1)) 32 ++ TL.tl p.2 := by
      funext p
      show List.replicate (gap b m (k + (p.1 + 1))) 32 ++ TL.tl p.2 = _
      rw [show k + (p.1 + 1) = k + 1 + p.1 by omega]
    rw [e]
    obtain ⟨n, hn⟩ : ∃ n, gap b m k = n + 1 := ⟨gap b m k - 1, by have := hg k; omega⟩
    rw [hn, List.replicate_succ, List.cons_append, List.cons_append, TL.spl_hit (pre_sp _), List.filter_cons_of_pos (by simpa using h)]
    show acc :: (TL.spl [32] 0 [] _).filter _ = _
    rw [List.append_assoc, spl_gap, spl_acc _ _ _ h0.2, List.nil_append, spl_flat b m r (k + 1) _ h0.1 (fun x hx => hc x (List.mem_cons_of_mem _ hx)) hg]
    rfl
theorem split_spr (b m : Nat) {w : Str} {ws : List Str} (hc : Clean (w :: ws)) (hg : ∀ j, 0 < gap b m j) : (Txt.split (spr b m 0 ws w) sp).filter (fun z => !PyData.eqv (.str z) (.str "")) = w :: ws := by
  have h0 := hc w List.mem_cons_self
  have key := spl_flat b m ws 0 (TL.tl w) h0.1 (fun x hx => hc x (List.mem_cons_of_mem _ hx)) hg
  have e1 := spl_acc (TL.tl w) (((List.range ws.length).zip ws).flatMap fun p => List.replicate (gap b m (0 + p.1)) 32 ++ TL.tl p.2) [] h0.2
  rw [List.nil_append] at e1
  rw [← e1, ← spr_tl, ← tl_sp, ← TL.split_spl _ sp (by rw [tl_sp]; simp) (TL.kind_ok (by decide +kernel))] at key
  apply TL.map_tl_inj
  rw [← List.map_cons (f := TL.tl)] at key
  rw [← key, List.filter_map]
  refine congrArg _ (List.filter_congr fun z _ => ?_)
  have : PyData.eqv (.str z) (.str "") = decide (z = "") := Datum.eqv z ""
  rw [this]
  show (!decide (z = ("" : Str))) = decide (TL.tl z ≠ [])
  by_cases e : z = ("" : Str)
  · subst e; decide +kernel
  · rw [decide_eq_false e]
    symm
    rw [Bool.not_false, decide_eq_true_eq]
    exact fun h => e (TL.ext_tl (h.trans (by decide +kernel)))
end M8
set_option Elab.async false
set_option linter.all false
set_option maxRecDepth 100000
set_option maxHeartbeats 4000000
local macro_rules | `(tactic| walk_at "sz") => `(tactic| first | omega | (simp only [List.length_map, List.length_cons, List.length_nil, List.length_append, List.length_range, List.length_zipIdx] <;> omega))
local macro_rules | `(tactic| walk_at "pl") => `(tactic| first | exact U.pl_int _ | exact U.pl_str _ | exact U.pl_none | exact U.pl_bool _)
local macro_rules | `(tactic| walk_at "side") => `(tactic| first | exact True.intro | with_reducible exact rfl | exact U.le_size (by walk_at "sz") | exact U.lt_size (by walk_at "sz") | exact And.intro (by walk_at "pl") (by walk_at "pl") | exact And.intro (by walk_at "sz") (by walk_at "sz") | exact Or.inl (And.intro (by walk_at "sz") (by walk_at "sz")) | exact Or.inr (And.intro (by walk_at "sz") (by walk_at "sz")) | walk_at "sz")
local macro_rules | `(tactic| walk_at "wp") => `(tactic| ((conv => whnf); (try dsimp only); repeat (refine And.intro (by walk_at "side") ?_; (conv => whnf); (try dsimp only))))
namespace M8
open PySem PySem.Spec PyProof.Rows L2 PL
open PySem.W (Datum DatumOrd Tup)
def sums (ch : List Str) : Nat := (ch.map (·.length)).sum
theorem sums_tot (ch : List Str) : sums ch + ch.length = tot ch := by have := len_sum ch; unfold sums; omega
theorem sum_cast (ch : List Str) : (ch.map fun w => ((w.length : Nat) : Int)).sum = ((sums ch : Nat) : Int) := by
  unfold sums
  induction ch with
  | nil => rfl
  | cons w r ih => simp only [List.map_cons, List.sum_cons] at ih ⊢; rw [ih]; omega
theorem enum_get {ds : List PyData} {i : Nat} {d : PyData} (h : (enumD ds)[i]? = some d) : ∃ x, ds[i]? = some x ∧ d = .tuple [.int (i : Nat), x] := by
  unfold enumD at h
  rw [List.getElem?_map, List.getElem?_zipIdx] at h
  cases e : ds[i]? with
  | none => rw [e] at h; cases h
  | some x =>
    rw [e] at h
    simp only [Option.map_some, Option.some.injEq] at h
    exact ⟨x, rfl, by rw [← h, Nat.zero_add]⟩
theorem enum_len (ds : List PyData) : (enumD ds).length = ds.length := by unfold enumD; rw [List.length_map, List.length_zipIdx]
theorem spr_le (b m : Nat) (ws : List Str) (w : Str) : (spr b m 0 ws w).length ≤ w.length + ws.length * (b + 1) + tot ws := by
  rw [spr_len]
  have h1 : ∀ n, ((List.range n).map fun j => gap b m (0 + j)).sum ≤ n * (b + 1) := fun n => by
    induction n with
    | zero => simp
    | succ n ih =>
      rw [List.range_succ, List.map_append, List.sum_append, Nat.add_mul]
      have := gap_leb b m (0 + n)
      simp only [List.map_cons, List.map_nil, List.sum_cons, List.sum_nil]
      omega
  have := h1 ws.length
  have := sums_tot ws
  unfold sums at this
  omega
/-- the blanks to be spread -/
def blk (wide : Int) (ch : List Str) : Nat := (wide - sums ch).toNat
theorem p_spread (a : Ad) {wide : Int} (w0 : 0 ≤ wide) (w1' : wide ≤ 1000) {w : Str} {ws : List Str} (gd : Good (w :: ws)) (cl : Clean (w :: ws)) (Q : PyData → Prop) (E : Exn → Prop)
    (hQ : ws = [] ∨ (tot (w :: ws) : Int) ≤ wide + 1 → Q (.str (spr (blk wide (w :: ws)) ws.length 0 ws w))) (hE : wide + 1 < (tot (w :: ws) : Int) → ws ≠ [] → E ⟨a.x_NoWay, none⟩) :
    c_spread a [.sh (.str (line (w :: ws))), .sh (.int wide)] Q E := by
  show u_spread a [.sh (.str (line (w :: ws))), .sh (.int wide), .un, .un, .un, .un, .un] _
  have hln := gd.line (List.cons_ne_nil _ _)
  have hfew := gd.few
  have htot := gd.tot
  have hst := sums_tot (w :: ws)
  rw [List.length_cons] at hfew hst
  refine ⟨⟨by decide +kernel, le_size (by omega)⟩, ?_⟩
  rw [split_line (List.cons_ne_nil _ _) cl]
  refine ⟨⟨pl_int _, pl_int _⟩, ?_⟩
  show if PyData.eqv (.int ((w :: ws).map PyData.str).length) (.int 1) = true then _ else _
  rw [U.eqv_int, List.length_map, List.length_cons]
  cases hws : ws with
  | nil =>
    rw [if_pos (by decide)]
    subst hws
    have := hQ (.inl rfl)
    rw [show spr (blk wide [w]) ([] : List Str).length 0 [] w = line [w] from (line_one w).symm] at this
    exact this
  | cons x r =>
    rw [← hws]
    have hl : 0 < ws.length := by rw [hws]; simp
    rw [if_neg (by rw [decide_eq_true_eq]; omega)]
    refine ⟨fun i hi s hs => ?_, ?_⟩
    · rw [List.mem_singleton.mp hi] at hs
      cases hs
      rfl
    conv => whnf
    refine U.gen_map (enc := PyData.str) (w :: ws) (fun w => (w.length : Int)) (fun z hz => ⟨rfl, le_size ?_, rfl⟩) (fun bs hbs => ?_)
    · have := tot_mem hz; omega
    rw [hbs]
    refine ⟨trivial, ?_⟩
    walk_at "wp"
    show if decide (wide - ((w :: ws).map fun w => ((w.length : Nat) : Int)).sum < ((((w :: ws).map PyData.str).length : Nat) : Int) - 1) = true then _ else _
    rw [sum_cast, List.length_map, List.length_cons]
    by_cases c : wide - (sums (w :: ws) : Int) < ((ws.length + 1 : Nat) : Int) - 1
    · rw [if_pos (decide_eq_true c)]
      exact hE (by omega) (by rw [hws]; simp)
    · rw [if_neg (by rw [decide_eq_false c]; decide)]
      have hb : wide - (sums (w :: ws) : Int) = ((blk wide (w :: ws) : Nat) : Int) := by unfold blk; omega
      have hbl : ws.length ≤ blk wide (w :: ws) := by omega
      have hbw : blk wide (w :: ws) ≤ 1000 := by omega
      rw [hb]
      have hcut := cut_lo PyData.str (w :: ws) (k := 1) (by simp)
      conv => whnf
      rw [show atI (List.map PyData.str (w :: ws)) 0 = some (.str w) from U.at_nat (List.map PyData.str (w :: ws)) (i := 0)]
      show goFor _ _ _ (enumD (PL.cutD ((w :: ws).map PyData.str) (some ((1 : Nat) : Int)) none)) _
      rw [hcut]
      refine goFor_by (fun i ρ => ∃ s5 s6, i ≤ ws.length ∧ ρ = [.sh (.str (line (w :: ws))), .sh (.int wide), .sh (.list ((w :: ws).map .str)), .sh (.int ((blk wide (w :: ws) : Nat) : Int)), .sh (.str (spr (blk wide (w :: ws)) ws.length 0 (ws.take i) w)), s5, s6]) ?_ ?_ _ ⟨.un, .un, Nat.zero_le _, rfl⟩
      · rintro i d ρ N hN hd ⟨s5, s6, hi, rfl⟩
        obtain ⟨x', hx', rfl⟩ := enum_get hd
        rw [show List.drop 1 (w :: ws) = ws from rfl, List.getElem?_map] at hx'
        cases hz : ws[i]? with
        | none => rw [hz] at hx'; cases hx'
        | some z =>
          rw [hz] at hx'
          cases hx'
          have hil := (List.getElem?_eq_some_iff.mp hz).1
          have hzl : z.length ≤ 100 := by have := tot_mem (List.mem_cons_of_mem w (List.mem_of_getElem? hz)); omega
          have hm : ((((w :: ws).map PyData.str).length : Nat) : Int) - 1 = ((ws.length : Nat) : Int) := by rw [List.length_map, List.length_cons]; omega
          walk_at "wp"
          rw [hm]
          have hg : ((blk wide (w :: ws) : Nat) : Int) / ((ws.length : Nat) : Int) + (if decide ((i : Int) < ((blk wide (w :: ws) : Nat) : Int) % ((ws.length : Nat) : Int)) = true then 1 else 0) = ((gap (blk wide (w :: ws)) ws.length i : Nat) : Int) := by
            unfold gap
            have e1 : ((blk wide (w :: ws) : Nat) : Int) % ((ws.length : Nat) : Int) = ((blk wide (w :: ws) % ws.length : Nat) : Int) := rfl
            have e2 : ((blk wide (w :: ws) : Nat) : Int) / ((ws.length : Nat) : Int) = ((blk wide (w :: ws) / ws.length : Nat) : Int) := rfl
            rw [e1, e2]
            by_cases c : i < blk wide (w :: ws) % ws.length
            · rw [if_pos c, if_pos (decide_eq_true (by omega))]; omega
            · rw [if_neg c, if_neg (by rw [decide_eq_true_eq]; omega)]; omega
          rw [hg]
          have hgl := gap_leb (blk wide (w :: ws)) ws.length i
          have hrl : (PL.repS sp (gap (blk wide (w :: ws)) ws.length i)).length = gap (blk wide (w :: ws)) ws.length i := by rw [TL.len_tl, tl_rep, List.length_replicate]
          have hsl := spr_le (blk wide (w :: ws)) ws.length (ws.take i) w
          have htk : (ws.take i).length ≤ 7 := by rw [List.length_take]; omega
          have htt := tot_take ws i
          have htt2 : tot (w :: ws) = w.length + 1 + tot ws := rfl
          have hmul : (ws.take i).length * (blk wide (w :: ws) + 1) ≤ 7 * 1001 := Nat.mul_le_mul htk (by omega)
          have hsp : sp.length = 1 := by decide +kernel
          refine ⟨⟨by omega, U.le_size (by rw [show (Str.ofString " ").length = 1 from hsp, Int.toNat_natCast]; omega), by omega⟩, ?_⟩
          conv => whnf
          rw [Int.toNat_natCast]
          refine ⟨U.le_size (by rw [show (PL.repS (Str.ofString " ") (gap (blk wide (w :: ws)) ws.length i)).length = _ from hrl]; omega), ?_⟩
          have e1 : (PL.repS (Str.ofString " ") (gap (blk wide (w :: ws)) ws.length i) ++ z).length = gap (blk wide (w :: ws)) ws.length i + z.length := by
            rw [TL.len_tl, TL.tl_append, List.length_append, ← TL.len_tl, ← TL.len_tl, show (PL.repS (Str.ofString " ") (gap (blk wide (w :: ws)) ws.length i)).length = _ from hrl]
          refine ⟨U.le_size (by rw [e1]; omega), hN _ ⟨.sh (.int (i : Nat)), .sh (.str z), hil, ?_⟩⟩
          rw [List.take_add_one, hz]
          show _ = [_, _, _, _, Sl.sh (.str (spr (blk wide (w :: ws)) ws.length 0 (ws.take i ++ [z]) w)), _, _]
          rw [spr_snoc, List.length_take, Nat.min_eq_left hi, Nat.zero_add]
          rfl
      · rintro ρ ⟨s5, s6, hi, rfl⟩
        have e : (enumD ((List.drop 1 (w :: ws)).map PyData.str)).length = ws.length := by rw [enum_len, List.length_map]; rfl
        rw [e, List.take_length]
        exact hQ (.inr (by omega))
end M8
set_option Elab.async false
set_option linter.all false
set_option maxRecDepth 100000
set_option maxHeartbeats 4000000
local macro_rules | `(tactic| walk_at "sz") => `(tactic| first | omega | (simp only [List.length_map, List.length_cons, List.length_nil, List.length_append, List.length_range, List.length_zipIdx] <;> omega))
local macro_rules | `(tactic| walk_at "pl") => `(tactic| first | exact U.pl_int _ | exact U.pl_str _ | exact U.pl_none | exact U.pl_bool _)
local macro_rules | `(tactic| walk_at "side") => `(tactic| first | exact True.intro | with_reducible exact rfl | exact U.le_size (by walk_at "sz") | exact U.lt_size (by walk_at "sz") | exact And.intro (by walk_at "pl") (by walk_at "pl") | exact And.intro (by walk_at "sz") (by walk_at "sz") | exact Or.inl (And.intro (by walk_at "sz") (by walk_at "sz")) | exact Or.inr (And.intro (by walk_at "sz") (by walk_at "sz")) | exact And.intro (by decide +kernel) (U.le_size (by walk_at "sz")) | walk_at "sz")
local macro_rules | `(tactic| walk_at "wp") => `(tactic| ((conv => whnf); (try dsimp only); repeat (refine And.intro (by walk_at "side") ?_; (conv => whnf); (try dsimp only))))
namespace M8
open PySem PySem.Spec PyProof.Rows L2 PL
open PySem.W (Datum DatumOrd Tup)
def v_law_0 (a : Ad) : SW :=
 (sPar 2 3 (wCons (wLc (wRng1 (wCons (wCall 2 (c__law_roll a) (wpDc 1 (wpSh (wC (.int 8)) wpNil))) wNil)) (gNameD 6) wYes (wSl fSlS (wC (.str "abcde")) wNo (wSo (w2 fAdd (wC (.int 1)) (wCall 2 (c__law_roll a) (wpDc 1 (wpSh (wC (.int 5)) wpNil)))))) [6]) (wCons (w2 fAdd (wC (.int 5)) (wCall 2 (c__law_roll a) (wpDc 1 (wpSh (wC (.int 6)) wpNil)))) wNil)))
def v_law_1 (a : Ad) : SW :=
 (sSet 4 (wCall 2 (c__law_ways a 8) (wpSh (wVar 2) (wpSh (wVar 3) wpNil))))
def v_law_2 (a : Ad) : SW :=
 (sIf (wT (w2 (fEq true) (wCall 2 (c_broken a) (wpSh (wVar 2) (wpSh (wVar 3) wpNil))) (w1 fMin (wRd 4)))) (sRet (wC (.bool false))) sNil)
def v_law_3 (a : Ad) : SW :=
 (sSet 5 (wCall 2 (c_filled a) (wpSh (wVar 2) (wpSh (wVar 3) wpNil))))
def v_law_4 (a : Ad) : SW :=
 (sIf (wOr (wT (w2 (fEq true) (w1 fLen (wRd 5)) (w1 fMin (wLc (wItL (wVar 4)) (gTupD 2 (gConsD (gNameD 11) (gConsD (gNameD 12) gNilD))) wYes (w1 fLen (wRd 12)) [11, 12])))) (wT (w2 (fIn true) (wRd 5) (wLc (wItL (wVar 4)) (gTupD 2 (gConsD (gNameD 11) (gConsD (gNameD 12) gNilD))) wYes (wVar 12) [11, 12])))) (sRet (wC (.bool false))) sNil)
def v_law_5 (a : Ad) : SW :=
 (sFor (wRng2 (wCons (wC (.int 1)) (wCons (w1 fLen (wRd 5)) wNil))) (gNameD 6)
 (sIf (wT (w2 (fC fun i j => decide (i ≤ j)) (w2 fAdd (w2 fAdd (w1 fLen (w2 fIx (wRd 5) (w2 (fI CT fun i j => i - j) (wRd 6) (wC (.int 1))))) (wC (.int 1))) (w1 fLen (w2 fIx (wM1 fSplit (w2 fIx (wRd 5) (wRd 6)) (wC (.str " "))) (wC (.int 0))))) (wRd 3))) (sRet (wC (.bool false))) sNil))
def v_law_6 (a : Ad) : SW :=
 (sFor (wItT (wVar 5)) (gNameD 7)
 (sSeq (sSet 8 (wCall 2 (c_spread a) (wpSh (wVar 7) (wpSh (wVar 3) wpNil))))
 (sSeq (sPar 9 10 (wCons (wLst wNil) (wCons (wC (.int 0)) wNil)))
 (sSeq (sFor (wRng1 (wCons (w1 fLen (wRd 8)) wNil)) (gNameD 6)
 (sIf (wT (w2 (fEq false) (w2 fIx (wRd 8) (wRd 6)) (wC (.str " ")))) (sSet 10 (w2 fAdd (wRd 10) (wC (.int 1)))) (sIf (wT (w2 (fC fun i j => decide (j < i)) (wRd 10) (wC (.int 0)))) (sPar 9 10 (wCons (w2 fCat (wRd 9) (wLst (wCons (wVar 10) wNil))) (wCons (wC (.int 0)) wNil))) sNil)))
 (sSeq (sIf (wAnd (wT (w2 (fIn false) (wC (.str " ")) (wRd 7))) (wOr (wT (w2 (fEq true) (w1 fLen (wRd 8)) (wRd 3))) (wOr (wT (w2 (fC fun i j => decide (j < i)) (w2 (fI CT fun i j => i - j) (w1 fMax (wRd 9)) (w1 fMin (wRd 9))) (wC (.int 1)))) (wT (w2 (fEq true) (wRd 9) (wLR (w1 fSorted (wRd 9)))))))) (sRet (wC (.bool false))) sNil)
 (sSeq (sIf (wT (w2 (fEq true) (wLc (wItL (wM1 fSplit (wVar 8) (wC (.str " ")))) (gNameD 13) (wT (w2 (fEq true) (wRd 13) (wC (.str "")))) (wVar 13) [13]) (wM1 fSplit (wVar 7) (wC (.str " "))))) (sRet (wC (.bool false))) sNil)
 (sIf (wAnd (wT (w2 (fIn true) (wC (.str " ")) (wRd 7))) (wT (w2 (fEq true) (wRd 8) (wRd 7)))) (sRet (wC (.bool false))) sNil)))))))
def v_law_7 (a : Ad) : SW :=
 (sIf (wT (w2 (fEq true) (wTold (hsT a) (wCall 2 (c_broken a) (wpSh (wLst (wCons (wC (.str "abcdef")) wNil)) (wpSh (wC (.int 5)) wpNil)))) (wC (.str "no way")))) (sRet (wC (.bool false))) sNil)
def v_law_8 (a : Ad) : SW :=
 (sIf (wT (w2 (fEq true) (wTold (hsT a) (wCall 2 (c_spread a) (wpSh (wC (.str "ab cd")) (wpSh (wC (.int 4)) wpNil)))) (wC (.str "no way")))) (sRet (wC (.bool false))) sNil)
theorem u_law_parts (a : Ad) : u_law a = (sSeq (v_law_0 a) (sSeq (v_law_1 a) (sSeq (v_law_2 a) (sSeq (v_law_3 a) (sSeq (v_law_4 a) (sSeq (v_law_5 a) (sSeq (v_law_6 a) (sSeq (v_law_7 a) (v_law_8 a))))))))) := rfl
structure Wd (w : Str) : Prop where
  ne : TL.tl w ≠ []
  no : 32 ∉ TL.tl w
  few : w.length ≤ 5
structure Cell (ws : List Str) (wide : Int) : Prop where
  few : ws.length ≤ 7
  wd : ∀ w ∈ ws, Wd w
  lo : 5 ≤ wide
  hi : wide ≤ 10
theorem Cell.good {ws : List Str} {wide : Int} (c : Cell ws wide) : Good ws := ⟨c.few, by
  have : ∀ l : List Str, (∀ w ∈ l, Wd w) → tot l ≤ 6 * l.length := fun l => by
    induction l with
    | nil => intro _; exact Nat.zero_le _
    | cons w r ih =>
      intro h
      have h1 := ih fun x hx => h x (List.mem_cons_of_mem _ hx)
      have h2 := (h w List.mem_cons_self).few
      rw [tot, List.length_cons]
      omega
  have := this ws c.wd
  have := c.few
  omega⟩
theorem Cell.fit {ws : List Str} {wide : Int} (c : Cell ws wide) : ∀ w ∈ ws, (w.length : Int) ≤ wide := fun w hw => by
  have := (c.wd w hw).few
  have := c.lo
  omega
theorem Cell.bad {ws : List Str} {wide : Int} (c : Cell ws wide) : ws.any (bad wide) = false := by
  rw [List.any_eq_false]
  intro w hw
  have h1 := c.fit w hw
  have h2 := (c.wd w hw).ne
  unfold M8.bad
  rw [decide_eq_false (by omega), Bool.false_or, U.eqv_str, decide_eq_true_eq]
  intro e
  exact h2 (by rw [e]; decide +kernel)
theorem pref_ok (r : Int) (h0 : 0 ≤ r) (h1 : r < 5) : Wd (cutS "abcde" none (some (1 + r))) := by
  have : r = 0 ∨ r = 1 ∨ r = 2 ∨ r = 3 ∨ r = 4 := by omega
  rcases this with rfl | rfl | rfl | rfl | rfl <;> exact ⟨by decide +kernel, by decide +kernel, by decide +kernel⟩
abbrev E0 (s2 s3 s4 s5 s6 s7 s8 s9 s10 s11 s12 s13 : Sl) : En := [.un, .dice, s2, s3, s4, s5, s6, s7, s8, s9, s10, s11, s12, s13]
theorem lc_words (a : Ad) {Q : List PyData → Prop} (hQ : ∀ ws : List Str, ws.length ≤ 7 → (∀ w ∈ ws, Wd w) → Q (ws.map .str)) : ∀ (ds : List PyData) (acc : List Str), (∀ w ∈ acc, Wd w) → acc.length + ds.length ≤ 7 →
    goLc (gNameD 6) wYes (wSl fSlS (wC (.str "abcde")) wNo (wSo (w2 fAdd (wC (.int 1)) (wCall 2 (c__law_roll a) (wpDc 1 (wpSh (wC (.int 5)) wpNil)))))) (E0 .un .un .un .un .un .un .un .un .un .un .un .un) ds (acc.map .str) Q
  | [], acc, h, hl => hQ acc (by simpa using hl) h
  | d :: ds, acc, h, hl => by
    rw [List.length_cons] at hl
    refine ⟨rfl, rfl, p_roll a 5 _ _ (by omega) (by omega) fun r h0 h1 => ?_⟩
    refine ⟨U.le_size (by decide +kernel), U.lt_size (by rw [List.length_map]; omega), ?_⟩
    have := lc_words a hQ ds (acc ++ [cutS "abcde" none (some (1 + r))]) (fun w hw => by
      rcases List.mem_append.mp hw with hw | hw
      · exact h w hw
      · rw [List.mem_singleton.mp hw]; exact pref_ok r h0 h1) (by rw [List.length_append, List.length_singleton]; omega)
    rwa [List.map_append] at this
theorem s0 (a : Ad) (D : PEn) (h : ∀ ws wide, Cell ws wide → D.nx (E0 (.sh (wsD ws)) (.sh (.int wide)) .un .un .un .un .un .un .un .un .un .un)) : v_law_0 a ((uns N_law.length).set 1 .dice) D := by
  refine ⟨fun i hi s hs => ?_, ?_⟩
  · rw [List.mem_singleton.mp hi] at hs
    cases hs
    rfl
  refine ⟨rfl, rfl, p_roll a 8 _ _ (by omega) (by omega) fun n h0 h1 => ⟨⟨by omega, by omega⟩, ?_⟩⟩
  refine lc_words a (fun ws hl hw => ?_) (rangeD 0 n.toNat) [] (fun w hw => by cases hw) (by rw [rangeD, List.length_map, List.length_range]; simp only [List.length_nil]; omega)
  refine ⟨rfl, rfl, p_roll a 6 _ _ (by omega) (by omega) fun m h2 h3 => ?_⟩
  exact h ws (5 + m) ⟨hl, hw, by omega, by omega⟩
theorem noown {vs : List Nat} {ρ : En} (h : (vs.all fun i => match ρ[i]? with | some s => !s.owned | none => true) = true) : NoOwn vs ρ := fun i hi s hs => by
  have := List.all_eq_true.mp h i hi
  rw [hs] at this
  simpa using this
theorem fil_sol {wide : Int} {ws : List Str} {gs : List (List Str)} (f : Fil wide ws ws.length gs) : ∃ r, Sol wide ws r ∧ r.2 = ⟨gs.map line⟩ := ⟨_, ⟨gs, by rw [f.flat, List.take_length], f.fit, rfl⟩, rfl⟩
theorem s4 (a : Ad) (D : PEn) {ws : List Str} {wide : Int} (c : Cell ws wide) {gs : List (List Str)} (f : Fil wide ws ws.length gs) (s6 s7 s8 s9 s10 s11 s12 s13 : Sl) (hs : s11.owned = false ∧ s12.owned = false)
    (h : D.nx (E0 (.sh (wsD ws)) (.sh (.int wide)) (.sh (.list ((ways wide 8 ws).map rD))) (.sh (.tuple (lsD gs))) s6 s7 s8 s9 s10 s11 s12 s13)) :
    v_law_4 a (E0 (.sh (wsD ws)) (.sh (.int wide)) (.sh (.list ((ways wide 8 ws).map rD))) (.sh (.tuple (lsD gs))) s6 s7 s8 s9 s10 s11 s12 s13) D := by
  have hfew := c.few
  obtain ⟨r0, hr0, er0⟩ := fil_sol f
  have hm : r0 ∈ ways wide 8 ws := (mem_ways (by omega)).mpr hr0
  have hlen : (ways wide 8 ws).length ≤ 100000 := by
    have h1 := (ways_len wide 8 ws).1
    have : 2 ^ ws.length ≤ 2 ^ 7 := Nat.pow_le_pow_right (by omega) hfew
    omega
  have no : NoOwn [11, 12] (E0 (.sh (wsD ws)) (.sh (.int wide)) (.sh (.list ((ways wide 8 ws).map rD))) (.sh (.tuple (lsD gs))) s6 s7 s8 s9 s10 s11 s12 s13) := noown (by simp [hs.1, hs.2])
  refine ⟨no, ?_⟩
  conv => whnf
  refine U.lc_map (enc := rD) (enco := PyData.int) (ways wide 8 ws) (fun r => (r.2.items.length : Int)) (fun r hr Y hY => ?_) hlen ?_
  · walk_at "wp"
    rw [List.length_map]
    exact hY
  obtain ⟨x, xs, hx⟩ : ∃ x xs, ways wide 8 ws = x :: xs := by
    cases e : ways wide 8 ws with
    | nil => rw [e] at hm; cases hm
    | cons x xs => exact ⟨x, xs, rfl⟩
  have em : (ways wide 8 ws).map (fun r => (r.2.items.length : Int)) = (x.2.items.length : Int) :: xs.map (fun r => (r.2.items.length : Int)) := by rw [hx, List.map_cons]
  rw [em]
  refine U.p_min (x.2.items.length : Int) (xs.map (fun r => (r.2.items.length : Int))) ?_
  have hgl : PySem.W.minOf (x.2.items.length : Int) (xs.map (fun r => (r.2.items.length : Int))) = ((lsD gs).length : Int) := by
    have h1 := U.minOf_mem (x.2.items.length : Int) (xs.map (fun r => (r.2.items.length : Int)))
    have h2 := U.minOf_int (x.2.items.length : Int) (xs.map (fun r => (r.2.items.length : Int)))
    rw [← em] at h1 h2
    obtain ⟨r, hr, er⟩ := List.mem_map.mp h1
    obtain ⟨cs, k1, k2, k3⟩ := (mem_ways (by omega)).mp hr
    have g1 : gs.length ≤ cs.length := greedy_le gs cs [] (fun g hg => (f.fit g hg).1) f.full k2 (by rw [k1, f.flat, List.take_length]; rfl)
    have g2 : r.2.items.length = cs.length := by rw [k3]; show (cs.map line).length = _; rw [List.length_map]
    have g3 := h2 _ (List.mem_map.mpr ⟨r0, hm, rfl⟩)
    have g4 : r0.2.items.length = gs.length := by rw [er0]; show (gs.map line).length = _; rw [List.length_map]
    have g5 : (lsD gs).length = gs.length := by rw [List.length_map, List.length_map]
    omega
  rw [hgl]
  refine ⟨⟨U.pl_int _, U.pl_int _⟩, ?_⟩
  show if (!PyData.eqv (.int ((lsD gs).length : Nat)) (.int ((lsD gs).length : Nat))) = true then _ else _
  rw [U.eqv_int, decide_eq_true rfl, if_neg (by decide)]
  refine ⟨no, ?_⟩
  conv => whnf
  refine U.lc_map (enc := rD) (enco := Datum.toD) (ways wide 8 ws) (fun r => r.2) (fun r hr Y hY => ?_) hlen ?_
  · walk_at "wp"
    exact hY
  refine ⟨⟨PlD (Tup.mk (gs.map line)), PlD ((ways wide 8 ws).map fun r => r.2)⟩, ?_⟩
  show if (!(((ways wide 8 ws).map fun r => r.2).map Datum.toD).any fun z => PyData.eqv z (.tuple (lsD gs))) = true then _ else _
  rw [show ((((ways wide 8 ws).map fun r => r.2).map Datum.toD).any fun z => PyData.eqv z (.tuple (lsD gs))) = true from by
    rw [List.any_eq_true]
    exact ⟨Datum.toD r0.2, List.mem_map.mpr ⟨r0.2, List.mem_map.mpr ⟨r0, hm, rfl⟩, rfl⟩, by
      rw [er0]
      exact (Datum.eqv (Tup.mk (gs.map line)) (Tup.mk (gs.map line))).trans (decide_eq_true rfl)⟩]
  rw [if_neg (by decide)]
  exact h
theorem cell_clean {ws : List Str} {wide : Int} (c : Cell ws wide) {gs : List (List Str)} (f : Fil wide ws ws.length gs) : ∀ g ∈ gs, Clean g ∧ Good g ∧ g ≠ [] ∧ (tot g : Int) ≤ wide + 1 := fun g hg => by
  have hsub : ∀ w ∈ g, w ∈ ws := fun w hw => by
    have : w ∈ gs.flatten := List.mem_flatten.mpr ⟨g, hg, hw⟩
    rwa [f.flat, List.take_length] at this
  have hl := line_len (f.fit g hg).1
  have h2 := (f.fit g hg).2
  have h3 := fil_line f c.good hg
  have h4 : g.length ≤ gs.flatten.length := by
    clear hl h2 h3 hsub
    induction gs with
    | nil => cases hg
    | cons x r ih =>
      rw [List.flatten_cons, List.length_append]
      rcases List.mem_cons.mp hg with e | hg'
      · rw [e]; omega
      · have : ∀ {r : List (List Str)} {g}, g ∈ r → g.length ≤ r.flatten.length := fun {r} {g} hg => by
          clear ih hg' 
          induction r with
          | nil => cases hg
          | cons y t ih =>
            rw [List.flatten_cons, List.length_append]
            rcases List.mem_cons.mp hg with e | hg
            · rw [e]; omega
            · have := ih hg; omega
        have := this hg'
        omega
  rw [f.flat, List.take_length] at h4
  have := c.few
  have := c.hi
  exact ⟨fun w hw => ⟨(c.wd w (hsub w hw)).ne, (c.wd w (hsub w hw)).no⟩, ⟨by omega, by omega⟩, (f.fit g hg).1, by omega⟩
theorem full_at {wide : Int} : ∀ {gs : List (List Str)} {i : Nat} {g h : List Str}, Full wide gs → gs[i]? = some g → gs[i + 1]? = some h → ∃ w t, h = w :: t ∧ wide < ((line g).length : Int) + 1 + (w.length : Int)
  | [], i, g, h, _, e, _ => by simp at e
  | [_], i, g, h, _, _, e => by simp at e
  | c :: d :: r, 0, g, h, hF, e1, e2 => by
    simp at e1 e2
    subst e1; subst e2
    exact hF.1
  | c :: d :: r, i + 1, g, h, hF, e1, e2 => full_at (gs := d :: r) (i := i) hF.2 (by simpa using e1) (by simpa using e2)
theorem s5 (a : Ad) (D : PEn) {ws : List Str} {wide : Int} (c : Cell ws wide) {gs : List (List Str)} (f : Fil wide ws ws.length gs) (s4 s6 s7 s8 s9 s10 s11 s12 s13 : Sl)
    (h : ∀ s6, D.nx (E0 (.sh (wsD ws)) (.sh (.int wide)) s4 (.sh (.tuple (lsD gs))) s6 s7 s8 s9 s10 s11 s12 s13)) :
    v_law_5 a (E0 (.sh (wsD ws)) (.sh (.int wide)) s4 (.sh (.tuple (lsD gs))) s6 s7 s8 s9 s10 s11 s12 s13) D := by
  have hfew := c.few
  have hgl : gs.length ≤ ws.length := fil_len f
  have hl : (lsD gs).length = gs.length := by rw [List.length_map, List.length_map]
  refine ⟨⟨by omega, by omega, by omega, by rw [hl]; omega⟩, ?_⟩
  refine U.for_range _ _ (fun i ρ => ∃ s6, ρ = E0 (.sh (wsD ws)) (.sh (.int wide)) s4 (.sh (.tuple (lsD gs))) s6 s7 s8 s9 s10 s11 s12 s13) (fun i ρ N hN hi hI => ?_) (fun ρ ⟨s6, e⟩ => by rw [e]; exact h s6) _ ⟨_, rfl⟩
  obtain ⟨s6, rfl⟩ := hI
  rw [hl] at hi
  obtain ⟨g, hg⟩ : ∃ g, gs[i]? = some g := ⟨_, List.getElem?_eq_getElem (by omega)⟩
  obtain ⟨g2, hg2⟩ : ∃ g, gs[i + 1]? = some g := ⟨_, List.getElem?_eq_getElem (by omega)⟩
  obtain ⟨w, t, rfl, hw⟩ := full_at f.full hg hg2
  have at1 : atI (lsD gs) (i : Int) = some (.str (line g)) := by rw [U.at_nat, List.getElem?_map, List.getElem?_map, hg]; rfl
  have at2 : atI (lsD gs) ((i + 1 : Nat) : Int) = some (.str (line (w :: t))) := by rw [U.at_nat, List.getElem?_map, List.getElem?_map, hg2]; rfl
  have c1 := cell_clean c f g (List.mem_of_getElem? hg)
  have c2 := cell_clean c f _ (List.mem_of_getElem? hg2)
  have l1 := c1.2.1.line c1.2.2.1
  have l2 := c2.2.1.line c2.2.2.1
  have lw := (tot_mem (List.mem_cons_self : w ∈ w :: t))
  have := c2.2.1.tot
  walk_at "wp"
  rw [show (1 : Int) + (i : Nat) - 1 = (i : Nat) by omega, at1]
  walk_at "wp"
  rw [show (1 : Int) + (i : Nat) = ((i + 1 : Nat) : Int) by omega, at2]
  walk_at "wp"
  rw [show Txt.split (line (w :: t)) (Str.ofString " ") = w :: t from split_line (List.cons_ne_nil _ _) c2.1, show atI (List.map PyData.str (w :: t)) 0 = some (.str w) from U.at_nat (List.map PyData.str (w :: t)) (i := 0)]
  walk_at "wp"
  refine U.noD (by omega) ?_
  exact hN _ ⟨_, rfl⟩
theorem scan_len : ∀ (l : List Nat) (p : List Int × Int), (l.foldl scan1 p).1.length ≤ p.1.length + l.length
  | [], p => Nat.le_refl _
  | c :: r, p => by
    rw [List.foldl_cons, List.length_cons]
    have := scan_len r (scan1 p c)
    have h2 : (scan1 p c).1.length ≤ p.1.length + 1 := by
      unfold scan1
      split
      · exact Nat.le_succ _
      · split
        · rw [List.length_append]; exact Nat.le_refl _
        · exact Nat.le_succ _
    omega
theorem chr_eq (c : Nat) : (⟨#[c]⟩ : Str) = (" " : Str) ↔ c = 32 := ⟨fun e => by
  have : TL.tl (⟨#[c]⟩ : Str) = TL.tl (" " : Str) := by rw [e]
  rw [tl_sp] at this
  injection this, fun e => by rw [e]; decide +kernel⟩
theorem s6scan (a : Ad) (D : PEn) (x : Str) (hx : x.length ≤ 10000) (s2 s3 s4 s5 s6 s7 s11 s12 s13 : Sl)
    (h : ∀ s6, D.nx (E0 s2 s3 s4 s5 s6 s7 (.sh (.str x)) (.sh (.list (((TL.tl x).foldl scan1 ([], 0)).1.map .int))) (.sh (.int ((TL.tl x).foldl scan1 ([], 0)).2)) s11 s12 s13)) :
    (sFor (wRng1 (wCons (w1 fLen (wRd 8)) wNil)) (gNameD 6)
 (sIf (wT (w2 (fEq false) (w2 fIx (wRd 8) (wRd 6)) (wC (.str " ")))) (sSet 10 (w2 fAdd (wRd 10) (wC (.int 1)))) (sIf (wT (w2 (fC fun i j => decide (j < i)) (wRd 10) (wC (.int 0)))) (sPar 9 10 (wCons (w2 fCat (wRd 9) (wLst (wCons (wVar 10) wNil))) (wCons (wC (.int 0)) wNil))) sNil)))
    (E0 s2 s3 s4 s5 s6 s7 (.sh (.str x)) (.sh (.list [])) (.sh (.int 0)) s11 s12 s13) D := by
  walk_at "wp"
  refine U.for_range _ _ (fun i ρ => ∃ s6, ρ = E0 s2 s3 s4 s5 s6 s7 (.sh (.str x)) (.sh (.list ((((TL.tl x).take i).foldl scan1 ([], 0)).1.map .int))) (.sh (.int (((TL.tl x).take i).foldl scan1 ([], 0)).2)) s11 s12 s13) (fun i ρ N hN hi hI => ?_) (fun ρ ⟨s6, e⟩ => by
    rw [e, show ((x.length : Nat) : Int).toNat = (TL.tl x).length from TL.len_tl x, List.take_length]; exact h s6) _ ⟨_, rfl⟩
  obtain ⟨s6, rfl⟩ := hI
  have hi' : i < (TL.tl x).length := by rw [← TL.len_tl]; omega
  obtain ⟨c, hc⟩ : ∃ c, (TL.tl x)[i]? = some c := ⟨_, List.getElem?_eq_getElem hi'⟩
  have hstep : ((TL.tl x).take (i + 1)).foldl scan1 ([], 0) = scan1 (((TL.tl x).take i).foldl scan1 ([], 0)) c := by
    rw [List.take_add_one, hc, List.foldl_append]; rfl
  have hlen := scan_len ((TL.tl x).take i) ([], 0)
  rw [List.length_take, List.length_nil] at hlen
  generalize hp : ((TL.tl x).take i).foldl scan1 ([], 0) = p at *
  walk_at "wp"
  rw [show (0 : Int) + (i : Nat) = (i : Nat) by omega, U.at_nat, hc]
  walk_at "wp"
  refine U.brEq (⟨#[c]⟩ : Str) (" " : Str) (fun e => ?_) (fun e => ?_)
  · have e := (chr_eq c).mp e
    subst e
    refine hN _ ⟨.sh (.int (i : Nat)), ?_⟩
    rw [hstep, scan1, if_pos rfl]
    rfl
  · have e := fun z => e ((chr_eq c).mpr z)
    walk_at "wp"
    refine U.brD (fun e2 => ?_) (fun e2 => ?_)
    · walk_at "wp"
      refine hN _ ⟨.sh (.int (i : Nat)), ?_⟩
      rw [hstep, scan1, if_neg e, if_pos e2, List.map_append]
      rfl
    · refine hN _ ⟨.sh (.int (i : Nat)), ?_⟩
      rw [hstep, scan1, if_neg e, if_neg e2]
      rfl
theorem spl_len (S : List Nat) : ∀ (l : List Nat) (k : Nat) (acc : List Nat), (TL.spl S k acc l).length ≤ l.length + 1
  | [], k, acc => by rw [TL.spl_nil]; exact Nat.le_refl _
  | c :: r, 0, acc => by
    show (if TL.pre S (c :: r) = true then acc :: TL.spl S (S.length - 1) [] r else TL.spl S 0 (acc ++ [c]) r).length ≤ _
    split
    · have := spl_len S r (S.length - 1) []
      rw [List.length_cons, List.length_cons]; omega
    · have := spl_len S r 0 (acc ++ [c])
      rw [List.length_cons]; omega
  | c :: r, k + 1, acc => by
    have := spl_len S r k acc
    show (TL.spl S k acc r).length ≤ _
    rw [List.length_cons]; omega
theorem has_sp (x : Str) : (!(Builtin.Str.occurrences x (" " : Str) 0 x.length 1).isEmpty) = decide (32 ∈ TL.tl x) := by
  rw [show (" " : Str) = ⟨#[32]⟩ from (chr_eq 32).mpr rfl |>.symm]
  exact StrLaws.found_one x 32
theorem line_sp {w x : Str} {t : List Str} : 32 ∈ TL.tl (line (w :: x :: t)) := by
  rw [tl_line]
  show 32 ∈ TL.tl w ++ ([32] ++ _)
  simp
theorem s6a (a : Ad) (D : PEn) {wide : Int} (w0 : 0 ≤ wide) (w10 : wide ≤ 10) (s2 s4 s5 s6 s11 s12 s13 : Sl) {w : Str} {ws : List Str} (gd : Good (w :: ws)) (cl : Clean (w :: ws)) (hfit : (tot (w :: ws) : Int) ≤ wide + 1) (hs : s13.owned = false)
    (h : ∀ s6 s8 s9 s10, D.nx (E0 s2 (.sh (.int wide)) s4 s5 s6 (.sh (.str (line (w :: ws)))) s8 s9 s10 s11 s12 s13))  :
 (sSeq (sIf (wAnd (wT (w2 (fIn false) (wC (.str " ")) (wRd 7))) (wOr (wT (w2 (fEq true) (w1 fLen (wRd 8)) (wRd 3))) (wOr (wT (w2 (fC fun i j => decide (j < i)) (w2 (fI CT fun i j => i - j) (w1 fMax (wRd 9)) (w1 fMin (wRd 9))) (wC (.int 1)))) (wT (w2 (fEq true) (wRd 9) (wLR (w1 fSorted (wRd 9)))))))) (sRet (wC (.bool false))) sNil)
 (sSeq (sIf (wT (w2 (fEq true) (wLc (wItL (wM1 fSplit (wVar 8) (wC (.str " ")))) (gNameD 13) (wT (w2 (fEq true) (wRd 13) (wC (.str "")))) (wVar 13) [13]) (wM1 fSplit (wVar 7) (wC (.str " "))))) (sRet (wC (.bool false))) sNil)
 (sIf (wAnd (wT (w2 (fIn true) (wC (.str " ")) (wRd 7))) (wT (w2 (fEq true) (wRd 8) (wRd 7)))) (sRet (wC (.bool false))) sNil)))
  (E0 s2 (.sh (.int wide)) s4 s5 s6 (.sh (.str (line (w :: ws)))) (.sh (.str (spr (blk wide (w :: ws)) ws.length 0 ws w))) (.sh (.list ((gaps (blk wide (w :: ws)) ws.length).map .int))) (.sh (.int 0)) s11 s12 s13) D := by
  have hst := sums_tot (w :: ws)
  rw [List.length_cons] at hst
  have hfew := gd.few
  have htot := gd.tot
  rw [List.length_cons] at hfew
  have hb : ((blk wide (w :: ws) : Nat) : Int) = wide - (sums (w :: ws) : Int) := by unfold blk; omega
  have hln := gd.line (List.cons_ne_nil _ _)
  have hlen : 0 < ws.length → (spr (blk wide (w :: ws)) ws.length 0 ws w).length = wide.toNat := fun hl => by
    rw [spr_len]
    have : ((List.range ws.length).map fun j => gap (blk wide (w :: ws)) ws.length j).sum = blk wide (w :: ws) := gap_sum hl
    simp only [Nat.zero_add]
    have hs2 : sums (w :: ws) = w.length + (ws.map (·.length)).sum := rfl
    omega
  have h32 : 32 ∉ TL.tl w := (cl w List.mem_cons_self).2
  -- what the two last tests say
  have hsplit : (Txt.split (spr (blk wide (w :: ws)) ws.length 0 ws w) sp).filter (fun z => !PyData.eqv (.str z) (.str "")) = w :: ws := by
    cases hws : ws with
    | nil =>
      show (Txt.split w sp).filter _ = [w]
      have e : Txt.split w sp = [w] := by
        have := split_line (ch := [w]) (List.cons_ne_nil _ _) (by rw [← hws]; exact cl)
        rwa [line_one] at this
      rw [e, List.filter_cons_of_pos]
      · rfl
      · rw [U.eqv_str]
        have := (cl w List.mem_cons_self).1
        rw [decide_eq_false (fun z => this (by rw [z]; decide +kernel))]
        rfl
    | cons x r =>
      rw [← hws]
      exact split_spr _ _ cl fun j => gap_pos (by rw [hws]; simp) (by omega) j
  have rest : (sSeq (sIf (wT (w2 (fEq true) (wLc (wItL (wM1 fSplit (wVar 8) (wC (.str " ")))) (gNameD 13) (wT (w2 (fEq true) (wRd 13) (wC (.str "")))) (wVar 13) [13]) (wM1 fSplit (wVar 7) (wC (.str " "))))) (sRet (wC (.bool false))) sNil)
   (sIf (wAnd (wT (w2 (fIn true) (wC (.str " ")) (wRd 7))) (wT (w2 (fEq true) (wRd 8) (wRd 7)))) (sRet (wC (.bool false))) sNil))
    (E0 s2 (.sh (.int wide)) s4 s5 s6 (.sh (.str (line (w :: ws)))) (.sh (.str (spr (blk wide (w :: ws)) ws.length 0 ws w))) (.sh (.list ((gaps (blk wide (w :: ws)) ws.length).map .int))) (.sh (.int 0)) s11 s12 s13) D := by
    refine ⟨noown (by simp [hs]), ?_⟩
    have hsl := spr_le (blk wide (w :: ws)) ws.length ws w
    have hm : ws.length * (blk wide (w :: ws) + 1) ≤ 7 * 11 := Nat.mul_le_mul (by omega) (by omega)
    have ht : tot (w :: ws) = w.length + 1 + tot ws := rfl
    have hspl : (Txt.split (spr (blk wide (w :: ws)) ws.length 0 ws w) sp).length ≤ 100000 := by
      have h1 := congrArg List.length (TL.split_spl (spr (blk wide (w :: ws)) ws.length 0 ws w) sp (by rw [tl_sp]; simp) (TL.kind_ok (by decide +kernel)))
      rw [List.length_map] at h1
      rw [h1]
      have h2 := spl_len (TL.tl sp) (TL.tl (spr (blk wide (w :: ws)) ws.length 0 ws w)) 0 []
      rw [← TL.len_tl] at h2
      omega
    walk_at "wp"
    refine U.lc_filter (enc := PyData.str) (Txt.split (spr (blk wide (w :: ws)) ws.length 0 ws w) sp) (fun z => !PyData.eqv (.str z) (.str "")) (fun z hz Y N hY hN => ?_) hspl ?_
    · walk_at "wp"
      refine U.br (fun e => hY e) (fun e => hN e)
    rw [hsplit]
    walk_at "wp"
    rw [show Txt.split (line (w :: ws)) (Str.ofString " ") = w :: ws from split_line (List.cons_ne_nil _ _) cl]
    refine ⟨⟨PlD (w :: ws), PlD (w :: ws)⟩, ?_⟩
    conv => whnf
    refine U.brNe (w :: ws) (w :: ws) (fun e => absurd rfl e) (fun _ => ?_)
    show if (!(!(Builtin.Str.occurrences (line (w :: ws)) (" " : Str) 0 (line (w :: ws)).length 1).isEmpty)) = true then _ else _
    rw [has_sp]
    cases ws with
    | nil =>
      refine U.br (fun _ => ?_) (fun _ => U.no rfl (h _ _ _ _))
      walk_at "wp"
      refine U.brNe (spr (blk wide [w]) 0 0 [] w : Str) (line [w]) (fun e => absurd (line_one w).symm e) (fun _ => h _ _ _ _)
    | cons x r =>
      refine U.no ?_ (U.no rfl (h _ _ _ _))
      rw [decide_eq_true line_sp]
      rfl
  show if (!(Builtin.Str.occurrences (line (w :: ws)) (" " : Str) 0 (line (w :: ws)).length 1).isEmpty) = true then _ else _
  rw [has_sp]
  cases ws with
  | nil =>
    refine U.no ?_ (U.no rfl rest)
    rw [line_one, decide_eq_false h32]
  | cons x r =>
    refine U.yes (decide_eq_true line_sp) ?_
    have hpos : 0 < (x :: r).length := by simp
    have hlen2 := hlen hpos
    obtain ⟨y, ys, hy⟩ : ∃ y ys, gaps (blk wide (w :: x :: r)) (x :: r).length = y :: ys := by
      cases e : gaps (blk wide (w :: x :: r)) (x :: r).length with
      | nil => rw [gaps, List.map_eq_nil_iff, List.range_eq_nil] at e; omega
      | cons y ys => exact ⟨y, ys, rfl⟩
    have hdiff : PySem.W.maxOf y ys - PySem.W.minOf y ys ≤ 1 := by
      have h1 := U.maxOf_mem y ys
      have h2 := U.minOf_mem y ys
      rw [← hy] at h1 h2
      obtain ⟨j, _, e1⟩ := List.mem_map.mp h1
      obtain ⟨k, _, e2⟩ := List.mem_map.mp h2
      have := gap_le (blk wide (w :: x :: r)) (x :: r).length j k
      omega
    have hrev := U.sort_rev (gaps_desc (blk wide (w :: x :: r)) (x :: r).length)
    walk_at "wp"
    refine U.brNe (((spr (blk wide (w :: x :: r)) (x :: r).length 0 (x :: r) w).length : Nat) : Int) wide (fun e => absurd (by rw [hlen2]; omega) e) (fun _ => ?_)
    conv => whnf
    refine U.p_maxL hy ?_
    conv => whnf
    refine U.p_minL hy ?_
    walk_at "wp"
    refine U.noD (by omega) ?_
    conv => whnf
    refine ⟨U.sort_side_ints _, ?_⟩
    rw [U.sort_ints, hrev]
    walk_at "wp"
    rw [List.map_reverse, List.reverse_reverse]
    refine ⟨⟨PlD (gaps (blk wide (w :: x :: r)) (x :: r).length), PlD (gaps (blk wide (w :: x :: r)) (x :: r).length)⟩, ?_⟩
    conv => whnf
    refine U.brNe (gaps (blk wide (w :: x :: r)) (x :: r).length) _ (fun e => absurd rfl e) (fun _ => ?_)
    exact rest
theorem s6 (a : Ad) (D : PEn) {ws : List Str} {wide : Int} (c : Cell ws wide) {gs : List (List Str)} (f : Fil wide ws ws.length gs) (s2 s4 s6 s7 s8 s9 s10 s11 s12 s13 : Sl) (hs : s13.owned = false)
    (h : ∀ s6 s7 s8 s9 s10, D.nx (E0 s2 (.sh (.int wide)) s4 (.sh (.tuple (lsD gs))) s6 s7 s8 s9 s10 s11 s12 s13)) :
    v_law_6 a (E0 s2 (.sh (.int wide)) s4 (.sh (.tuple (lsD gs))) s6 s7 s8 s9 s10 s11 s12 s13) D := by
  have hlo := c.lo
  have hhi := c.hi
  show goFor _ _ _ ((gs.map line).map .str) _
  rw [List.map_map]
  refine U.for_list gs (fun i ρ => ∃ s6 s7 s8 s9 s10, ρ = E0 s2 (.sh (.int wide)) s4 (.sh (.tuple (lsD gs))) s6 s7 s8 s9 s10 s11 s12 s13) (fun i g ρ N hN hg hi hI => ?_) (fun ρ ⟨s6, s7, s8, s9, s10, e⟩ => by rw [e]; exact h s6 s7 s8 s9 s10) _ ⟨_, _, _, _, _, rfl⟩
  obtain ⟨s6, s7, s8, s9, s10, rfl⟩ := hI
  obtain ⟨k1, k2, k3, k4⟩ := cell_clean c f g (List.mem_of_getElem? hg)
  cases g with
  | nil => exact absurd rfl k3
  | cons w ws' =>
    have hst := sums_tot (w :: ws')
    rw [List.length_cons] at hst
    have hfew := k2.few
    have htot := k2.tot
    rw [List.length_cons] at hfew
    have hb : ((blk wide (w :: ws') : Nat) : Int) = wide - (sums (w :: ws') : Int) := by unfold blk; omega
    have hsl := spr_le (blk wide (w :: ws')) ws'.length ws' w
    have hm : ws'.length * (blk wide (w :: ws') + 1) ≤ 7 * 11 := Nat.mul_le_mul (by omega) (by omega)
    have ht : tot (w :: ws') = w.length + 1 + tot ws' := rfl
    refine ⟨rfl, p_spread a (by omega) (by omega) k2 k1 _ _ (fun _ => ?_) (fun e => by omega)⟩
    refine ⟨Nat.zero_le _, ?_⟩
    refine s6scan a _ (spr (blk wide (w :: ws')) ws'.length 0 ws' w) (by omega) s2 _ s4 _ s6 _ s11 s12 s13 (fun s6' => ?_)
    have hscan : (TL.tl (spr (blk wide (w :: ws')) ws'.length 0 ws' w)).foldl scan1 ([], 0) = (gaps (blk wide (w :: ws')) ws'.length, 0) := by
      have := scan_spr (blk wide (w :: ws')) ws'.length ws' 0 w [] (fun x hx => k1 x (List.mem_cons_of_mem _ hx)) (fun j _ hj => gap_pos (by omega) (by omega) j) (scan_word0 _ _ (k1 w List.mem_cons_self).2)
      rw [this, List.nil_append]
      simp only [Nat.zero_add]
      rfl
    rw [hscan]
    exact s6a a _ (by omega) hhi s2 s4 _ s6' s11 s12 s13 k2 k1 k4 hs (fun t6 t8 t9 t10 => hN _ ⟨_, _, _, _, _, rfl⟩)
theorem p_broken_bad (a : Ad) (Q : PyData → Prop) (E : Exn → Prop) (hE : E ⟨a.x_NoWay, none⟩) : c_broken a [.sh (.list [.str "abcdef"]), .sh (.int 5)] Q E := by
  show u_broken a [.sh (wsD ["abcdef"]), .sh (.int 5), .un, .un, .un, .un, .un, .un, .un, .un, .un] _
  unfold u_broken
  show wT (wGen PyData.bool (wItL (wVar 0)) (gNameD 10) wYes (wOrV (w2 (fC fun i j => decide (j < i)) (w1 fLen (wRd 10)) (wRd 1)) (w2 (fEq false) (wRd 10) (wC (.str "")))) [10] rAnyD) _ (fun k => if k = true then _ else _) _
  refine any_bad (v := 10) (ρ := [.sh (wsD ["abcdef"]), .sh (.int 5), .un, .un, .un, .un, .un, .un, .un, .un, .un]) (ws := ["abcdef"]) (wide := 5) rfl (fun _ => rfl) (fun _ => rfl) (noown rfl) (fun w hw => le_size ?_) ?_
  · rw [List.mem_singleton.mp hw]; decide +kernel
  · rw [if_pos (by decide +kernel)]
    exact hE
theorem p_spread_bad (a : Ad) (Q : PyData → Prop) (E : Exn → Prop) (hE : E ⟨a.x_NoWay, none⟩) : c_spread a [.sh (.str "ab cd"), .sh (.int 4)] Q E := by
  have e : ("ab cd" : Str) = line ["ab", "cd"] := by decide +kernel
  rw [e]
  exact p_spread a (by omega) (by omega) ⟨by decide, by decide +kernel⟩ (fun w hw => by
    simp only [List.mem_cons, List.not_mem_nil, or_false] at hw
    rcases hw with rfl | rfl <;> exact ⟨by decide +kernel, by decide +kernel⟩) Q E (fun h => by
      rcases h with h | h
      · cases h
      · exact absurd h (by decide +kernel)) (fun _ _ => hE)
theorem told1 (a : Ad) : toldRet (hsT a) a.x_NoWay = some ("no way" : Str) := by
  show (if a.x_NoWay = a.x_NoWay then some ("no way" : Str) else _) = _
  rw [if_pos rfl]
theorem s78 (a : Ad) (D : PEn) (ρ : En) (h : D.nx ρ) : sSeq (v_law_7 a) (v_law_8 a) ρ D := by
  refine ⟨U.le_size (by decide), rfl, p_broken_bad a _ _ ⟨("no way" : Str), List.mem_cons_self, told1 a, ?_⟩⟩
  refine ⟨⟨U.pl_str _, U.pl_str _⟩, rfl, p_spread_bad a _ _ ⟨("no way" : Str), List.mem_cons_self, told1 a, ?_⟩⟩
  refine ⟨⟨U.pl_str _, U.pl_str _⟩, ?_⟩
  exact h
theorem law_body (a : Ad) : u_law a ((uns N_law.length).set 1 .dice) (lawEnd N_law.length) := by
  rw [u_law_parts]
  refine s0 a _ fun ws wide c => ?_
  have hlo := c.lo
  have hhi := c.hi
  have hfew := c.few
  refine ⟨rfl, p_ways a (by omega) (by omega) 8 ws (by omega) c.good _ _ ?_⟩
  refine ⟨rfl, p_broken a (by omega) (by omega) c.good c.bad c.fit _ _ fun b hb => ?_⟩
  obtain ⟨x, xs, hx⟩ : ∃ x xs, ways wide 8 ws = x :: xs := by
    have := (mem_ways (n := 8) (by omega)).mpr hb.1
    cases e : ways wide 8 ws with
    | nil => rw [e] at this; cases this
    | cons x xs => exact ⟨x, xs, rfl⟩
  conv => whnf
  refine U.p_minL (α := R) hx ?_
  have hm : IsMin (Sol wide ws) (PySem.W.minOf x xs) := (minOf_isMin lin_R x xs).congr fun y => by rw [← hx]; exact mem_ways (n := 8) (by omega)
  rw [← hb.uniq lin_R hm]
  refine ⟨⟨PlD b, PlD b⟩, ?_⟩
  conv => whnf
  refine U.brNe b b (fun e => absurd rfl e) (fun _ => ?_)
  refine ⟨rfl, p_filled a (by omega) (by omega) c.good c.bad c.fit _ _ fun gs f => ?_⟩
  refine s4 a _ c f _ _ _ _ _ _ _ _ ⟨rfl, rfl⟩ ?_
  refine s5 a _ c f _ _ _ _ _ _ _ _ _ fun s6' => ?_
  refine s6 a _ c f _ _ _ _ _ _ _ _ _ _ rfl fun t6 t7 t8 t9 t10 => ?_
  exact s78 a _ _ rfl
theorem pure_law (a : Ad) (ns : List Int) (h : ns.length ≤ 63) : i_law a (.scr ns :: uns (N_law.length - 1)) (fun d => ∃ ds, d = .list ds ∧ Triples ds ∧ u_law a ((uns N_law.length).set 1 .dice) (lawEnd N_law.length)) (fun _ => False) :=
  ⟨ns, rfl, rfl, p_rounds a ns 3 h _ _ fun ds t => ⟨ds, rfl, t, law_body a⟩⟩
end M8
set_option Elab.async false
set_option linter.all false
set_option maxRecDepth 100000
namespace M8
open PySem PySem.Spec PyProof.Rows L2 PL
theorem fin {l : PySem.W.OpenLaw} {w : World} {K : PySem.W.Frag} {h : Heap} {mg : Str → Option Value} {q : Program} {fa : Addr} (X : K.In h) (G : h.Ns mainGlobals mg) (hfa : mg "law" = some (.ref fa)) (tabs : ∀ (y : Str) (f : Addr), ((recsOf q).any fun e => e.name == y) = true → mg y = some (.ref f) → LamX.OwnTab K f h)
    (hl : l.prog = PySem.Challenge.pw_museum_k08_labels_in_lines) (hq : ∀ y ∈ [("broken" : Str), ("filled" : Str), ("spread" : Str), ("law" : Str)], ((recsOf q).any fun e => e.name == y) = true)
    {f0 c0 : Addr} {oc0 kV0 dc0 pm0 ct0 : Value} {od0 an0 : Option Addr} {sl0 : Array (Option Value)}
    {p0 : Addr} {te0 : Value} {td0 : Option Addr} {tv0 : Array Value} {ts0 : Array (Option Value)}
    {f1 c1 : Addr} {oc1 kV1 dc1 pm1 ct1 : Value} {od1 an1 : Option Addr} {sl1 : Array (Option Value)}
    {p1 : Addr} {te1 : Value} {td1 : Option Addr} {tv1 : Array Value} {ts1 : Array (Option Value)}
    {f2 c2 : Addr} {oc2 kV2 dc2 pm2 ct2 : Value} {od2 an2 : Option Addr} {sl2 : Array (Option Value)}
    {p2 : Addr} {te2 : Value} {td2 : Option Addr} {tv2 : Array Value} {ts2 : Array (Option Value)}
    {f3 c3 : Addr} {oc3 kV3 dc3 pm3 ct3 : Value} {od3 an3 : Option Addr} {sl3 : Array (Option Value)}
    {f4 c4 : Addr} {oc4 kV4 dc4 pm4 ct4 : Value} {od4 an4 : Option Addr} {sl4 : Array (Option Value)}
    {f5 c5 : Addr} {oc5 kV5 dc5 pm5 ct5 : Value} {od5 an5 : Option Addr} {sl5 : Array (Option Value)}
    {f6 c6 : Addr} {oc6 kV6 dc6 pm6 ct6 : Value} {od6 an6 : Option Addr} {sl6 : Array (Option Value)}
    {f7 c7 : Addr} {oc7 kV7 dc7 pm7 ct7 : Value} {od7 an7 : Option Addr} {sl7 : Array (Option Value)}
    {f8 c8 : Addr} {oc8 kV8 dc8 pm8 ct8 : Value} {od8 an8 : Option Addr} {sl8 : Array (Option Value)}
    {p8 : Addr} {te8 : Value} {td8 : Option Addr} {tv8 : Array Value} {ts8 : Array (Option Value)}
    {x0 : Addr}
    {x1 : Addr}
    {x2 : Addr}
    (a0 : PySem.W.nsIn K mainGlobals "broken" = some (some (.ref f0)))
    (l0 : K.lookup f0 = some ⟨oc0, od0, .func (PySem.W.fnOf "broken" "broken" (defArgs s_broken) (defBody s_broken) (defScope s_broken) .none kV0 dc0 pm0 an0 (.ref c0) ct0), sl0⟩)
    (h0 : PySem.W.codeIn K (.ref c0) "broken" = true)
    (k0 : PySem.W.keepIn K (.ref f0) = true)
    (t0 : K.lookup c0 = some ⟨te0, td0, .fields tv0, ts0⟩)
    (u0 : tv0[11]? = some (.ref p0))
    (v0 : PySem.W.codeHdIn K c0 p0 = true)
    (w0 : K.lookup p0 = none)
    (a1 : PySem.W.nsIn K mainGlobals "filled" = some (some (.ref f1)))
    (l1 : K.lookup f1 = some ⟨oc1, od1, .func (PySem.W.fnOf "filled" "filled" (defArgs s_filled) (defBody s_filled) (defScope s_filled) .none kV1 dc1 pm1 an1 (.ref c1) ct1), sl1⟩)
    (h1 : PySem.W.codeIn K (.ref c1) "filled" = true)
    (k1 : PySem.W.keepIn K (.ref f1) = true)
    (t1 : K.lookup c1 = some ⟨te1, td1, .fields tv1, ts1⟩)
    (u1 : tv1[11]? = some (.ref p1))
    (v1 : PySem.W.codeHdIn K c1 p1 = true)
    (w1 : K.lookup p1 = none)
    (a2 : PySem.W.nsIn K mainGlobals "spread" = some (some (.ref f2)))
    (l2 : K.lookup f2 = some ⟨oc2, od2, .func (PySem.W.fnOf "spread" "spread" (defArgs s_spread) (defBody s_spread) (defScope s_spread) .none kV2 dc2 pm2 an2 (.ref c2) ct2), sl2⟩)
    (h2 : PySem.W.codeIn K (.ref c2) "spread" = true)
    (k2 : PySem.W.keepIn K (.ref f2) = true)
    (t2 : K.lookup c2 = some ⟨te2, td2, .fields tv2, ts2⟩)
    (u2 : tv2[11]? = some (.ref p2))
    (v2 : PySem.W.codeHdIn K c2 p2 = true)
    (w2 : K.lookup p2 = none)
    (a3 : PySem.W.nsIn K mainGlobals "_law_dice" = some (some (.ref f3)))
    (l3 : K.lookup f3 = some ⟨oc3, od3, .func (PySem.W.fnOf "_law_dice" "_law_dice" (defArgs s__law_dice) (defBody s__law_dice) (defScope s__law_dice) .none kV3 dc3 pm3 an3 (.ref c3) ct3), sl3⟩)
    (h3 : PySem.W.codeIn K (.ref c3) "_law_dice" = true)
    (k3 : PySem.W.keepIn K (.ref f3) = true)
    (a4 : PySem.W.nsIn K mainGlobals "_law_roll" = some (some (.ref f4)))
    (l4 : K.lookup f4 = some ⟨oc4, od4, .func (PySem.W.fnOf "_law_roll" "_law_roll" (defArgs s__law_roll) (defBody s__law_roll) (defScope s__law_roll) .none kV4 dc4 pm4 an4 (.ref c4) ct4), sl4⟩)
    (h4 : PySem.W.codeIn K (.ref c4) "_law_roll" = true)
    (k4 : PySem.W.keepIn K (.ref f4) = true)
    (a5 : PySem.W.nsIn K mainGlobals "_law_rounds" = some (some (.ref f5)))
    (l5 : K.lookup f5 = some ⟨oc5, od5, .func (PySem.W.fnOf "_law_rounds" "_law_rounds" (defArgs s__law_rounds) (defBody s__law_rounds) (defScope s__law_rounds) .none kV5 dc5 pm5 an5 (.ref c5) ct5), sl5⟩)
    (h5 : PySem.W.codeIn K (.ref c5) "_law_rounds" = true)
    (k5 : PySem.W.keepIn K (.ref f5) = true)
    (a6 : PySem.W.nsIn K mainGlobals "_law_told" = some (some (.ref f6)))
    (l6 : K.lookup f6 = some ⟨oc6, od6, .func (PySem.W.fnOf "_law_told" "_law_told" (defArgs s__law_told) (defBody s__law_told) (defScope s__law_told) .none kV6 dc6 pm6 an6 (.ref c6) ct6), sl6⟩)
    (h6 : PySem.W.codeIn K (.ref c6) "_law_told" = true)
    (k6 : PySem.W.keepIn K (.ref f6) = true)
    (a7 : PySem.W.nsIn K mainGlobals "_law_ways" = some (some (.ref f7)))
    (l7 : K.lookup f7 = some ⟨oc7, od7, .func (PySem.W.fnOf "_law_ways" "_law_ways" (defArgs s__law_ways) (defBody s__law_ways) (defScope s__law_ways) .none kV7 dc7 pm7 an7 (.ref c7) ct7), sl7⟩)
    (h7 : PySem.W.codeIn K (.ref c7) "_law_ways" = true)
    (k7 : PySem.W.keepIn K (.ref f7) = true)
    (a8 : PySem.W.nsIn K mainGlobals "law" = some (some (.ref f8)))
    (l8 : K.lookup f8 = some ⟨oc8, od8, .func (PySem.W.fnOf "law" "law" (defArgs s_law) (defBody s_law) (defScope s_law) .none kV8 dc8 pm8 an8 (.ref c8) ct8), sl8⟩)
    (h8 : PySem.W.codeIn K (.ref c8) "law" = true)
    (k8 : PySem.W.keepIn K (.ref f8) = true)
    (t8 : K.lookup c8 = some ⟨te8, td8, .fields tv8, ts8⟩)
    (u8 : tv8[11]? = some (.ref p8))
    (v8 : PySem.W.codeHdIn K c8 p8 = true)
    (w8 : K.lookup p8 = none)
    (n0 : PySem.W.nsIn K mainGlobals "NoWay" = some (some (.ref x0)))
    (o0 : PySem.W.excIn K x0 [.type "ValueError", .type "Exception", .type "BaseException", .type "object"] "ValueError.__new__" = true)
    (q0 : PySem.W.keepIn K (.ref x0) = true)
    (r0 : PySem.W.subIn K (.ref x0) (.type "BaseException") = some true)
    (y0 : PySem.W.typeIn K (.ref x0) = some (.type "type"))
    (n1 : PySem.W.nsIn K mainGlobals "BadPlan" = some (some (.ref x1)))
    (q1 : PySem.W.keepIn K (.ref x1) = true)
    (r1 : PySem.W.subIn K (.ref x1) (.type "BaseException") = some true)
    (y1 : PySem.W.typeIn K (.ref x1) = some (.type "type"))
    (n2 : PySem.W.nsIn K mainGlobals "BadPaper" = some (some (.ref x2)))
    (q2 : PySem.W.keepIn K (.ref x2) = true)
    (r2 : PySem.W.subIn K (.ref x2) (.type "BaseException") = some true)
    (y2 : PySem.W.typeIn K (.ref x2) = some (.type "type"))
    (z_abs : PySem.W.nsIn K mainGlobals "abs" = some none)
    (z_any : PySem.W.nsIn K mainGlobals "any" = some none)
    (z_enumerate : PySem.W.nsIn K mainGlobals "enumerate" = some none)
    (z_int : PySem.W.nsIn K mainGlobals "int" = some none)
    (z_len : PySem.W.nsIn K mainGlobals "len" = some none)
    (z_list : PySem.W.nsIn K mainGlobals "list" = some none)
    (z_max : PySem.W.nsIn K mainGlobals "max" = some none)
    (z_min : PySem.W.nsIn K mainGlobals "min" = some none)
    (z_range : PySem.W.nsIn K mainGlobals "range" = some none)
    (z_reversed : PySem.W.nsIn K mainGlobals "reversed" = some none)
    (z_sorted : PySem.W.nsIn K mainGlobals "sorted" = some none)
    (z_sum : PySem.W.nsIn K mainGlobals "sum" = some none)
    (z_tuple : PySem.W.nsIn K mainGlobals "tuple" = some none)
    (e00 : PySem.W.exmOne K (.ref x0) (.ref x0) = some true)
    (e01 : PySem.W.exmOne K (.ref x0) (.ref x1) = some false)
    (e02 : PySem.W.exmOne K (.ref x0) (.ref x2) = some false)
    (e10 : PySem.W.exmOne K (.ref x1) (.ref x0) = some false)
    (e11 : PySem.W.exmOne K (.ref x1) (.ref x1) = some true)
    (e12 : PySem.W.exmOne K (.ref x1) (.ref x2) = some false)
    (e20 : PySem.W.exmOne K (.ref x2) (.ref x0) = some false)
    (e21 : PySem.W.exmOne K (.ref x2) (.ref x1) = some false)
    (e22 : PySem.W.exmOne K (.ref x2) (.ref x2) = some true)
    (ne : x0 ≠ x1 ∧ x0 ≠ x2 ∧ x1 ≠ x2)
    (off : ∀ p ∈ [p0, p1, p2], p8 ≠ p)
    : LamX.LawAtS l w K (L2.CX l.prog w) 31 63 "script" mg fa h :=
  law_at (a := { f_broken := f0, c_broken := c0, d_broken := PySem.W.fnOf "broken" "broken" (defArgs s_broken) (defBody s_broken) (defScope s_broken) .none kV0 dc0 pm0 an0 (.ref c0) ct0, p_broken := p0, f_filled := f1, c_filled := c1, d_filled := PySem.W.fnOf "filled" "filled" (defArgs s_filled) (defBody s_filled) (defScope s_filled) .none kV1 dc1 pm1 an1 (.ref c1) ct1, p_filled := p1, f_spread := f2, c_spread := c2, d_spread := PySem.W.fnOf "spread" "spread" (defArgs s_spread) (defBody s_spread) (defScope s_spread) .none kV2 dc2 pm2 an2 (.ref c2) ct2, p_spread := p2, f__law_dice := f3, c__law_dice := c3, d__law_dice := PySem.W.fnOf "_law_dice" "_law_dice" (defArgs s__law_dice) (defBody s__law_dice) (defScope s__law_dice) .none kV3 dc3 pm3 an3 (.ref c3) ct3, f__law_roll := f4, c__law_roll := c4, d__law_roll := PySem.W.fnOf "_law_roll" "_law_roll" (defArgs s__law_roll) (defBody s__law_roll) (defScope s__law_roll) .none kV4 dc4 pm4 an4 (.ref c4) ct4, f__law_rounds := f5, c__law_rounds := c5, d__law_rounds := PySem.W.fnOf "_law_rounds" "_law_rounds" (defArgs s__law_rounds) (defBody s__law_rounds) (defScope s__law_rounds) .none kV5 dc5 pm5 an5 (.ref c5) ct5, f__law_told := f6, c__law_told := c6, d__law_told := PySem.W.fnOf "_law_told" "_law_told" (defArgs s__law_told) (defBody s__law_told) (defScope s__law_told) .none kV6 dc6 pm6 an6 (.ref c6) ct6, f__law_ways := f7, c__law_ways := c7, d__law_ways := PySem.W.fnOf "_law_ways" "_law_ways" (defArgs s__law_ways) (defBody s__law_ways) (defScope s__law_ways) .none kV7 dc7 pm7 an7 (.ref c7) ct7, f_law := f8, c_law := c8, d_law := PySem.W.fnOf "law" "law" (defArgs s_law) (defBody s_law) (defScope s_law) .none kV8 dc8 pm8 an8 (.ref c8) ct8, p_law := p8, x_NoWay := x0, x_BadPlan := x1, x_BadPaper := x2 }) { d_broken := def_mk a0 l0 h0 k0, t_broken := tab_mk t0 u0 v0 w0, d_filled := def_mk a1 l1 h1 k1, t_filled := tab_mk t1 u1 v1 w1, d_spread := def_mk a2 l2 h2 k2, t_spread := tab_mk t2 u2 v2 w2, d__law_dice := def_mk a3 l3 h3 k3, d__law_roll := def_mk a4 l4 h4 k4, d__law_rounds := def_mk a5 l5 h5 k5, d__law_told := def_mk a6 l6 h6 k6, d__law_ways := def_mk a7 l7 h7 k7, d_law := def_mk a8 l8 h8 k8, t_law := tab_mk t8 u8 v8 w8, x_NoWay := ⟨n0, q0, r0, y0⟩, xe_NoWay := o0, x_BadPlan := ⟨n1, q1, r1, y1⟩, x_BadPaper := ⟨n2, q2, r2, y2⟩, m_abs := z_abs, m_any := z_any, m_enumerate := z_enumerate, m_int := z_int, m_len := z_len, m_list := z_list, m_max := z_max, m_min := z_min, m_range := z_range, m_reversed := z_reversed, m_sorted := z_sorted, m_sum := z_sum, m_tuple := z_tuple, apart := apart3 ne.1 ne.2.1 ne.2.2 e00 e01 e02 e10 e11 e12 e20 e21 e22, off := off } X G hl hfa tabs hq (pure_law _)
end M8
open PySem PySem.W PyProof.Rows
set_option maxHeartbeats 0 in
theorem PySem.Challenge.cw_museum_k08_labels_in_lines_holds : PySem.Challenge.rw_museum_k08_labels_in_lines.Holds := by
  w_on; o_law; k_head; (case hw => w_witness2)
  k_fill
  refine PL.walk_all (l := PySem.Challenge.rw_museum_k08_labels_in_lines) (n := 63) (k := 31) (x := "script") (CX := fun w => L2.CX PySem.Challenge.rw_museum_k08_labels_in_lines.prog w) rfl (by decide) rfl ⟨rfl, by decide, by decide⟩ (fun w h Y => PySem.W.km_in_of Y) ?F ?C
  case F =>
    intro w mg fa h Y KX G hmg tabs
    refine' M8.fin KX G hmg tabs rfl ?hq ?a0 ?l0 ?h0 ?k0 ?t0 ?u0 ?v0 ?w0 ?a1 ?l1 ?h1 ?k1 ?t1 ?u1 ?v1 ?w1 ?a2 ?l2 ?h2 ?k2 ?t2 ?u2 ?v2 ?w2 ?a3 ?l3 ?h3 ?k3 ?a4 ?l4 ?h4 ?k4 ?a5 ?l5 ?h5 ?k5 ?a6 ?l6 ?h6 ?k6 ?a7 ?l7 ?h7 ?k7 ?a8 ?l8 ?h8 ?k8 ?t8 ?u8 ?v8 ?w8 ?n0 ?o0 ?q0 ?r0 ?y0 ?n1 ?q1 ?r1 ?y1 ?n2 ?q2 ?r2 ?y2 ?z_abs ?z_any ?z_enumerate ?z_int ?z_len ?z_list ?z_max ?z_min ?z_range ?z_reversed ?z_sorted ?z_sum ?z_tuple ?e00 ?e01 ?e02 ?e10 ?e11 ?e12 ?e20 ?e21 ?e22 ?ne ?off
    case hq => decide +kernel
    case a0 => k_is
    case l0 => k_is
    case h0 => k_is
    case k0 => k_is
    case t0 => k_is
    case u0 => (first | rfl | k_is)
    case v0 => kernel_rfl
    case w0 => kernel_rfl
    case a1 => k_is
    case l1 => k_is
    case h1 => k_is
    case k1 => k_is
    case t1 => k_is
    case u1 => (first | rfl | k_is)
    case v1 => kernel_rfl
    case w1 => kernel_rfl
    case a2 => k_is
    case l2 => k_is
    case h2 => k_is
    case k2 => k_is
    case t2 => k_is
    case u2 => (first | rfl | k_is)
    case v2 => kernel_rfl
    case w2 => kernel_rfl
    case a3 => k_is
    case l3 => k_is
    case h3 => k_is
    case k3 => k_is
    case a4 => k_is
    case l4 => k_is
    case h4 => k_is
    case k4 => k_is
    case a5 => k_is
    case l5 => k_is
    case h5 => k_is
    case k5 => k_is
    case a6 => k_is
    case l6 => k_is
    case h6 => k_is
    case k6 => k_is
    case a7 => k_is
    case l7 => k_is
    case h7 => k_is
    case k7 => k_is
    case a8 => k_is
    case l8 => k_is
    case h8 => k_is
    case k8 => k_is
    case t8 => k_is
    case u8 => (first | rfl | k_is)
    case v8 => kernel_rfl
    case w8 => kernel_rfl
    case n0 => k_is
    case o0 => kernel_rfl
    case q0 => k_is
    case r0 => k_is
    case y0 => k_is
    case n1 => k_is
    case q1 => k_is
    case r1 => k_is
    case y1 => k_is
    case n2 => k_is
    case q2 => k_is
    case r2 => k_is
    case y2 => k_is
    case z_abs => k_is
    case z_any => k_is
    case z_enumerate => k_is
    case z_int => k_is
    case z_len => k_is
    case z_list => k_is
    case z_max => k_is
    case z_min => k_is
    case z_range => k_is
    case z_reversed => k_is
    case z_sorted => k_is
    case z_sum => k_is
    case z_tuple => k_is
    case e00 => kernel_rfl
    case e01 => kernel_rfl
    case e02 => kernel_rfl
    case e10 => kernel_rfl
    case e11 => kernel_rfl
    case e12 => kernel_rfl
    case e20 => kernel_rfl
    case e21 => kernel_rfl
    case e22 => kernel_rfl
    case ne => decide
    case off => decide
  case C =>
    intro w H s e s' z
    obtain ⟨_, _, _, _, _, _, _, _, _, _, _, _, z⟩ := z
    exact z
