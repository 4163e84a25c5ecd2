import PyProof.Rows.All
import Wide.All
import OpenK.AllK
import Wide.FinOn
import HandS.ForMost
import HandS.AnyAll
import HandS.GenOver
import HandS.EndTab
import HandS.GenList
import HandS.TupSets
import HandS.SortOrd
import HandS.DictTup
import HandS.DictComp
import HandS.More
import KE.KDictCopyH
import HandS.IsInst
import HandS.TupAny
import HandS.TupMul
import HandS.TupLe
import HandS.Deep
import HandS.Style
import HandS.Star
import HandS.Words
import HandS.WordsList
import PySem.Challenge.RW_foescome_k25_whole_stays_in_time
import HandS.Walk
import PyProof.SumWalk
import HandS.Zip
set_option Elab.async false
set_option linter.all false
set_option maxRecDepth 100000
set_option maxHeartbeats 2000000
/-! FoGen: any, all, sum of a generator expression over anything that PI serves; its element any PE of the hand layer (a call too). -/
namespace Fo
open PySem PySem.Spec PyProof.Rows L2 GenW GxR

/-- the context of a generator expression's frame that is woken where A is around -/
abbrev genC (X : Cx) (s : Shared) (H : Hp) (cenv : Env) (fp : List Addr) (A : Around) : Cx :=
  { X with A := A, s_0 := s, H_0 := H, env := cenv, outer := X.stack, stack := cenv :: X.stack, ex := fp, fn := fun _ => false, pn := [], xe := fun _ _ => False }

/-- the scope of a generator expression -/
structure GOk (N : List Str) (sc scope : Scope) (own : List (Str × Nat)) : Prop where
  blk : BlkOk N sc scope own
  co : scope.isCoroutine = false
  cell : ∀ y ∈ scope.names, y.2 ≠ .cell
  dot : scope.names.lookup (".0" : Str) = some NameKind.local
theorem gok_by {N : List Str} {sc scope : Scope} {own : List (Str × Nat)} (h : blkC N sc scope own = true) (h1 : scope.isCoroutine = false) (h2 : (scope.names.all fun y => match y.2 with | .cell => false | _ => true) = true)
    (h3 : scope.names.lookup (".0" : Str) = some NameKind.local) : GOk N sc scope own := by
  refine ⟨blkOk_by h, h1, fun y hy e => ?_, h3⟩
  have q := List.all_eq_true.mp h2 y hy
  rw [e] at q
  cases q

section
variable {X : Cx} {pins : List (Addr × Obj)} {σ : L2.St} {H : Hp} {s : Shared}
/-- the generator's frame stands -/
theorem gen_start {scope : Scope} {own : List (Str × Nat)} {fp : List Addr} {code : Value} {A : Around} {s' : Shared} {m : Str → Option Value} (I : Inv X pins σ H s) (ok : GOk X.N X.env.scope scope own) (hN : X.N.Nodup)
    (hfp : ∀ b ∈ fp, FpOk X pins H b ∧ b < s.heap.objs.size)
    (hA : A.frames = some (genEnv scope (cloFrom X.env.cells scope.names []) s.heap.objs.size code builtinsNs X.env :: X.stack)) (hd : A.handled = none)
    (hos : s'.os = s.os) (hb : AllBare s'.gens) (kp : ∀ b o, s.heap.get? b = some o → s'.heap.get? b = some o) (hns : s'.heap.Ns s.heap.objs.size m) :
    Inv (genC X s H (genEnv scope (cloFrom X.env.cells scope.names []) s.heap.objs.size code builtinsNs X.env) fp A) [] (wipe σ (own.map (·.2))) H s' := by
  have hfree : ∀ y ∈ scope.names, y.2 = .free → ∃ c, X.env.cells.lookup y.1 = some c := fun y hy e => by
    rcases ok.blk.free y hy e with k | k
    · exact I.ok.has _ (.inl k)
    · exact I.ok.has _ (.inr k)
  have cm : ∀ {y c}, (y, c) ∈ cloFrom X.env.cells scope.names [] → X.env.cells.lookup y = some c ∧ c < s.heap.objs.size := fun {y c} hm => by
    rcases cloFrom_mem hm with hm | ⟨h1, rfl⟩
    · cases hm
    · obtain ⟨c, hc⟩ := hfree _ h1 rfl
      rw [hc]
      obtain ⟨w, z⟩ := I.cell _ _ hc
      exact ⟨rfl, z.lt⟩
  have look : ∀ {y}, scope.names.lookup y = some .free → ∃ c, (cloFrom X.env.cells scope.names []).lookup y = some c ∧ X.env.cells.lookup y = some c := fun {y} hl => by
    have hy : (y, NameKind.free) ∈ scope.names := PySem.mem_of_lookup hl
    obtain ⟨c', e'⟩ := mem_lookup (cloFrom_has (cells := X.env.cells) (acc := []) hy)
    exact ⟨c', e', (cm (PySem.mem_of_lookup e')).1⟩
  have okB : (genC X s H (genEnv scope (cloFrom X.env.cells scope.names []) s.heap.objs.size code builtinsNs X.env) fp A).Ok := by
    refine ⟨I.ok.mod, ok.blk.kind, I.ok.glob, rfl, Nat.le_refl _, fun y z c e1 e2 => I.ok.inj y z c (cm (PySem.mem_of_lookup e1)).1 (cm (PySem.mem_of_lookup e2)).1, fun y hy => ?_, fun y c z e => ?_, fun _ => hd, hA, .inr ⟨rfl, rfl⟩,
      fun b hb => ⟨Nat.ne_of_lt (hfp b hb).2, fun y c e z => (hfp b hb).1.2.2.2.2.1 y c (cm (PySem.mem_of_lookup e)).1 z⟩, I.bs, Nat.le_trans I.ok.bsz I.sz, fun b o e hb => ?_, fun b hb z => ?_, I.stack, I.stkFree⟩
    · have hy : scope.names.lookup y = some .cell ∨ scope.names.lookup y = some .free := hy
      rcases hy with hy | hy
      · exact absurd rfl (ok.cell _ (PySem.mem_of_lookup hy))
      · obtain ⟨c, h1, _⟩ := look hy
        exact ⟨c, h1⟩
    · cases z
    · rcases (hfp b hb).1.2.2.2.1 with z | z
      · exact I.ok.noex b o e z
      · exact absurd (Nat.lt_of_lt_of_le (Heap.lt_size e) (Nat.le_trans I.ok.bsz z)) (Nat.lt_irrefl _)
    · rcases List.mem_cons.mp (I.stkSub b z) with z | z
      · exact (hfp b hb).1.2.1 z
      · exact (hfp b hb).1.2.2.1 z
  refine ⟨okB, hos, hb, Un.kept kp, ⟨m, hns, fun i y av e1 e2 e3 => ?_⟩, fun y c e => ?_, ?_, fun y c e => ?_, fun p hp => ?_, I.hok.kept kp, by rw [wipe_length]; exact I.len⟩
  · obtain ⟨e2, hne⟩ := wipe_some e2
    have hfr : scope.names.lookup y = some .free := by
      have no : ∀ k, (k = .local ∨ k = .cell) → scope.names.lookup y ≠ some k := fun k hk e => by
        rcases ok.blk.own _ (PySem.mem_of_lookup e) hk with e' | e'
        · obtain ⟨p, hp, hpy⟩ := List.mem_map.mp e'
          have e3 := ok.blk.ix p hp
          have : p.1 = y := hpy
          rw [this] at e3
          exact hne (List.mem_map.mpr ⟨p, hp, nodup_ix hN e3 e1⟩)
        · exact e' (List.mem_of_getElem? e1)
      have e3 : Vis scope y := e3
      rcases e3 with e3 | e3 | e3
      · exact absurd e3 (no _ (.inl rfl))
      · exact absurd e3 (no _ (.inr rfl))
      · exact e3
    obtain ⟨m', hn, hl⟩ := I.loc
    have hvis : Vis X.env.scope y := (ok.blk.free _ (PySem.mem_of_lookup hfr) rfl).elim (fun k => .inr (.inl k)) (fun k => .inr (.inr k))
    obtain ⟨w, r, q⟩ := hl i y av e1 e2 hvis
    obtain ⟨c, h1, h2⟩ := look hfr
    refine ⟨w, r, .inr ⟨.inr hfr, c, h1, ?_⟩⟩
    rcases q with ⟨k, _⟩ | ⟨_, c', e', z⟩
    · have k : X.env.scope.names.lookup y = some .local := k
      rcases ok.blk.free _ (PySem.mem_of_lookup hfr) rfl with k' | k' <;> rw [show X.env.scope.names.lookup y = _ from k'] at k <;> cases k
    · rw [h2] at e'; cases e'
      exact z.keeps kp
  · obtain ⟨w, z⟩ := I.cell y c (cm (PySem.mem_of_lookup e)).1
    exact ⟨w, z.keeps kp⟩
  · exact I.hok.fresh (Nat.le_refl _)
  · exact I.freeC y c (cm (PySem.mem_of_lookup e)).1
  · exact absurd (show p ∈ ([] : List (Addr × Obj)) ++ [] from hp) (by simp)
end

/-! ### between two turns -/
/-- while the generator sleeps its consumer may write its own record S; all else is kept -/
structure GSlept (S a : Addr) (s s' : Shared) : Prop where
  os : s'.os = s.os
  bare : AllBare s'.gens
  keep : ∀ b o, b ≠ S → s.heap.get? b = some o → s'.heap.get? b = some o
  own : ∀ o, s.heap.get? S = some o → (∀ v, o.data ≠ .cell v) → ∃ o', s'.heap.get? S = some o' ∧ ∀ v, o'.data ≠ .cell v
  gen : ∀ o, s.heap.get? a = some o → s'.heap.get? a = some o
/-- the consumer's record and the generator's own object stand apart from the generator's frame -/
structure GApart (Y : Cx) (S a : Addr) : Prop where
  pn : Y.pn = []
  s : Y.s_0.heap.objs.size ≤ S ∧ S ≠ Y.env.locals ∧ S ∉ Y.ex ∧ ∀ x c, Y.env.cells.lookup x = some c → c ≠ S
  a : Y.s_0.heap.objs.size ≤ a ∧ a ≠ Y.env.locals ∧ a ∉ Y.ex ∧ ∀ x c, Y.env.cells.lookup x = some c → c ≠ a
abbrev GPin (S a : Addr) (oS go : Obj) : List (Addr × Obj) := [(S, oS), (a, go)]
def GIn (Y : Cx) (S a : Addr) (go : Obj) (σ : L2.St) (H : Hp) (s : Shared) : Prop := ∃ oS, Inv Y (GPin S a oS go) σ H s
theorem GIn.woken {Y : Cx} {S a : Addr} {go : Obj} {σ : L2.St} {H : Hp} {s s' : Shared} (ap : GApart Y S a) (h : GIn Y S a go σ H s) (z : GSlept S a s s') : GIn Y S a go σ H s' := by
  obtain ⟨oS, I⟩ := h
  obtain ⟨eS, nS, lS, fS, dS⟩ := I.pin (S, oS) (List.mem_append_right _ List.mem_cons_self)
  obtain ⟨ea, na, la, fa, da⟩ := I.pin (a, go) (List.mem_append_right _ (List.mem_cons_of_mem _ List.mem_cons_self))
  have I0 : Inv Y [] σ H s := I.pins_of fun p hp => absurd hp (by simp)
  obtain ⟨o', eS', dS'⟩ := z.own oS eS dS
  obtain ⟨hh, g, d, t, o⟩ := s'
  have ho : o = s.os := z.os
  subst ho
  have nc : ∀ b, b ∉ [S] → b ≠ S := fun b hb e => hb (by rw [e]; exact List.mem_singleton.mpr rfl)
  have nt : ∀ b u, H b = some u → b ≠ S := fun b u q hb => by rw [hb, nS] at q; cases q
  have J : Inv Y [] σ H { s with heap := hh, gens := g, drawn := d, toks := t } := by
    refine I0.step (g' := g) (t' := t) (d' := d) (ch := [S]) (fun b hb => ?_)
      (fun b ob _ _ hc q _ => z.keep b ob (nc b hc) q) (fun b ob _ _ hc q _ => ⟨ob.slots, z.keep b ob (nc b hc) q⟩) (fun _ _ _ _ n => n) (fun b ob hc q => ⟨ob, z.keep b ob (nc b hc) q⟩)
      (fun _ _ q => q) (fun _ _ _ q => q) (fun b ps q => ⟨#[], by rw [q]; simp⟩) (fun m hm => ?_) (fun b u q => ?_) z.bare
    · rw [List.mem_singleton.mp hb]
      refine ⟨.inr ap.s.1, ap.s.2.1, ap.s.2.2.2, fun p hp => ?_⟩
      rw [ap.pn] at hp
      exact absurd hp (by simp)
    · obtain ⟨ob, es, ep, ho, r⟩ := hm
      exact ⟨ob, es, ep, z.keep _ ob (Ne.symm lS) ho, r⟩
    · refine (I0.hok b u q).stay (fun c v hc y => z.keep c v ?_ y) (fun _ y => y) fun _ _ y => y
      rcases hc with y | y
      · rw [y]; exact nt b u q
      · exact nt c _ y
  refine ⟨o', J.pins_of fun p hp => ?_⟩
  rcases List.mem_cons.mp hp with e | hp
  · subst e
    exact ⟨eS', nS, lS, fS, dS'⟩
  · rw [List.mem_singleton.mp hp]
    exact ⟨z.gen go ea, na, la, fa, da⟩

/-! ### the generator's turns -/
/-- an item is out: turn i of n; what follows when it is woken -/
def GXY (Y : Cx) (S a : Addr) (go : Obj) (σ : L2.St) (n : Nat) (W : Nat → Hp → Prop) (Yp : Nat → V → Hp → Prop) : Protocol := fun k s₀ v s kap =>
  ∃ i y H, (i < n ∧ i + k = n ∧ s.heap.get? S = s₀.heap.get? S) ∧ GIn Y S a go σ H s ∧ RelV y v ∧ Yp i y H ∧ ∀ s', GSlept S a s s' → W (i + 1) H → kap (.send .none) s'
def GXR (Y : Cx) (S a : Addr) (go : Obj) (σ : L2.St) (n : Nat) (W : Nat → Hp → Prop) (k : Nat) (s₀ s : Shared) : Prop := (k = 1 ∧ s.heap.get? S = s₀.heap.get? S) ∧ ∃ H, GIn Y S a go σ H s ∧ W n H
abbrev GXE (Y : Cx) (S a : Addr) (go : Obj) (σ : L2.St) (n : Nat) (W : Nat → Hp → Prop) : GenEnd := fun k s₀ r s => r = .ok .next ∧ GXR Y S a go σ n W k s₀ s

theorem over_gen {A : Around} {elt tg iter : Expr} {ifs : List Expr} {scope : Scope} {pos : Pos} {it acc : Value} {env : Env} : A.over (.compLoop (.GeneratorExp elt [⟨tg, iter, ifs, 0⟩] scope pos) 0 it acc env) [] = A.deeper env := by
  first
    | rfl
    | (obtain ⟨hd, d, fr, gs, u⟩ := A; simp [Around.over, Around.deeper, marksOver, frameCount, unitsOf, envsOf, guardsOf, pushEnvs, pushGuards, Code.envs, Code.env?, Code.isFrame, Code.guards, Code.isGuard, Code.weight, Code.frames, Code.isCreation, Code.isCaller, Code.cUnits])
theorem over_genS {A : Around} {elt tg iter : Expr} {ifs : List Expr} {scope : Scope} {pos : Pos} {it acc : Value} {env : Env} : A.over (.compStart (.GeneratorExp elt [⟨tg, iter, ifs, 0⟩] scope pos) 0 it acc env) [] = A.deeper env := by
  first
    | rfl
    | (obtain ⟨hd, d, fr, gs, u⟩ := A; simp [Around.over, Around.deeper, marksOver, frameCount, unitsOf, envsOf, guardsOf, pushEnvs, pushGuards, Code.envs, Code.env?, Code.isFrame, Code.guards, Code.isGuard, Code.weight, Code.frames, Code.isCreation, Code.isCaller, Code.cUnits])

theorem seg_gx {Y : Cx} {S a it : Addr} {go : Obj} {elt tg iter : Expr} {scope : Scope} {pos : Pos} {J : It} {fp : List Addr} {tn : Nat → Heap → Prop} {g : TG} {te : TE} {vs : List Nat} {σ : L2.St} {n : Nat} {W : Nat → Hp → Prop} {Yp : Nat → V → Hp → Prop} {A : Around}
    (ap : GApart Y S a) (hc : Y.calm = true) (hx : Y.xe = fun _ _ => False) (hex : Y.ex = fp) (hYA : Y.A = A.deeper Y.env) (hco : Y.env.scope.isCoroutine = false)
    (T : Turn Y.prog Y.w Y.K tg J fp it tn) (pg : PG Y tg g) (pe : PE Y elt te)
    (hgo : ∀ i H, i < n → W i H → J.go i H ∧ ∀ x H', J.yld i H x H' → g x σ H' fun σ2 H2 => wipe σ2 vs = σ ∧ te σ2 H2 fun y H3 => Yp i y H3) (hst : ∀ H, W n H → J.stop n H) :
    ∀ (k i : Nat) (s₀ s : Shared) (H : Hp), n - i = k → i ≤ n → tn i s.heap → (∀ b ∈ fp, H b = none) → GIn Y S a go σ H s → W i H → s.heap.get? S = s₀.heap.get? S →
      Seg (model Y.prog Y.w) A (GXE Y S a go σ n W) (GXY Y S a go σ n W Yp) (n + 1 - i) s₀ (.compLoop (.GeneratorExp elt [⟨tg, iter, [], 0⟩] scope pos) 0 (.ref it) .none Y.env)
        ((model Y.prog Y.w).den (.compLoop (.GeneratorExp elt [⟨tg, iter, [], 0⟩] scope pos) 0 (.ref it) .none Y.env)) [] s := by
  have stat : ∀ {oS : Obj} {σ' : L2.St} {H' : Hp} {s' : Shared}, Inv Y (GPin S a oS go) σ' H' s' → (∀ b ∈ fp, H' b = none) → ∀ b ∈ fp, FpOk Y (GPin S a oS go) H' b := fun {oS σ' H' s'} I' hn b hb =>
    ⟨hn b hb, (I'.ok.exf b (hex ▸ hb)).1, I'.ok.exfs b (hex ▸ hb), .inl (hex ▸ hb), fun x c e => (I'.ok.exf b (hex ▸ hb)).2 x c e, fun p hp => by
      rw [ap.pn] at hp
      rcases List.mem_cons.mp hp with e | hp
      · rw [e]; exact fun z => ap.s.2.2.1 (by rw [hex, show S = b from z]; exact hb)
      · rw [List.mem_singleton.mp hp]; exact fun z => ap.a.2.2.1 (by rw [hex, show a = b from z]; exact hb)⟩
  intro k
  induction k with
  | zero =>
    intro i s₀ s H hk hi hst' hn hG hw hS0
    have hin : i = n := by omega
    subst hin
    obtain ⟨oS, I⟩ := hG
    show Seg _ A _ _ _ s₀ _ ((compTurn (.GeneratorExp elt [⟨tg, iter, [], 0⟩] scope pos) 0 (.ref it) .none Y.env).onRaise (leaving Y.env)) [] s
    rw [compTurn_gen, Sem.onRaise_eq_wrap]
    refine seg_bind_wrap (wpAny_standAt ?_)
    refine seg_bind_wrap ?_
    rw [over_gen, ← hYA]
    refine thn (T.done Y rfl rfl rfl hc i _ s σ H _ I (stat I hn) hst' (hst H hw)) fun r s1 ⟨hr, I1⟩ => ?_
    subst hr
    exact seg_end (.ok .next) ⟨rfl, ⟨by omega, (((I1.pin (S, oS) (List.mem_append_right _ List.mem_cons_self)).1.trans (I.pin (S, oS) (List.mem_append_right _ List.mem_cons_self)).1.symm).trans hS0)⟩, H, ⟨oS, I1⟩, hw⟩
  | succ k ih =>
    intro i s₀ s H hk hi hst' hn hG hw hS0
    have hlt : i < n := by omega
    obtain ⟨oS, I⟩ := hG
    obtain ⟨jgo, step⟩ := hgo i H hlt hw
    show Seg _ A _ _ _ s₀ _ ((compTurn (.GeneratorExp elt [⟨tg, iter, [], 0⟩] scope pos) 0 (.ref it) .none Y.env).onRaise (leaving Y.env)) [] s
    rw [compTurn_gen, Sem.onRaise_eq_wrap]
    refine seg_bind_wrap (wpAny_standAt ?_)
    refine seg_bind_wrap ?_
    rw [over_gen, ← hYA]
    refine thn (T.item Y rfl rfl rfl hc i _ s σ H _ I (stat I hn) hst' jgo) fun r s1 ⟨u, hr, h1⟩ => ?_
    subst hr
    refine seg_bind_wrap ?_
    rw [over_gen, ← hYA]
    refine thn h1 fun _ s2 ⟨x, H2, I2, r2, y2, st2, n2⟩ => ?_
    have I2' := I2.pinned (stat I2 n2) (T.obj _ _ st2)
    refine seg_bind_wrap ?_
    rw [over_gen, ← hYA]
    have h3 := pg.run _ s2 σ H2 x u _ I2' r2 (step x H2 y2)
    rw [hx] at h3
    refine thnF h3 fun _ s3 ⟨σ3, H3, I3, hw3, q3⟩ => ?_
    refine seg_bind_wrap (wpAny_tests_nil ?_)
    simp only [if_true]
    have hy : ∀ v, yieldOut Y.env v = yieldValue v := fun v => by simp only [yieldOut, hco, Bool.false_eq_true, if_false]
    simp only [hy]
    rw [Sem.bind_eq_wrap', Sem.bind_eq_wrap', Sem.wrap_wrap, Sem.wrap_wrap]
    refine seg_wrap ?_
    rw [over_gen, ← hYA]
    have h4 := pe.run _ s3 σ3 H3 _ I3 q3
    rw [hx] at h4
    refine thnF h4 fun v s4 ⟨y, H4, I4, r4, q4⟩ => ?_
    -- what stands at the turn's end
    have pin' : ∀ b ∈ fp, ∀ o, s2.heap.get? b = some o → s4.heap.get? b = some o ∧ H4 b = none := fun b hb o e =>
      let z := I4.pin (b, o) (List.mem_append_right _ (List.mem_append_right _ (mem_pinsAt hb e)))
      ⟨z.1, z.2.1⟩
    have st4 : tn (i + 1) s4.heap := T.keep _ _ _ st2 fun b hb o e => (pin' b hb o e).1
    have n4 : ∀ b ∈ fp, H4 b = none := fun b hb => by
      obtain ⟨o, e, _⟩ := T.obj _ _ st2 b hb
      exact (pin' b hb o e).2
    have hl : σ.length = σ3.length := by rw [← hw3, wipe_length]
    have G4 : GIn Y S a go σ H4 s4 := ⟨oS, (I4.unpinned (pins := GPin S a oS go)).weak hl fun j w e => by
      rw [← hw3] at e
      exact (wipe_some e).1⟩
    have ek : n + 1 - i = (n + 1 - (i + 1)) + 1 := by omega
    rw [ek]
    refine seg_at (seg_yield rfl rfl rfl ⟨i, y, H4, ⟨hlt, by omega, (((I4.pin (S, oS) (List.mem_append_right _ (List.mem_append_left _ List.mem_cons_self))).1.trans (I.pin (S, oS) (List.mem_append_right _ List.mem_cons_self)).1.symm).trans hS0)⟩, G4, r4, q4, fun s'' z hw' => ?_⟩)
    refine seg_again rfl (ih (i + 1) s'' s'' H4 (by omega) hlt ?_ n4 (G4.woken ap z) hw' rfl)
    refine T.keep _ _ _ st4 fun b hb o e => z.keep b o (fun q => ap.s.2.2.1 (by rw [hex, ← q]; exact hb)) e

theorem seg_gxStart {Y : Cx} {S a it : Addr} {go : Obj} {elt tg iter : Expr} {scope : Scope} {pos : Pos} {J : It} {fp : List Addr} {tn : Nat → Heap → Prop} {g : TG} {te : TE} {vs : List Nat} {σ : L2.St} {n : Nat} {W : Nat → Hp → Prop} {Yp : Nat → V → Hp → Prop} {A : Around}
    (ap : GApart Y S a) (hc : Y.calm = true) (hx : Y.xe = fun _ _ => False) (hex : Y.ex = fp) (hYA : Y.A = A.deeper Y.env) (hco : Y.env.scope.isCoroutine = false)
    (T : Turn Y.prog Y.w Y.K tg J fp it tn) (pg : PG Y tg g) (pe : PE Y elt te)
    (hgo : ∀ i H, i < n → W i H → J.go i H ∧ ∀ x H', J.yld i H x H' → g x σ H' fun σ2 H2 => wipe σ2 vs = σ ∧ te σ2 H2 fun y H3 => Yp i y H3) (hst : ∀ H, W n H → J.stop n H)
    (s₀ s : Shared) (H : Hp) (h0 : tn 0 s.heap) (hn : ∀ b ∈ fp, H b = none) (hG : GIn Y S a go σ H s) (hw : W 0 H) (hS0 : s.heap.get? S = s₀.heap.get? S) :
    Seg (model Y.prog Y.w) A (GXE Y S a go σ n W) (GXY Y S a go σ n W Yp) (n + 1) s₀ (.compStart (.GeneratorExp elt [⟨tg, iter, [], 0⟩] scope pos) 0 (.ref it) .none Y.env)
      ((model Y.prog Y.w).den (.compStart (.GeneratorExp elt [⟨tg, iter, [], 0⟩] scope pos) 0 (.ref it) .none Y.env)) [] s := by
  have loop := seg_gx (iter := iter) (scope := scope) (pos := pos) ap hc hx hex hYA hco T pg pe hgo hst n 0 s₀ s H (Nat.sub_zero _) (Nat.zero_le _) h0 hn hG hw hS0
  rw [Nat.sub_zero] at loop
  show Seg _ A _ _ _ s₀ _ ((compStart (.GeneratorExp elt [⟨tg, iter, [], 0⟩] scope pos) 0 (.ref it) .none Y.env).onRaise (leaving Y.env)) [] s
  unfold compStart
  rw [Sem.onRaise_eq_wrap]
  show Seg _ A _ _ _ s₀ _ ((ask >>= _).wrap _ _ _ _) [] s
  refine seg_bind_wrap (wpAny_askSetting ?_)
  split
  · exact seg_again rfl loop
  · first
      | exact seg_bind_wrap (wpAny_rule (seg_bind_wrap (wpAny_standAt (seg_bind_wrap (T.self _ 0 s _ _ h0 (seg_again rfl loop))))))
      | (refine seg_bind_wrap (wpAny_rule ?_); show Seg _ A _ _ _ s₀ _ ((standAt iter.pos >>= _).wrap _ _ _ _) [] s; exact seg_bind_wrap (wpAny_standAt (seg_bind_wrap (T.self _ 0 s _ _ h0 (seg_again rfl loop)))))
end Fo
set_option maxHeartbeats 2000000
/-! FoAny: the consumers any, all, sum of such a generator. -/
namespace Fo
open PySem PySem.Spec PyProof.Rows L2 GenW GxR

section
variable {Y : Cx} {S a : Addr} {go : Obj} {σ : L2.St} {H : Hp} {s : Shared}
theorem GIn.kept {s' : Shared} (h : GIn Y S a go σ H s) (ho : s'.os = s.os) (hb : AllBare s'.gens) (k : ∀ b o, s.heap.get? b = some o → s'.heap.get? b = some o) : GIn Y S a go σ H s' := by
  obtain ⟨oS, I⟩ := h
  exact ⟨oS, I.call' (ch := []) ho (Un.kept k) (I.hok.kept k) hb fun b z => absurd z (by simp)⟩
theorem GIn.bare (h : GIn Y S a go σ H s) : AllBare s.gens := let ⟨_, I⟩ := h; I.bare
theorem GIn.os (h : GIn Y S a go σ H s) : s.os = Y.s_0.os := let ⟨_, I⟩ := h; I.os
theorem GIn.nolimit (h : GIn Y S a go σ H s) : s.heap.NoLimit := let ⟨_, I⟩ := h; I.nolimit
theorem GIn.gen (h : GIn Y S a go σ H s) : s.heap.get? a = some go := let ⟨oS, I⟩ := h; (I.pin (a, go) (List.mem_append_right _ (List.mem_cons_of_mem _ List.mem_cons_self))).1
theorem GIn.own (h : GIn Y S a go σ H s) : ∃ o, s.heap.get? S = some o := let ⟨oS, I⟩ := h; ⟨oS, (I.pin (S, oS) (List.mem_append_right _ List.mem_cons_self)).1⟩
end

/-- the generator g at a stands ahead of its turn i -/
structure GAt (P : Program) (w : World) (Y : Cx) (S a : Addr) (go : Obj) (g : Nat) (σ : L2.St) (n : Nat) (W : Nat → Hp → Prop) (Yp : Nat → V → Hp → Prop) (A : Around) (i : Nat) (s : Shared) : Prop where
  inv : ∃ H, GIn Y S a go σ H s ∧ W i H
  goes : ∃ gs, s.gens[g]? = some gs ∧ gs.Goes (model P w) A (GXE Y S a go σ n W) (GXY Y S a go σ n W Yp) (n + 1 - i) (.send .none) (s.setGen g .running)
/-- what is known of a generator that has just been made, ready to be walked where A is around -/
structure GNew (X : Cx) (pins : List (Addr × Obj)) (σ : L2.St) (elt tg iter : Expr) (scope : Scope) (pos : Pos) (own : List (Str × Nat)) (J : It) (H : Hp) (s₄ : Shared) (a : Addr) (g : Nat) (s : Shared) (it : Addr) (fp : List Addr) (tn : Nat → Heap → Prop) (code : Value) (go : Obj) : Prop where
  inv : Inv X pins σ H s₄
  turn : Turn X.prog X.w X.K tg J fp it tn
  t0 : tn 0 s₄.heap
  fp : ∀ b ∈ fp, FpOk X pins H b ∧ b < s₄.heap.objs.size
  os : s.os = s₄.os
  bare : AllBare s.gens
  gen : s.gens[g]? = some (.fresh (.compStart (.GeneratorExp elt [⟨tg, iter, [], 0⟩] scope pos) 0 (.ref it) .none (genEnv scope (cloFrom X.env.cells scope.names []) s₄.heap.objs.size code builtinsNs X.env)))
  kp : ∀ b o, s₄.heap.get? b = some o → s.heap.get? b = some o
  ns : ∃ m, s.heap.Ns s₄.heap.objs.size m
  lt : s₄.heap.objs.size < a
  at_ : s.heap.get? a = some go
  isg : ∀ h : Heap, h.get? a = some go → h.IsGen a g
  dat : ∀ v, go.data ≠ .cell v

section
variable {X : Cx} {pins : List (Addr × Obj)} {σ : L2.St} {H : Hp} {s : Shared}
theorem gen_make {c P : Addr} {elt tg iter : Expr} {gpos : Pos} {scope : Scope} {own : List (Str × Nat)} {wi : TI} {k : Nat} {Q' : Value → Shared → Prop} {R : It → Hp → Prop}
    (hr : Room k X.A) (TB : LamX.TabB X.base X.mg c P) (hcode : X.env.code = .ref c) (ok : GOk X.N X.env.scope scope own) (hi : PI X tg iter wi)
    (hs : ∀ v, genFold iter X.env v = pure v) (I : Inv X pins σ H s) (h : wi σ H fun J H1 => TabG H1 P ∧ R J H1)
    (hQ : ∀ J H1 H2 s₄ a g s5 it fp tn code go, R J H1 → Tabbed P H1 H2 → GNew X pins σ elt tg iter scope gpos own J H2 s₄ a g s5 it fp tn code go → Q' (.ref a) s5) :
    wpAny (model X.prog X.w) X.A (eval (.GeneratorExp elt [⟨tg, iter, [], 0⟩] scope gpos) X.env) Q' X.xe s := by
  have hfree : ∀ y ∈ scope.names, y.2 = .free → ∃ c, X.env.cells.lookup y.1 = some c := fun y hy e => by
    rcases ok.blk.free y hy e with k | k
    · exact I.ok.has _ (.inl k)
    · exact I.ok.has _ (.inr k)
  refine wpAny_GeneratorExp_make ok.co (closure_ok hfree) ok.cell ok.dot ok.blk.kind (by have := hr.dp; omega) ?_ hs
  refine thn (hi.run pins s σ H _ I h) fun xv s1 hx => thn hx fun itv s2 h2 => ?_
  obtain ⟨it, fp, tn, J, H2, e, I2, T, st2, f2, ⟨ps, hP, ht⟩, q⟩ := h2
  subst e
  have hPs : s2.heap.get? P = some { cls := .none, data := .fields ps } := I2.hok P _ hP
  have hPlt : P < s2.heap.objs.size := Heap.lt_size hPs
  have cd : PySem.W.CodeHd s2.heap c P := TB.code.keeps fun b u e => I2.bk b u e
  have lim2 : s2.heap.NoLimit := I2.nolimit
  have cont : ∀ (code : Value) (h3 : Heap) (tk : Nat) (ps' : Array Value), Heap.ExtBut P s2.heap h3 → s2.heap.objs.size ≤ h3.objs.size → h3.get? P = some { cls := .none, data := .fields ps' } → (∃ more, ps' = ps ++ more) → TriplesOk ps'.toList →
      wpAny (model X.prog X.w) X.A (builtinsFor X.env.globals X.env.builtins) (fun bi s₄ =>
        ∀ h', h'.Ns s₄.heap.objs.size (fun y => if y = ".0" then some (.ref it) else none) → Heap.SameBut s₄.heap.objs.size (s₄.heap.push { cls := .type "frame", data := .dict #[] }) h' →
          Q' (.ref h'.objs.size) { s₄ with
            gens := s₄.gens.push (.fresh (.compStart (.GeneratorExp elt [⟨tg, iter, [], 0⟩] scope gpos) 0 (.ref it) .none (genEnv scope (cloFrom X.env.cells scope.names []) s₄.heap.objs.size code bi X.env))),
            toks := s₄.toks + 1 + 1 + 1,
            heap := h'.push { cls := .type "generator", data := .fields #[.int s₄.gens.size 0, .str "<genexpr>" (s₄.toks + 1), .str (X.env.qual ++ "<genexpr>") (s₄.toks + 1 + 1)] } }) X.xe { s2 with heap := h3, toks := tk } := by
    intro code h3 tk ps' hx hsz hP3 hmore ht3
    obtain ⟨bm, ob, e1, e2, e3, e4, e5, e6, e7, e8⟩ := TB.bm
    have keep3 : ∀ b u, b ≠ P → s2.heap.get? b = some u → h3.get? b = some u := fun b u hb e => hx b u hb e
    refine wpAny_builtinsFor (m := X.mg) (by rw [I2.ok.glob]; exact (I2.mod.glob.keeps I2.bk).extBut hx TB.gP) e1 e2 (keep3 _ _ e4 (I2.bk _ _ e5)) e6 e7 e8 ?_
    obtain ⟨more, em⟩ := hmore
    have I4 : Inv X pins σ (upd H2 P (.tbl (ps ++ more))) { s2 with heap := h3, toks := tk } :=
      inv_tab (more := more) (h' := h3) (g' := s2.gens) (d' := s2.drawn) (t' := tk) I2 hP (fun b u hb e => keep3 b u hb e) (by rw [← em]; exact hP3) I2.bare
    have nP : ∀ b ∈ fp, b ≠ P := fun b hb z => by
      have q := (f2 b hb).1
      rw [z, hP] at q
      cases q
    have sz2 : ∀ b ∈ fp, b < s2.heap.objs.size := fun b hb => by
      obtain ⟨o, e, _⟩ := T.obj _ _ st2 b hb
      exact Heap.lt_size e
    have st4 : tn 0 h3 := T.keep _ _ _ st2 fun b hb o e => keep3 b o (nP b hb) e
    have f4 : ∀ b ∈ fp, FpOk X pins (upd H2 P (.tbl (ps ++ more))) b ∧ b < h3.objs.size := fun b hb =>
      ⟨⟨by rw [upd_ne (nP b hb)]; exact (f2 b hb).1, (f2 b hb).2⟩, Nat.lt_of_lt_of_le (sz2 b hb) hsz⟩
    intro h' hn' hs'
    have hsz' : h'.objs.size = h3.objs.size + 1 := by rw [hs'.1, Heap.size_push]
    have keep' : ∀ b o, h3.get? b = some o → h'.get? b = some o := fun b o e => hs'.extBut b o (Nat.ne_of_lt (Heap.lt_size e)) (Heap.get?_push_of_some _ e)
    refine hQ J H2 _ { s2 with heap := h3, toks := tk } h'.objs.size s2.gens.size _ it fp tn code _ q ⟨⟨ps ++ more, upd_same, by rw [← em]; exact ht3⟩, fun b hb => upd_ne hb⟩
      ⟨I4, T, st4, f4, rfl, I2.bare.push rfl, Array.getElem?_push_size .., fun b o e => Heap.get?_push_of_some _ (keep' b o e), ⟨_, hn'.push _⟩, (by show h3.objs.size < h'.objs.size; omega), Heap.get?_push_size _ rfl, fun h e => ⟨_, _, _, e, rfl, rfl, rfl⟩, fun v z => by cases z⟩
  refine ⟨lim2, ?_⟩
  cases hf : codeAmong gpos ps.toList with
  | none =>
    refine wpAny_genexprCodeX hcode (cd.code hPs ht) (cd.tab hPs) hf fun c' h' tk hx hge hlt hco' _ htab' _ => ?_
    obtain ⟨o1, vs, f1, tf, fl, tg, inF, tx, tt, op, _, _, _, _, _, _, _, _, _, htr, _⟩ := hco'
    exact cont _ h' tk _ hx (Nat.le_trans hge (Nat.le_of_lt hlt)) htab'.2 ⟨_, rfl⟩ htr
  | some cv =>
    refine wpAny_genexprCode_hit hcode (cd.code hPs ht) hf ?_
    exact cont cv s2.heap s2.toks ps (Heap.ExtBut.refl _ _) (Nat.le_refl _) hPs ⟨#[], by simp⟩ ht

/-! ### the walk of a new generator -/
variable {elt tg iter : Expr} {scope : Scope} {gpos : Pos} {own : List (Str × Nat)} {J : It} {s₄ s5 : Shared} {a it : Addr} {g : Nat} {fp : List Addr} {tn : Nat → Heap → Prop} {code : Value} {go : Obj}
abbrev genY (X : Cx) (scope : Scope) (s₄ : Shared) (H : Hp) (fp : List Addr) (code : Value) (A : Around) : Cx :=
  genC X s₄ H (genEnv scope (cloFrom X.env.cells scope.names []) s₄.heap.objs.size code builtinsNs X.env) fp (A.deeper (genEnv scope (cloFrom X.env.cells scope.names []) s₄.heap.objs.size code builtinsNs X.env))
/-- the frame and the objects of the generator stand where the consumer's record is S -/
theorem GNew.start (G : GNew X pins σ elt tg iter scope gpos own J H s₄ a g s5 it fp tn code go) (ok : GOk X.N X.env.scope scope own) (hN : X.N.Nodup) {A : Around} (hf : A.frames = some X.stack) (hd : A.handled = none) {S : Addr} {oS : Obj} {s6 : Shared}
    (hos : s6.os = s5.os) (hb : AllBare s6.gens) (kp : ∀ b o, s5.heap.get? b = some o → s6.heap.get? b = some o) (hS : s₄.heap.objs.size < S) (eS : s6.heap.get? S = some oS) (dS : ∀ v, oS.data ≠ .cell v) :
    GApart (genY X scope s₄ H fp code A) S a ∧ GIn (genY X scope s₄ H fp code A) S a go (wipe σ (own.map (·.2))) H s6 := by
  obtain ⟨m, hns⟩ := G.ns
  have I0 := gen_start (code := code) (A := A.deeper (genEnv scope (cloFrom X.env.cells scope.names []) s₄.heap.objs.size code builtinsNs X.env)) G.inv ok hN G.fp (Around.frames_deeper hf) hd (hos.trans G.os) hb (fun b o e => kp b o (G.kp b o e)) (hns.keeps kp)
  have young : ∀ b, s₄.heap.objs.size < b → s₄.heap.objs.size ≤ b ∧ b ≠ s₄.heap.objs.size ∧ b ∉ fp ∧ ∀ x c, (cloFrom X.env.cells scope.names []).lookup x = some c → c ≠ b := fun b hb =>
    ⟨Nat.le_of_lt hb, Nat.ne_of_gt hb, fun z => Nat.lt_irrefl _ (Nat.lt_trans hb (G.fp b z).2), fun x c e z => by
      rcases cloFrom_mem (PySem.mem_of_lookup e) with hm | ⟨h1, rfl⟩
      · cases hm
      · have hfree : ∃ c, X.env.cells.lookup x = some c := by
          rcases ok.blk.free _ h1 rfl with k | k
          · exact G.inv.ok.has _ (.inl k)
          · exact G.inv.ok.has _ (.inr k)
        obtain ⟨c, hc⟩ := hfree
        rw [hc] at z
        obtain ⟨w, q⟩ := G.inv.cell _ _ hc
        have q2 := q.lt
        have z2 : c = b := z
        rw [z2] at q2
        exact Nat.lt_irrefl _ (Nat.lt_trans hb q2)⟩
  have free : ∀ b, s₄.heap.objs.size < b → H b = none ∧ b ∉ frs X.stack := fun b hb => ⟨G.inv.hok.fresh (Nat.le_of_lt hb), fun z => by
    rcases List.mem_cons.mp (G.inv.stkSub b z) with z | z
    · have q := G.inv.lt
      rw [← z] at q
      exact Nat.lt_irrefl _ (Nat.lt_trans hb q)
    · exact G.inv.nofs (Nat.le_of_lt hb) z⟩
  refine ⟨⟨rfl, young S hS, young a G.lt⟩, oS, I0.pins_of fun p hp => ?_⟩
  rcases List.mem_cons.mp hp with e | hp
  · subst e
    exact ⟨eS, (free S hS).1, (young S hS).2.1, (free S hS).2, dS⟩
  · rw [List.mem_singleton.mp hp]
    exact ⟨kp a go G.at_, (free a G.lt).1, (young a G.lt).2.1, (free a G.lt).2, G.dat⟩
/-- back in the def's frame -/
theorem GNew.back (G : GNew X pins σ elt tg iter scope gpos own J H s₄ a g s5 it fp tn code go) {A : Around} {S : Addr} {σ' : L2.St} {H' : Hp} {s' : Shared} (h : GIn (genY X scope s₄ H fp code A) S a go σ' H' s') : Inv X pins σ H' s' := by
  obtain ⟨oS, I'⟩ := h
  exact G.inv.call' (ch := fp) I'.os I'.base I'.hok I'.bare fun b hb => ⟨(G.fp b hb).1.2.2.2.1, (G.fp b hb).1.2.1, (G.fp b hb).1.2.2.2.2.1, (G.fp b hb).1.2.2.2.2.2⟩
/-- ahead of the first turn -/
theorem GNew.first (G : GNew X pins σ elt tg iter scope gpos own J H s₄ a g s5 it fp tn code go) (ok : GOk X.N X.env.scope scope own) (hN : X.N.Nodup) (hc : X.calm = true) {A : Around} (hf : A.frames = some X.stack) (hd : A.handled = none) {S : Addr} {oS : Obj} {s6 : Shared}
    (hos : s6.os = s5.os) (hg : s6.gens = s5.gens) (kp : ∀ b o, s5.heap.get? b = some o → s6.heap.get? b = some o) (hS : s₄.heap.objs.size < S) (eS : s6.heap.get? S = some oS) (dS : ∀ v, oS.data ≠ .cell v)
    {gt : TG} {te : TE} {n : Nat} {W : Nat → Hp → Prop} {Yp : Nat → V → Hp → Prop} (pg : PG (genY X scope s₄ H fp code A) tg gt) (pe : PE (genY X scope s₄ H fp code A) elt te)
    (hgo : ∀ i H, i < n → W i H → J.go i H ∧ ∀ x H', J.yld i H x H' → gt x (wipe σ (own.map (·.2))) H' fun σ2 H2 => wipe σ2 (own.map (·.2)) = wipe σ (own.map (·.2)) ∧ te σ2 H2 fun y H3 => Yp i y H3) (hst : ∀ H, W n H → J.stop n H) (w0 : W 0 H) :
    GApart (genY X scope s₄ H fp code A) S a ∧ GAt X.prog X.w (genY X scope s₄ H fp code A) S a go g (wipe σ (own.map (·.2))) n W Yp A 0 s6 := by
  have hb6 : AllBare s6.gens := by rw [hg]; exact G.bare
  obtain ⟨ap, gi⟩ := G.start ok hN hf hd hos hb6 kp hS eS dS
  have eg : s6.gens[g]? = some (.fresh (.compStart (.GeneratorExp elt [⟨tg, iter, [], 0⟩] scope gpos) 0 (.ref it) .none (genEnv scope (cloFrom X.env.cells scope.names []) s₄.heap.objs.size code builtinsNs X.env))) := by rw [hg]; exact G.gen
  refine ⟨ap, ⟨H, gi, w0⟩, _, eg, rfl, ?_⟩
  have t6 : tn 0 s6.heap := G.turn.keep _ _ _ G.t0 fun b _ o e => kp b o (G.kp b o e)
  have gi' : GIn (genY X scope s₄ H fp code A) S a go (wipe σ (own.map (·.2))) H (s6.setGen g .running) := gi.kept rfl (allBare_setGen hb6 rfl) fun _ _ e => e
  exact seg_gxStart (vs := own.map (·.2)) (iter := iter) (scope := scope) (pos := gpos) (Y := genY X scope s₄ H fp code A) (A := A) ap hc rfl rfl rfl ok.co G.turn pg pe
    (Yp := Yp) (W := W) (n := n) hgo hst (s6.setGen g .running) (s6.setGen g .running) H t6 (fun b hb => (G.fp b hb).1.1) gi' w0 rfl

/-- one turn: the consumer asks for the next item -/
theorem GAt.next {P : Program} {w : World} {Y : Cx} {S a : Addr} {go : Obj} {g n i : Nat} {σ : L2.St} {W : Nat → Hp → Prop} {Yp : Nat → V → Hp → Prop} {A : Around} {s : Shared} {Q : Option Value → Shared → Prop} {E : Value → Shared → Prop}
    (ap : GApart Y S a) (h : GAt P w Y S a go g σ n W Yp A.in1 i s) (hP : P = Y.prog) (hw : w = Y.w) (hh : A.handled = none) (hroom : A.depth < recursionLimit) (isg : ∀ h : Heap, h.get? a = some go → h.IsGen a g)
    (hY : i < n → ∀ v s1 y H, s1.heap.get? S = s.heap.get? S → RelV y v → Yp i y H → GIn Y S a go σ H s1 → (∀ s2, GSlept S a s1 s2 → s1.gens.size ≤ s2.gens.size → (∀ x, s1.gens[g]? = some x → s2.gens[g]? = some x) → W (i + 1) H → GAt P w Y S a go g σ n W Yp A.in1 (i + 1) s2) → Q (some v) s1)
    (hD : i = n → ∀ s1 H, s1.heap.get? S = s.heap.get? S → GIn Y S a go σ H s1 → W n H → Q none s1) (hi : i ≤ n) :
    wpAny (model P w) A (pyNext (.ref a)) Q E s := by
  subst hP hw
  obtain ⟨H, gi, hw⟩ := h.inv
  obtain ⟨gs, hgs, hgo⟩ := h.goes
  have hgl : g < s.gens.size := (Array.getElem?_eq_some_iff.mp hgs).1
  refine wpAny_gsz (n := g + 1) hgl (wpAny_pyNext_genexpQ (P := GXR Y S a go σ n W) (Y := GXY Y S a go σ n W Yp) hh gi.nolimit hroom (isg _ gi.gen) hgs hgo (fun v s1 gs' hbare hv => ?_) (fun s1 hp h' hk => ?_))
  · intro hsz
    obtain ⟨i', y, H1, hk, g1, ry, hy, kap⟩ := hv
    rw [GenW.setGen_size] at hsz
    have hsz' : g < s1.gens.size := hsz
    have hlt : i < n := by omega
    have ei : i' = i := by omega
    subst ei
    have g2 : GIn Y S a go σ H1 (s1.setGen g gs') := g1.kept rfl (allBare_setGen g1.bare hbare) fun _ _ e => e
    refine hY hlt v _ y H1 hk.2.2 ry hy g2 fun s2 z hsz2 hg2 hw2 => ?_
    have e2 : s2.gens[g]? = some gs' := hg2 gs' (setGen_at hsz')
    refine ⟨⟨H1, g2.woken ap z, hw2⟩, gs', e2, ?_⟩
    have ek : n + 1 - i' = (n + 1 - (i' + 1)) + 1 := by omega
    rw [ek] at kap
    exact kap (s2.setGen g .running) ⟨z.os, allBare_setGen z.bare rfl, z.keep, z.own, z.gen⟩ hw2
  · intro _
    obtain ⟨⟨k0, hS1⟩, H1, g1, hw1⟩ := hp
    obtain ⟨oS, eS⟩ := g1.own
    refine hD (by omega) _ H1 ((hk S oS eS).trans (eS.symm.trans hS1)) (g1.kept rfl (allBare_setGen g1.bare rfl) hk) hw1

/-! ### the consumers -/
theorem slept_same {S a : Addr} {s s' : Shared} (ho : s'.os = s.os) (hb : AllBare s'.gens) (hh : s'.heap = s.heap) : GSlept S a s s' :=
  ⟨ho, hb, fun b o _ e => by rw [hh]; exact e, fun o e d => ⟨o, by rw [hh]; exact e, d⟩, fun o e => by rw [hh]; exact e⟩
theorem all_loop {P : Program} {w : World} {Y : Cx} {a : Addr} {go : Obj} {g n : Nat} {σ : L2.St} {W : Nat → Hp → Prop} {Qf : Hp → Prop} {A : Around} {R : Result → Shared → Prop}
    (ap : GApart Y a a) (hP : P = Y.prog) (hw : w = Y.w) (hh : A.handled = none) (hroom : A.depth < recursionLimit) (isg : ∀ h : Heap, h.get? a = some go → h.IsGen a g)
    (hend : ∀ s H, GIn Y a a go σ H s → W n H → R (.ok (.ret (.bool true))) s) (hstop : ∀ s H, GIn Y a a go σ H s → Qf H → R (.ok (.ret (.bool false))) s) :
    ∀ (k i : Nat) (s : Shared), n - i = k → i ≤ n → GAt P w Y a a go g σ n W (fun i y H => ∃ b, y = .bl b ∧ if b = true then W (i + 1) H else Qf H) A.in1.in1 i s → codeAny (model P w) A (.builtin "all.loop" ⟨[.ref a], []⟩) R s := by
  intro k
  induction k with
  | zero =>
    intro i s hk hi hg
    refine codeAny_builtin PySem.F.entry_all_loop ?_
    rw [Around.under_plainId PySem.F.plain_all_loop _]
    show wpAny _ A.in1 (pyNext (.ref a) >>= _) _ _ s
    refine wpAny_bind (GAt.next ap hg hP hw hh hroom isg (fun hlt => by omega) (fun _ s1 H _ g1 w1 => ?_) hi)
    exact wpAny_bind (wpAny_rule (wpAny_pure (hend s1 H g1 w1)))
  | succ k ih =>
    intro i s hk hi hg
    refine codeAny_builtin PySem.F.entry_all_loop ?_
    rw [Around.under_plainId PySem.F.plain_all_loop _]
    show wpAny _ A.in1 (pyNext (.ref a) >>= _) _ _ s
    refine wpAny_bind (GAt.next ap hg hP hw hh hroom isg (fun hlt v s1 y H _ ry hy g1 again => ?_) (fun e => by omega) hi)
    obtain ⟨b, rfl, hy⟩ := hy
    cases ry
    refine wpAny_bind (wpAny_holding (wpAny_truthy_bool ?_))
    refine wpAny_bind (wpAny_letGo ?_)
    cases b with
    | true =>
      simp only [if_true] at hy ⊢
      exact wpAny_pure ⟨plainId_quiet PySem.F.plain_all_loop _, ih (i + 1) s1 (by omega) hlt (again s1 (slept_same rfl g1.bare rfl) (Nat.le_refl _) (fun _ e => e) hy)⟩
    | false =>
      simp only [Bool.false_eq_true, if_false] at hy ⊢
      exact wpAny_bind (wpAny_rule (wpAny_pure (hstop s1 H g1 hy)))
theorem any_loop {P : Program} {w : World} {Y : Cx} {a : Addr} {go : Obj} {g n : Nat} {σ : L2.St} {W : Nat → Hp → Prop} {Qf : Hp → Prop} {A : Around} {R : Result → Shared → Prop}
    (ap : GApart Y a a) (hP : P = Y.prog) (hw : w = Y.w) (hh : A.handled = none) (hroom : A.depth < recursionLimit) (isg : ∀ h : Heap, h.get? a = some go → h.IsGen a g)
    (hend : ∀ s H, GIn Y a a go σ H s → W n H → R (.ok (.ret (.bool false))) s) (hstop : ∀ s H, GIn Y a a go σ H s → Qf H → R (.ok (.ret (.bool true))) s) :
    ∀ (k i : Nat) (s : Shared), n - i = k → i ≤ n → GAt P w Y a a go g σ n W (fun i y H => ∃ b, y = .bl b ∧ if b = true then Qf H else W (i + 1) H) A.in1.in1 i s → codeAny (model P w) A (.builtin "any.loop" ⟨[.ref a], []⟩) R s := by
  intro k
  induction k with
  | zero =>
    intro i s hk hi hg
    refine codeAny_builtin PySem.F.entry_any_loop ?_
    rw [Around.under_plainId PySem.F.plain_any_loop _]
    show wpAny _ A.in1 (pyNext (.ref a) >>= _) _ _ s
    refine wpAny_bind (GAt.next ap hg hP hw hh hroom isg (fun hlt => by omega) (fun _ s1 H _ g1 w1 => ?_) hi)
    exact wpAny_bind (wpAny_rule (wpAny_pure (hend s1 H g1 w1)))
  | succ k ih =>
    intro i s hk hi hg
    refine codeAny_builtin PySem.F.entry_any_loop ?_
    rw [Around.under_plainId PySem.F.plain_any_loop _]
    show wpAny _ A.in1 (pyNext (.ref a) >>= _) _ _ s
    refine wpAny_bind (GAt.next ap hg hP hw hh hroom isg (fun hlt v s1 y H _ ry hy g1 again => ?_) (fun e => by omega) hi)
    obtain ⟨b, rfl, hy⟩ := hy
    cases ry
    refine wpAny_bind (wpAny_holding (wpAny_truthy_bool ?_))
    refine wpAny_bind (wpAny_letGo ?_)
    cases b with
    | false =>
      simp only [Bool.false_eq_true, if_false] at hy ⊢
      exact wpAny_pure ⟨plainId_quiet PySem.F.plain_any_loop _, ih (i + 1) s1 (by omega) hlt (again s1 (slept_same rfl g1.bare rfl) (Nat.le_refl _) (fun _ e => e) hy)⟩
    | true =>
      simp only [if_true] at hy ⊢
      exact wpAny_bind (wpAny_rule (wpAny_pure (hstop s1 H g1 hy)))
abbrev boxObj (i : Int) (t : Tok) (c : Nat) : Obj := { cls := .type "list", dict := none, data := .seq #[.int i t] c, slots := #[] }
theorem sum_loop {P : Program} {w : World} {Y : Cx} {S a : Addr} {go : Obj} {g n : Nat} {σ : L2.St} {W : Nat → Hp → Prop} {A : Around} {R : Result → Shared → Prop} {val : Nat → Int}
    (hSa : S ≠ a) (ap : GApart Y S a) (hP : P = Y.prog) (hw : w = Y.w) (hh : A.handled = none) (hroom : A.depth < recursionLimit) (isg : ∀ h : Heap, h.get? a = some go → h.IsGen a g) (hfit : ∀ j, j < n → InLong (val j) ∧ InLong (preSum val (j + 1)))
    (hend : ∀ s H t, GIn Y S a go σ H s → W n H → R (.ok (.ret (.int (preSum val n) t))) s) :
    ∀ (k i : Nat) (s : Shared) (tA : Tok) (c : Nat), n - i = k → i ≤ n → s.heap.get? S = some (boxObj (preSum val i) tA c) → GAt P w Y S a go g σ n W (fun i y H => y = .int (val i) ∧ W (i + 1) H) A.in1.in1 i s →
      codeAny (model P w) A (.builtin "sum.loop" ⟨[.ref a, .ref S, rawInt 0, rawInt 0], []⟩) R s := by
  intro k
  induction k with
  | zero =>
    intro i s tA c hk hi hS hg
    have hin : i = n := by omega
    subst hin
    refine codeAny_builtin PySem.F.entry_sum_loop ?_
    rw [Around.under_plainId PySem.F.plain_sum_loop _]
    show wpAny _ A.in1 (seqItems? (.ref S) >>= _) _ _ s
    refine wpAny_bind (wpAny_seqItems hS rfl ?_)
    show wpAny _ A.in1 (tryCatch (pyNext (.ref a)) _ >>= _) _ _ s
    refine wpAny_bind (wpAny_tryCatch (GAt.next ap hg hP hw hh hroom isg (fun hlt => by omega) (fun _ s1 H _ g1 w1 => ?_) hi))
    exact wpAny_pure (hend s1 H tA g1 w1)
  | succ k ih =>
    intro i s tA c hk hi hS hg
    refine codeAny_builtin PySem.F.entry_sum_loop ?_
    rw [Around.under_plainId PySem.F.plain_sum_loop _]
    show wpAny _ A.in1 (seqItems? (.ref S) >>= _) _ _ s
    refine wpAny_bind (wpAny_seqItems hS rfl ?_)
    show wpAny _ A.in1 (tryCatch (pyNext (.ref a)) _ >>= _) _ _ s
    refine wpAny_bind (wpAny_tryCatch (GAt.next ap hg hP hw hh hroom isg (fun hlt v s1 y H hS1 ry hy g1 again => ?_) (fun e => by omega) hi))
    obtain ⟨rfl, hy⟩ := hy
    obtain ⟨t, rfl⟩ := ry
    have hS' := hS1.trans hS
    obtain ⟨⟨f1, f2⟩, f3, f4⟩ := hfit i hlt
    have hc : ((decide (-(2 ^ 63) ≤ val i) && decide (val i < 2 ^ 63)) && (decide (-(2 ^ 63) ≤ preSum val i + val i) && decide (preSum val i + val i < 2 ^ 63))) = true := by
      simp only [preSum] at f3 f4
      simp only [Bool.and_eq_true, decide_eq_true_eq]
      exact ⟨⟨f1, f2⟩, f3, f4⟩
    show wpAny _ A.in1 (if (_ : Bool) = true then (mkInt (preSum val i + val i) >>= _) else _) _ _ _
    split
    · refine wpAny_bind (wpAny_mkInt ?_)
      show wpAny _ A.in1 (updateSeq S (fun _ => #[.int (preSum val i + val i) s1.toks]) >>= _) _ _ _
      refine wpAny_bind ?_
      have hS2 := Heap.get?_update_self (Obj.mapSeq (fun _ => (#[.int (preSum val i + val i) s1.toks] : Array Value))) hS' rfl
      refine wpAny_updateSeq hS' rfl (wpAny_pure ⟨plainId_quiet PySem.F.plain_sum_loop _, ih (i + 1) _ s1.toks _ (by omega) hlt hS2 ?_⟩)
      refine again _ ⟨rfl, g1.bare, fun b o hb e => (Heap.get?_update_other _ _ (Ne.symm hb)).trans e, fun o _ _ => ⟨_, hS2, fun v z => by cases z⟩, fun o e => (Heap.get?_update_other _ _ hSa).trans e⟩ (Nat.le_refl _) (fun _ e => e) hy
    · rename_i hneg
      exact absurd hc hneg
end
end Fo
set_option maxHeartbeats 2000000
/-! FoPe: any, all, sum of a generator expression as expressions of the hand layer. -/
namespace Fo
open PySem PySem.Spec PyProof.Rows L2 GenW GxR

section
variable {X : Cx}
/-- all(e for t in it): P the def's table, n the turns, W by the turn -/
def tAllG (P : Addr) (wi : TI) (g : TG) (te : TE) (vs : List Nat) : TE := fun σ H Q => wi σ H fun J H1 => TabG H1 P ∧ ∀ H2, Tabbed P H1 H2 → ∃ (n : Nat) (W : Nat → Hp → Prop), W 0 H2 ∧ (∀ H, W n H → J.stop n H ∧ Q (.bl true) H) ∧
  ∀ i H, i < n → W i H → J.go i H ∧ ∀ x H', J.yld i H x H' → g x (wipe σ vs) H' fun σ2 H3 => wipe σ2 vs = wipe σ vs ∧ te σ2 H3 fun y H4 => ∃ b, y = .bl b ∧ if b = true then W (i + 1) H4 else Q (.bl false) H4
def tAnyG (P : Addr) (wi : TI) (g : TG) (te : TE) (vs : List Nat) : TE := fun σ H Q => wi σ H fun J H1 => TabG H1 P ∧ ∀ H2, Tabbed P H1 H2 → ∃ (n : Nat) (W : Nat → Hp → Prop), W 0 H2 ∧ (∀ H, W n H → J.stop n H ∧ Q (.bl false) H) ∧
  ∀ i H, i < n → W i H → J.go i H ∧ ∀ x H', J.yld i H x H' → g x (wipe σ vs) H' fun σ2 H3 => wipe σ2 vs = wipe σ vs ∧ te σ2 H3 fun y H4 => ∃ b, y = .bl b ∧ if b = true then Q (.bl true) H4 else W (i + 1) H4
def tSumG (P : Addr) (wi : TI) (g : TG) (te : TE) (vs : List Nat) : TE := fun σ H Q => wi σ H fun J H1 => TabG H1 P ∧ ∀ H2, Tabbed P H1 H2 → ∃ (n : Nat) (W : Nat → Hp → Prop) (val : Nat → Int), (∀ j, j < n → InLong (val j) ∧ InLong (preSum val (j + 1))) ∧ W 0 H2 ∧ (∀ H, W n H → J.stop n H ∧ Q (.int (preSum val n)) H) ∧
  ∀ i H, i < n → W i H → J.go i H ∧ ∀ x H', J.yld i H x H' → g x (wipe σ vs) H' fun σ2 H3 => wipe σ2 vs = wipe σ vs ∧ te σ2 H3 fun y H4 => y = .int (val i) ∧ W (i + 1) H4

theorem room_gen {k : Nat} {A : Around} (r : Room (k + 1) A) (env : Env) : Room k (A.in1.in1.deeper env) :=
  ⟨r.hd, by have := r.dp; show A.depth + 1 + 3 * k + 5 < _; omega, by have := r.un; show A.units + 1 + 1 + 3 + 16 * k + 200 < _; omega⟩

variable {c P : Addr} {elt tg iter : Expr} {p pos gpos : Pos} {scope : Scope} {own : List (Str × Nat)} {wi : TI} {g : TG} {te : TE} {k : Nat}
theorem pe_allG (hr : Room (k + 1) X.A) (hc : X.calm = true) (hN : X.N.Nodup) (hg : Gl X "all") (hm : X.mg "all" = none) (TB : LamX.TabB X.base X.mg c P) (hcode : X.env.code = .ref c) (ok : GOk X.N X.env.scope scope own) (hi : PI X tg iter wi)
    (pg : ∀ (s : Shared) (H : Hp) (cl : List (Str × Addr)) (C : Addr) (code : Value) (fp : List Addr) (A : Around), Room k A → PG (genC X s H (genEnv scope cl C code builtinsNs X.env) fp A) tg g)
    (pe : ∀ (s : Shared) (H : Hp) (cl : List (Str × Addr)) (C : Addr) (code : Value) (fp : List Addr) (A : Around), Room k A → PE (genC X s H (genEnv scope cl C code builtinsNs X.env) fp A) elt te)
    (hs : ∀ v, genFold iter X.env v = pure v := by intro _; rfl)
    (he : starEach [.GeneratorExp elt [⟨tg, iter, [], 0⟩] scope gpos] X.env = (false, eval (.GeneratorExp elt [⟨tg, iter, [], 0⟩] scope gpos) X.env) :: starEach [] X.env := by rfl) :
    PE X (.Call (.Name "all" p) [.GeneratorExp elt [⟨tg, iter, [], 0⟩] scope gpos] [] pos) (tAllG P wi g te (own.map (·.2))) := by
  refine ⟨fun pins s σ H Q I h => ?_⟩
  refine wpAny_Call_Name_kw (ld_blt I hg hm (u := .builtin "all") (by decide +kernel) ?_)
  refine PyProof.Rows.callWith_builtin1 ?_ he (by rfl)
  rw [he]
  show wpAny _ _ (spliced ((false, eval (.GeneratorExp elt [⟨tg, iter, [], 0⟩] scope gpos) X.env) :: backTo pos (starEach [] X.env))) _ _ s
  refine Calls.spliced_cons (gen_make (own := own) hr TB hcode ok hi hs I h fun J H1 H2 s₄ a g' s5 it fp tn code go hR hT G => ?_)
  refine Calls.spliced_nil ?_
  refine call_function_tree PySem.F.kind_all PySem.F.plain_all PySem.F.entry_all (PySem.F.args_all1 _) ?_
  unfold Builtin.«all»
  refine wpAny_bind (m := oneArg "all" _) (wpAny_pure ?_)
  refine wpAny_bind (wpAny_pyIter_gen (G.isg _ G.at_) ?_)
  obtain ⟨n, W, w0, hst, hgo⟩ := hR H2 hT
  obtain ⟨ap, ga⟩ := G.first (A := X.A.in1.in1) (S := a) (oS := go) ok hN hc I.ok.frames hr.hd rfl rfl (fun _ _ e => e) G.lt G.at_ G.dat (pg _ _ _ _ _ _ _ (room_gen hr _)) (pe _ _ _ _ _ _ _ (room_gen hr _)) hgo (fun H w => (hst H w).1) w0
  refine wpAny_pure ⟨plainId_quiet PySem.F.plain_all_loop _, all_loop (A := X.A) (Qf := Q (.bl false)) ap rfl rfl hr.hd hr.depth G.isg (fun s6 H6 g6 w6 => ?_) (fun s6 H6 g6 q6 => ?_) n 0 s5 (Nat.sub_zero _) (Nat.zero_le _) ga⟩
  · exact ⟨.bl true, H6, G.back g6, rfl, (hst H6 w6).2⟩
  · exact ⟨.bl false, H6, G.back g6, rfl, q6⟩
theorem pe_anyG (hr : Room (k + 1) X.A) (hc : X.calm = true) (hN : X.N.Nodup) (hg : Gl X "any") (hm : X.mg "any" = none) (TB : LamX.TabB X.base X.mg c P) (hcode : X.env.code = .ref c) (ok : GOk X.N X.env.scope scope own) (hi : PI X tg iter wi)
    (pg : ∀ (s : Shared) (H : Hp) (cl : List (Str × Addr)) (C : Addr) (code : Value) (fp : List Addr) (A : Around), Room k A → PG (genC X s H (genEnv scope cl C code builtinsNs X.env) fp A) tg g)
    (pe : ∀ (s : Shared) (H : Hp) (cl : List (Str × Addr)) (C : Addr) (code : Value) (fp : List Addr) (A : Around), Room k A → PE (genC X s H (genEnv scope cl C code builtinsNs X.env) fp A) elt te)
    (hs : ∀ v, genFold iter X.env v = pure v := by intro _; rfl)
    (he : starEach [.GeneratorExp elt [⟨tg, iter, [], 0⟩] scope gpos] X.env = (false, eval (.GeneratorExp elt [⟨tg, iter, [], 0⟩] scope gpos) X.env) :: starEach [] X.env := by rfl) :
    PE X (.Call (.Name "any" p) [.GeneratorExp elt [⟨tg, iter, [], 0⟩] scope gpos] [] pos) (tAnyG P wi g te (own.map (·.2))) := by
  refine ⟨fun pins s σ H Q I h => ?_⟩
  refine wpAny_Call_Name_kw (ld_blt I hg hm (u := .builtin "any") (by decide +kernel) ?_)
  refine PyProof.Rows.callWith_builtin1 ?_ he (by rfl)
  rw [he]
  show wpAny _ _ (spliced ((false, eval (.GeneratorExp elt [⟨tg, iter, [], 0⟩] scope gpos) X.env) :: backTo pos (starEach [] X.env))) _ _ s
  refine Calls.spliced_cons (gen_make (own := own) hr TB hcode ok hi hs I h fun J H1 H2 s₄ a g' s5 it fp tn code go hR hT G => ?_)
  refine Calls.spliced_nil ?_
  refine call_function_tree PySem.F.kind_any PySem.F.plain_any PySem.F.entry_any (PySem.F.args_any1 _) ?_
  unfold Builtin.«any»
  refine wpAny_bind (m := oneArg "any" _) (wpAny_pure ?_)
  refine wpAny_bind (wpAny_pyIter_gen (G.isg _ G.at_) ?_)
  obtain ⟨n, W, w0, hst, hgo⟩ := hR H2 hT
  obtain ⟨ap, ga⟩ := G.first (A := X.A.in1.in1) (S := a) (oS := go) ok hN hc I.ok.frames hr.hd rfl rfl (fun _ _ e => e) G.lt G.at_ G.dat (pg _ _ _ _ _ _ _ (room_gen hr _)) (pe _ _ _ _ _ _ _ (room_gen hr _)) hgo (fun H w => (hst H w).1) w0
  refine wpAny_pure ⟨plainId_quiet PySem.F.plain_any_loop _, any_loop (A := X.A) (Qf := Q (.bl true)) ap rfl rfl hr.hd hr.depth G.isg (fun s6 H6 g6 w6 => ?_) (fun s6 H6 g6 q6 => ?_) n 0 s5 (Nat.sub_zero _) (Nat.zero_le _) ga⟩
  · exact ⟨.bl false, H6, G.back g6, rfl, (hst H6 w6).2⟩
  · exact ⟨.bl true, H6, G.back g6, rfl, q6⟩
theorem pe_sumG (hr : Room (k + 1) X.A) (hc : X.calm = true) (hN : X.N.Nodup) (hg : Gl X "sum") (hm : X.mg "sum" = none) (TB : LamX.TabB X.base X.mg c P) (hcode : X.env.code = .ref c) (ok : GOk X.N X.env.scope scope own) (hi : PI X tg iter wi)
    (pg : ∀ (s : Shared) (H : Hp) (cl : List (Str × Addr)) (C : Addr) (code : Value) (fp : List Addr) (A : Around), Room k A → PG (genC X s H (genEnv scope cl C code builtinsNs X.env) fp A) tg g)
    (pe : ∀ (s : Shared) (H : Hp) (cl : List (Str × Addr)) (C : Addr) (code : Value) (fp : List Addr) (A : Around), Room k A → PE (genC X s H (genEnv scope cl C code builtinsNs X.env) fp A) elt te)
    (hs : ∀ v, genFold iter X.env v = pure v := by intro _; rfl)
    (he : starEach [.GeneratorExp elt [⟨tg, iter, [], 0⟩] scope gpos] X.env = (false, eval (.GeneratorExp elt [⟨tg, iter, [], 0⟩] scope gpos) X.env) :: starEach [] X.env := by rfl) :
    PE X (.Call (.Name "sum" p) [.GeneratorExp elt [⟨tg, iter, [], 0⟩] scope gpos] [] pos) (tSumG P wi g te (own.map (·.2))) := by
  refine ⟨fun pins s σ H Q I h => ?_⟩
  refine wpAny_Call_Name_kw (ld_blt I hg hm (u := .builtin "sum") (by decide +kernel) ?_)
  refine PyProof.Rows.callWith_builtin1 ?_ he (by rfl)
  rw [he]
  show wpAny _ _ (spliced ((false, eval (.GeneratorExp elt [⟨tg, iter, [], 0⟩] scope gpos) X.env) :: backTo pos (starEach [] X.env))) _ _ s
  refine Calls.spliced_cons (gen_make (own := own) hr TB hcode ok hi hs I h fun J H1 H2 s₄ a g' s5 it fp tn code go hR hT G => ?_)
  refine Calls.spliced_nil ?_
  refine call_function_tree PySem.F.kind_sum PySem.F.plain_sum PySem.F.entry_sum (PySem.F.args_sum1 _) ?_
  unfold Builtin.«sum»
  simp only [List.length_cons, List.length_nil]
  rw [if_neg (by decide)]
  refine wpAny_bind (wpAny_of_eq (show Builtin.Builtins.bindParams "sum" ["start"] 0 { } = pure [none] from rfl) ?_)
  refine wpAny_bind (wpAny_pyIter_gen (G.isg _ G.at_) ?_)
  obtain ⟨n, W, val, hfit, w0, hst, hgo⟩ := hR H2 hT
  refine wpAny_bind (wpAny_mkInt ?_)
  refine wpAny_bind (wpAny_pure ?_)
  simp only [List.forIn_cons, List.forIn_nil]
  refine wpAny_bind (wpAny_bind (wpAny_bind (wpAny_isInstance (T := "int") (b := false) (typeIs_int _ _ _) PySem.sub_int_str ?_)))
  simp only [Bool.false_eq_true, if_false]
  refine wpAny_pure (wpAny_bind (wpAny_bind (wpAny_isInstance (T := "int") (b := false) (typeIs_int _ _ _) PySem.sub_int_bytes ?_)))
  simp only [Bool.false_eq_true, if_false]
  refine wpAny_pure (wpAny_bind (wpAny_bind (wpAny_isInstance (T := "int") (b := false) (typeIs_int _ _ _) PySem.sub_int_bytearray ?_)))
  simp only [Bool.false_eq_true, if_false]
  refine wpAny_pure (wpAny_pure ?_)
  refine wpAny_bind (wpAny_newObj_type ?_)
  have hlt : a < s5.heap.objs.size := Heap.lt_size G.at_
  have hS4 : s₄.heap.objs.size < s5.heap.objs.size := Nat.lt_trans G.lt hlt
  have eS : (s5.heap.push (boxObj 0 s5.toks 0)).get? s5.heap.objs.size = some (boxObj 0 s5.toks 0) := Heap.get?_push_size _ rfl
  obtain ⟨ap, ga⟩ := G.first (A := X.A.in1.in1) (S := s5.heap.objs.size) (oS := boxObj 0 s5.toks 0) (s6 := { s5 with heap := s5.heap.push (boxObj 0 s5.toks 0), toks := s5.toks + 1 }) ok hN hc I.ok.frames hr.hd rfl rfl (fun _ _ e => Heap.get?_push_of_some _ e) hS4 eS (fun v z => by cases z)
    (pg _ _ _ _ _ _ _ (room_gen hr _)) (pe _ _ _ _ _ _ _ (room_gen hr _)) hgo (fun H w => (hst H w).1) w0
  refine wpAny_pure ⟨plainId_quiet PySem.F.plain_sum_loop _, sum_loop (A := X.A) (val := val) (Nat.ne_of_gt hlt) ap rfl rfl hr.hd hr.depth G.isg hfit (fun s6 H6 t g6 w6 => ?_) n 0 _ s5.toks 0 (Nat.sub_zero _) (Nat.zero_le _) eS ga⟩
  exact ⟨.int (preSum val n), H6, G.back g6, ⟨t, rfl⟩, (hst H6 w6).2⟩
end
end Fo
set_option maxHeartbeats 2000000
/-! FoSort: sorted of a list of tuples of ints of any lengths, the empty tuple at its head; of a dict whose keys are such. -/
namespace Fo
open PySem PySem.Spec PyProof.Rows L2

/-! ### the order -/
theorem lexLt_asym : ∀ (a b : List Int), HT.lexLt a b = true → HT.lexLt b a = false
  | [], [], h => by cases h
  | [], _ :: _, _ => rfl
  | _ :: _, [], h => by cases h
  | x :: xs, y :: ys, h => by
    rw [HT.lexLt_cons] at h ⊢
    by_cases e : x = y
    · rw [if_pos e] at h
      rw [if_pos e.symm]
      exact lexLt_asym xs ys h
    · rw [if_neg e] at h
      rw [if_neg (fun z => e z.symm)]
      have := of_decide_eq_true h
      exact decide_eq_false (by omega)
theorem lexLt_total : ∀ (a b : List Int), HT.lexLt a b = false → HT.lexLt b a = false → a = b
  | [], [], _, _ => rfl
  | [], _ :: _, h, _ => by cases h
  | _ :: _, [], _, h => by cases h
  | x :: xs, y :: ys, h, h' => by
    rw [HT.lexLt_cons] at h h'
    by_cases e : x = y
    · rw [if_pos e] at h
      rw [if_pos e.symm] at h'
      rw [e, lexLt_total xs ys h h']
    · rw [if_neg e] at h
      rw [if_neg (fun z => e z.symm)] at h'
      have h1 := of_decide_eq_false h
      have h2 := of_decide_eq_false h'
      omega
theorem lexLt_tr : ∀ (a b c : List Int), HT.lexLt b a = false → HT.lexLt c b = false → HT.lexLt c a = false
  | [], [], c, _, h => h
  | [], _ :: _, [], _, _ => rfl
  | [], y :: ys, z :: zs, _, _ => rfl
  | _ :: _, [], _, h, _ => by cases h
  | _ :: _, _ :: _, [], _, h => by cases h
  | x :: xs, y :: ys, z :: zs, h1, h2 => by
    rw [HT.lexLt_cons] at h1 h2 ⊢
    by_cases e1 : y = x
    · by_cases e2 : z = y
      · rw [if_pos e1] at h1
        rw [if_pos e2] at h2
        rw [if_pos (e2.trans e1)]
        exact lexLt_tr xs ys zs h1 h2
      · rw [if_neg e2] at h2
        rw [if_neg (by omega)]
        have := of_decide_eq_false h2
        exact decide_eq_false (by omega)
    · rw [if_neg e1] at h1
      have h1 := of_decide_eq_false h1
      by_cases e2 : z = y
      · rw [if_neg (by omega)]
        exact decide_eq_false (by omega)
      · rw [if_neg e2] at h2
        have h2 := of_decide_eq_false h2
        rw [if_neg (by omega)]
        exact decide_eq_false (by omega)

/-- two sorted lists with the same items are one -/
theorem sorted_unique : ∀ {l m : List (List Int)}, l.Perm m → l.Pairwise (fun x y => HT.lexLt y x = false) → m.Pairwise (fun x y => HT.lexLt y x = false) → l = m
  | [], m, p, _, _ => (List.nil_perm.mp p).symm
  | x :: l, [], p, _, _ => by cases List.perm_nil.mp p
  | x :: l, y :: m, p, hl, hm => by
    have hx := (List.pairwise_cons.mp hl).1
    have hy := (List.pairwise_cons.mp hm).1
    have e : x = y := by
      have m1 : x ∈ y :: m := p.mem_iff.mp List.mem_cons_self
      have m2 : y ∈ x :: l := p.mem_iff.mpr List.mem_cons_self
      rcases List.mem_cons.mp m1 with h | h
      · exact h
      · rcases List.mem_cons.mp m2 with h2 | h2
        · exact h2.symm
        · exact lexLt_total _ _ (hy x h) (hx y h2)
    subst e
    rw [sorted_unique (List.Perm.cons_inv p) (List.pairwise_cons.mp hl).2 (List.pairwise_cons.mp hm).2]

section
variable {prog : Program} {w : World} {A : Around} {E : Value → Shared → Prop} {s : Shared}
theorem swo_ints (h : Heap) : SrtO.Swo fun v u => HT.lexLt (TS.intsOf h v) (TS.intsOf h u) :=
  ⟨fun x y => lexLt_asym _ _, fun x y z h1 h2 => lexLt_tr _ _ _ h1 h2⟩
theorem oneLt_tups {v u : Value} {ns ms : List Int} {Q : Bool → Shared → Prop} (hu : A.units + 1 < cLine) (hv : TS.TupInts s.heap v ns) (hw : TS.TupInts s.heap u ms) (h : Q (HT.lexLt ns ms) s) : wpAny (model prog w) A (oneLt' true v u) Q E s := by
  obtain ⟨a, xs, rfl, ⟨⟨cls, dd, data, sl⟩, ho, hc, n, hd⟩, hi⟩ := hv
  obtain ⟨b, ys, rfl, ⟨⟨cls2, dd2, data2, sl2⟩, ho2, hc2, n2, hd2⟩, hj⟩ := hw
  simp only at hc hd hc2 hd2
  subst hc hd hc2 hd2
  rw [oneLt'_eq]
  simp only [if_true]
  refine wpAny_bind (wpAny_cRoomFor (by omega) ?_)
  refine wpAny_bind (wpAny_callSpecialIfBound?_slot (T := "tuple") ⟨_, ho, rfl⟩ PySem.F.slot_tuple_lt (call_meets PySem.F.slot_tuple_lt ⟨_, ho, rfl⟩ PySem.F.entry_tuple_lt (PySem.F.args_tuple_lt_2 _ _) (HT.tuple_lt_ints a b xs ys n n2 dd dd2 sl sl2 ns ms hi hj) ⟨ho, ho2, ?_⟩))
  exact wpAny_truthy_bool h
def fstO (h : Heap) (v : Value) : Option Value := match v with
  | .ref a => match h.get? a with
    | some o => match o.data with
      | .seq xs _ => xs[0]?
      | _ => none
    | none => none
  | _ => none
theorem firsts_all : ∀ (vs : List Value) {Q : List (Option Value) → Shared → Prop}, (∀ v ∈ vs, ∃ ns, TS.TupInts s.heap v ns) → Q (vs.map (fstO s.heap)) s → wpAny (model prog w) A (vs.mapM firstOfTuple') Q E s
  | [], _, _, h => by rw [List.mapM_nil]; exact wpAny_pure h
  | v :: vs, Q, t, h => by
    obtain ⟨ns, a, xs, rfl, ⟨o, ho, hc, n, hd⟩, hi⟩ := t v List.mem_cons_self
    rw [List.mapM_cons]
    refine wpAny_bind ?_
    rw [PySem.W.kas_first_eq]
    refine wpAny_bind (PySem.W.Looks.here (show PySem.W.Looks (model prog w) s.heap (typeOf (.ref a)) o.cls from (PySem.W.Looks.ld ho).andThen .now) ?_)
    rw [hc, if_neg (by first | decide | simp)]
    refine wpAny_bind (listItems_at ho hd (wpAny_pure ?_))
    refine wpAny_bind (firsts_all vs (Q := fun bs s' => wpAny (model prog w) A (pure (xs[0]? :: bs)) Q E s') (fun v hv => t v (List.mem_cons_of_mem _ hv)) (wpAny_pure ?_))
    have e : fstO s.heap (.ref a) = xs[0]? := by simp only [fstO, ho, hd]
    rw [List.map_cons, e] at h
    exact h
theorem kind_tups0 {v : Value} {vs : List Value} {Q : SortKind → Shared → Prop} (t : ∀ u ∈ v :: vs, ∃ ns, TS.TupInts s.heap u ns) (h0 : TS.TupInts s.heap v []) (h : Q oneType' s) : wpAny (model prog w) A (keyKind' (v :: vs).toArray) Q E s := by
  have ef : fstO s.heap v = none := by
    obtain ⟨a, xs, rfl, ⟨o, ho, hc, n, hd⟩, hi⟩ := h0
    simp only [fstO, ho, hd]
    have e : xs.toList = [] := by
      cases q : xs.toList with
      | nil => rfl
      | cons x r => rw [q] at hi; cases hi
    have e2 : xs = #[] := by simpa using e
    rw [e2]
    rfl
  rw [keyKind'_eq, List.mapM_toArray, map_eq_pure_bind]
  refine wpAny_bind (wpAny_bind (firsts_all _ t (wpAny_pure ?_)))
  rw [List.map_cons, ef]
  rw [if_neg (by simp), if_neg (by simp)]
  rw [oneTypeOnly'_eq, List.mapM_toArray, map_eq_pure_bind]
  refine wpAny_bind (wpAny_bind (wpAny_bind (PySem.W.kas_mapM (r := Value.type "tuple") _ (fun u hu Q' hq => ?_) (wpAny_pure ?_))))
  · obtain ⟨ns, a, xs, rfl, ⟨o, ho, hc, n, hd⟩, hi⟩ := t u hu
    refine PySem.W.Looks.here (show PySem.W.Looks (model prog w) s.heap (typeOf (.ref a)) (.type "tuple") from ?_) hq
    rw [← hc]
    exact (PySem.W.Looks.ld ho).andThen .now
  · have hall : ((List.map (fun _ => Value.type "tuple") (v :: vs)).toArray.all fun x => x == Value.type "tuple") = true := by
      simp only [List.all_toArray, List.all_map, List.all_eq_true]
      intro _ _
      rfl
    have h0 : (List.map (fun _ => Value.type "tuple") (v :: vs)).toArray[0]? = some (Value.type "tuple") := by simp
    rw [h0]
    simp only [hall, if_true]
    exact wpAny_pure (wpAny_pure h)
theorem tups_sortable {a : Addr} {v : Value} {vs : List Value} (hu : A.units + 1 < cLine) (t : ∀ u ∈ v :: vs, ∃ ns, TS.TupInts s.heap u ns) (h0 : TS.TupInts s.heap v []) (ha : ∀ o, s.heap.get? a = some o → o.cls ≠ .type "tuple") :
    SrtO.SortableO prog w A s a (v :: vs) fun x y => HT.lexLt (TS.intsOf s.heap x) (TS.intsOf s.heap y) := by
  intro h' keep
  have kp : ∀ {u ns}, TS.TupInts s.heap u ns → TS.TupInts h' u ns := fun x => x.keeps fun b o e c => keep b o (fun z => by subst z; exact ha o e c) e
  refine ⟨oneType', fun Q E hq => kind_tups0 (s := { s with heap := h' }) (fun u m => (t u m).elim fun ns x => ⟨ns, kp x⟩) (kp h0) hq, fun p q hp hq => ?_⟩
  obtain ⟨ns, x⟩ := t _ hp
  obtain ⟨ms, y⟩ := t _ hq
  rw [keyLt'_oneType]
  refine oneLt_tups (s := { s with heap := h' }) hu (kp x) (kp y) ⟨rfl, ?_⟩
  show HT.lexLt ns ms = HT.lexLt (TS.intsOf s.heap p.1) (TS.intsOf s.heap q.1)
  rw [x.ints, y.ints]
/-- sorted(l) at the machine's level -/
theorem sorted_tups0 {l : Addr} {v : Value} {vs : List Value} {Q : Value → Shared → Prop} (hu : A.units + 3 < cLine) (hl : s.heap.IsList l (v :: vs).toArray) (hz : (v :: vs).length ≤ sizeLine) (t : ∀ u ∈ v :: vs, ∃ ns, TS.TupInts s.heap u ns) (h0 : TS.TupInts s.heap v [])
    (h : ∀ (h' : Heap) (d : Addr) (out : List Value), out.Perm (v :: vs) → out.Pairwise (fun x y => HT.lexLt (TS.intsOf s.heap y) (TS.intsOf s.heap x) = false) → (∀ b o, s.heap.get? b = some o → h'.get? b = some o) → s.heap.objs.size ≤ d → (∃ n, h'.get? d = some (seqObj "list" out.toArray n)) → Q (.ref d) { s with heap := h' }) :
    wpAny (model prog w) A (call (.builtin "sorted") [.ref l]) Q E s := by
  refine SrtO.sorted_ord (swo_ints s.heap) hl hz (fun h2 h₁ a ha kk => ?_) fun out hs hb => ?_
  · have q := tups_sortable (prog := prog) (w := w) (A := A.in1.in1) (s := { s with heap := h₁ }) (a := a) (v := v) (vs := vs) (by show A.units + 1 + 1 + 1 < cLine; omega) (fun u m => (t u m).elim fun ns x => ⟨ns, x.keeps fun b o e _ => (kk b o e).2⟩) (h0.keeps fun b o e _ => (kk b o e).2) fun o e => by
      have e' : some o = some (seqObj "list" (v :: vs).toArray 0) := e.symm.trans ha
      cases e'
      intro c
      exact absurd (Value.type.inj c) (by decide)
    intro h' kh
    obtain ⟨κ, q1, q2⟩ := q h' kh
    refine ⟨κ, q1, fun p r hp hr => ?_⟩
    have := q2 p r hp hr
    obtain ⟨ns, x⟩ := t _ hp
    obtain ⟨ms, y⟩ := t _ hr
    have e1 : TS.intsOf h₁ p.1 = TS.intsOf s.heap p.1 := (x.keeps fun b o e _ => (kk b o e).2).ints.trans x.ints.symm
    have e2 : TS.intsOf h₁ r.1 = TS.intsOf s.heap r.1 := (y.keeps fun b o e _ => (kk b o e).2).ints.trans y.ints.symm
    simp only [SrtO.lt2, e1, e2] at this ⊢
    exact this
  · exact h _ _ out hb.perm hs (fun b o e => sortedAll_old e) (Nat.le_succ _) (sortedAll_at s.heap (v :: vs) out.toArray)
end

/-! ### the rule -/
section
variable {X : Cx} {pins : List (Addr × Obj)} {σ : L2.St} {H : Hp} {s : Shared}
/-- the addresses and the ints of a list of tuples -/
abbrev LP := List (Addr × List Int)
def refs (L : LP) : List V := L.map fun p => .ref p.1
def rSortL (K : PySem.W.Frag) : List V → Hp → VK → Prop := fun vs H Q => ∃ (a : Addr) (p : Addr) (L : LP), vs = [V.ref a] ∧ SqL K H a (refs ((p, []) :: L)) ∧ (∀ q ∈ (p, []) :: L, SqT K H q.1 (q.2.map V.int)) ∧
  ∀ (L' : LP) (d : Addr), L'.Perm ((p, []) :: L) → L'.Pairwise (fun q r => HT.lexLt r.2 q.2 = false) → H d = none → Q (.ref d) (upd H d (.lst (refs L')))
theorem refs_vals {L : LP} : ∀ {us : List Value}, Vals (refs L) us → us = L.map fun p => Value.ref p.1 := by
  induction L with
  | nil => intro us r; cases r; rfl
  | cons p L ih =>
    intro us r
    cases r with
    | cons r t =>
      cases r
      rw [ih t]
      rfl
theorem vals_refs : ∀ (L : LP), Vals (refs L) (L.map fun p => Value.ref p.1)
  | [] => .nil
  | p :: L => .cons rfl (vals_refs L)
theorem perm_back {L : LP} {out : List Value} (h : Heap) (hp : out.Perm (L.map fun p => Value.ref p.1)) (hi : ∀ q ∈ L, TS.intsOf h (.ref q.1) = q.2) :
    ∃ L' : LP, L'.Perm L ∧ out = L'.map (fun p => Value.ref p.1) ∧ ∀ q ∈ L', TS.intsOf h (.ref q.1) = q.2 := by
  let f : Value → Addr × List Int := fun v => (match v with | .ref a => a | _ => 0, TS.intsOf h v)
  have e1 : (L.map fun p => Value.ref p.1).map f = L := by
    rw [List.map_map]
    refine (List.map_congr_left fun q hq => ?_).trans (List.map_id L)
    show (q.1, TS.intsOf h (.ref q.1)) = q
    rw [hi q hq]
  have p1 : (out.map f).Perm L := by
    have := hp.map f
    rw [e1] at this
    exact this
  refine ⟨out.map f, p1, ?_, fun q hq => hi q (p1.mem_iff.mp hq)⟩
  rw [List.map_map]
  refine ((List.map_congr_left fun v hv => ?_).trans (List.map_id out)).symm
  obtain ⟨q, _, rfl⟩ := List.mem_map.mp (hp.mem_iff.mp hv)
  rfl
theorem cr_sortL (hu : X.A.units + 3 < cLine) : CallR X (.builtin "sorted") (rSortL X.K) := by
  intro pins s σ H vs us Q I r h
  obtain ⟨a, p, L, rfl, hs, ht, q⟩ := h
  obtain ⟨its, rv, hl, hz⟩ := I.list hs
  rw [Vals.ref1 r]
  have e := refs_vals rv
  have tt : ∀ q ∈ (p, []) :: L, TS.TupInts s.heap (.ref q.1) q.2 := fun q hq => tupI_raw I (ht q hq)
  rw [e] at hl
  refine sorted_tups0 (v := .ref p) (vs := L.map fun q : Addr × List Int => Value.ref q.1) hu hl.isList (by have := rv.length; rw [e] at this; rw [← List.map_cons (f := fun p : Addr × List Int => Value.ref p.1) (a := (p, [])), ← this]; exact hz) (fun u hm => ?_) (tt (p, []) List.mem_cons_self) fun h' d out hp hs kp hd hout => ?_
  · obtain ⟨q, hq, rfl⟩ := List.mem_map.mp (show u ∈ ((p, []) :: L).map (fun q : Addr × List Int => Value.ref q.1) from hm)
    exact ⟨_, tt q hq⟩
  · obtain ⟨L', p', eo, hi⟩ := perm_back (L := (p, []) :: L) s.heap hp fun q hq => (tt q hq).ints
    subst eo
    obtain ⟨n, hn⟩ := hout
    have hlen : (refs L').length ≤ sizeLine := by
      have : (refs L').length = (refs ((p, []) :: L)).length := by unfold refs; rw [List.length_map, List.length_map, p'.length_eq]
      rw [this]; exact hz
    refine ⟨.ref d, upd H d (.lst (refs L')), I.laid (t' := s.toks) kp hd ⟨hlen, _, n, vals_refs L', hn⟩, rfl, q L' d p' ?_ (I.hok.fresh hd)⟩
    rw [List.pairwise_map] at hs
    refine hs.imp_of_mem fun {x y} hx hy hxy => ?_
    rw [hi x hx, hi y hy] at hxy
    exact hxy
end
end Fo
set_option maxHeartbeats 2000000
/-! FoDict: dicts whose keys are tuples of ints: sorted(d), {k: v for ..}. -/
namespace Fo
open PySem PySem.Spec PyProof.Rows L2

/-- the keys of a dict, as lists of ints -/
abbrev kI (g : List Int) : List L2.Key := g.map Sum.inl
theorem kI_inj : ∀ {a b : List Int}, kI a = kI b → a = b
  | [], [], _ => rfl
  | [], _ :: _, h => by cases h
  | _ :: _, [], h => by cases h
  | x :: xs, y :: ys, h => by
    have h : (Sum.inl x : L2.Key) :: kI xs = Sum.inl y :: kI ys := h
    injection h with h1 h2
    injection h1 with h1
    rw [h1, kI_inj h2]
theorem kI_map (g : List Int) : (kI g).map kV = g.map V.int := by
  unfold kI
  rw [List.map_map]
  rfl
theorem ints_of_keys : ∀ {ks : List L2.Key} {g : List Int}, ks = kI g → ks.map kV = g.map V.int := fun {ks g} e => by rw [e]; exact kI_map g

section
variable {X : Cx} {pins : List (Addr × Obj)} {σ : L2.St} {H : Hp} {s : Shared}
/-- sorted(d), the dict's first key the empty tuple -/
def rSortDT : List V → Hp → VK → Prop := fun vs H Q => ∃ (a : Addr) (G : List (List Int)) (f : List Int → V), vs = [V.ref a] ∧ H a = some (.dT (([] :: G).map fun g => (kI g, f g))) ∧
  ∀ (L : LP) (d : Addr), (L.map (·.2)).Perm ([] :: G) → L.Pairwise (fun q r => HT.lexLt r.2 q.2 = false) → (∀ q ∈ L, H q.1 = some (.tup (q.2.map V.int))) → H d = none → Q (.ref d) (upd H d (.lst (refs L)))
theorem keys_paired {f : List Int → V} : ∀ {G : List (List Int)} {xs : List (List L2.Key × Addr × Value)}, KT H (G.map fun g => (kI g, f g)) xs →
    ∃ L : LP, L.map (·.2) = G ∧ xs.map (fun x => Value.ref x.2.1) = L.map (fun p => Value.ref p.1) ∧ ∀ q ∈ L, H q.1 = some (.tup (q.2.map V.int))
  | [], _, h => by
    cases h
    exact ⟨[], rfl, rfl, fun q hq => absurd hq (by simp)⟩
  | g :: G, _, h => by
    cases h with
    | cons r t =>
      rename_i x xs
      obtain ⟨L, h1, h2, h3⟩ := keys_paired t
      refine ⟨(x.2.1, g) :: L, by rw [List.map_cons, h1], by rw [List.map_cons, List.map_cons, h2], fun q hq => ?_⟩
      rcases List.mem_cons.mp hq with e | hq
      · rw [e]
        have r2 := r.2.1
        have : (kI g).map kV = g.map V.int := kI_map g
        rw [← this]
        exact r2
      · exact h3 q hq
theorem cr_sortDT (hcalm : X.calm = true) (hu : X.A.units + 3 < cLine) : CallR X (.builtin "sorted") rSortDT := by
  intro pins s σ H xs us Q I r h
  obtain ⟨a, G, f, rfl, ha, q⟩ := h
  obtain rfl := Vals.ref1 r
  obtain ⟨z, hd, ys, rel, o, es, ep, ho, hx, hdat, hes, his, hn⟩ := dt_of I.hok ha
  have l2 : es.size = ys.length := size_of_entries hes
  have l1 : (([] :: G).map fun g => (kI g, f g)).length = ys.length := Paired.length rel
  obtain ⟨L, hL1, hL2, hL3⟩ := keys_paired rel
  have h16 : es.size ≤ sizeLine := by rw [l2, ← l1]; exact z
  refine Calls.call_function_entry PyProof.Rows.kind_sorted PyProof.Rows.plain_sorted PyProof.Rows.entry_sorted (PyProof.Rows.args_sorted1 _) ?_
  unfold Builtin.«sorted»
  refine wpAny_bind (m := checkCount "sorted" 1 1 _) (wpAny_pure ?_)
  refine wpAny_bind (PySem.W.kdu_collect (A := X.A.in1) (PySem.KdlSrc.rawDict (es := es) (ep := ep) hd) (I.ok.hd hcalm) ⟨o, ho, hx, hdat⟩ h16 fun h' tk acc hk hacc => ?_)
  have eacc : acc.toList = L.map fun p => Value.ref p.1 := by
    rw [← hL2]
    apply List.ext_getElem?
    intro j
    rw [List.getElem?_map, Array.getElem?_toList]
    have ej := entry_at hes j
    cases hj : acc[j]? with
    | none =>
      have : acc.size ≤ j := Array.getElem?_eq_none_iff.mp hj
      have : ys[j]? = none := List.getElem?_eq_none_iff.mpr (by have := hacc.1; omega)
      rw [this]; rfl
    | some v =>
      obtain ⟨hi, ev⟩ := hacc.2 j v hj
      rw [Array.getElem?_eq_getElem hi] at ej
      cases hy : ys[j]? with
      | none => rw [hy] at ej; cases ej
      | some y =>
        rw [hy] at ej
        have ee : es[j] = entryOfKey (tupleKind (mixKind X.prog X.w)) y := Option.some.inj ej
        rw [ev, ee]
        rfl
  have I1 : Inv X pins σ H { s with heap := h', toks := tk } := I.kept hk
  have lenA : acc.toList.length = (([] : List Int) :: G).length := by rw [eacc, List.length_map, ← hL1, List.length_map]
  have hz' : acc.toList.length ≤ sizeLine := by rw [lenA]; rw [List.length_map] at z; exact z
  refine wpAny_bind (wpAny_newList ?_ hz')
  have hoL : (h'.push (seqObj "list" acc.toList.toArray 0)).get? h'.objs.size = some (seqObj "list" acc.toList.toArray 0) := Heap.get?_push_size _ rfl
  show wpAny _ _ _ _ _ { s with heap := h'.push (seqObj "list" acc.toList.toArray 0), toks := tk }
  obtain ⟨p, L0, rfl⟩ : ∃ p L0, L = (p, []) :: L0 := by
    cases L with
    | nil => cases hL1
    | cons x L0 =>
      obtain ⟨x1, x2⟩ := x
      injection hL1 with e1 _
      exact ⟨x1, L0, by rw [show x2 = [] from e1]⟩
  rw [eacc]
  have tt : ∀ q ∈ (p, []) :: L0, TS.TupInts h' (.ref q.1) q.2 := fun q hq => tupI_raw I1 (SqT.of (hL3 q hq))
  have tt2 : ∀ q ∈ (p, []) :: L0, TS.TupInts (h'.push (seqObj "list" (List.map (fun p => Value.ref p.fst) ((p, []) :: L0)).toArray 0)) (.ref q.1) q.2 := fun q hq => (tt q hq).keeps fun b o e _ => Heap.get?_push_of_some _ e
  rw [eacc] at hoL
  refine wpAny_bind (wpAny_holding (wpAny_call_entry slot_list_sort ⟨_, hoL, rfl⟩ entry_list_sort
    (SrtO.list_sort_ord (s := { s with heap := h'.push (seqObj "list" (List.map (fun p => Value.ref p.fst) ((p, []) :: L0)).toArray 0), toks := tk }) (swo_ints _) hoL (by rw [eacc] at hz'; exact hz')
      (fun h2 => tups_sortable (v := .ref p) (vs := L0.map fun q : Addr × List Int => Value.ref q.1) (by show X.A.units + 1 + 1 + 1 < cLine; omega) (fun u m => ?_) (tt2 (p, []) List.mem_cons_self) fun o e => ?_) fun out hs hb => ⟨_, rfl, ?_⟩)
    (args_list_sort _)))
  · obtain ⟨q, hq, rfl⟩ := List.mem_map.mp (show u ∈ ((p, []) :: L0).map (fun q : Addr × List Int => Value.ref q.1) from m)
    exact ⟨_, tt2 q hq⟩
  · have e' := e.symm.trans hoL
    cases e'
    intro c
    exact absurd (Value.type.inj c) (by decide)
  · obtain ⟨L', p', eo, hi⟩ := perm_back (L := (p, []) :: L0) _ hb.perm fun q hq => (tt2 q hq).ints
    subst eo
    obtain ⟨e1, he1⟩ := PyProof.Rows.sortedHeap_at (vs := (List.map (fun p => Value.ref p.fst) ((p, []) :: L0))) (out := (L'.map fun p => Value.ref p.1).toArray) hoL
    have hlen : (refs L').length ≤ sizeLine := by
      have : (refs L').length = acc.toList.length := by unfold refs; rw [eacc, List.length_map, List.length_map, p'.length_eq]
      rw [this]; exact hz'
    refine wpAny_pure ⟨_, rfl, .ref h'.objs.size, upd H h'.objs.size (.lst (refs L')), I1.laid (t' := tk) (fun b u e => ?_) (Nat.le_refl _) ⟨hlen, _, e1, vals_refs L', he1⟩, rfl, q L' _ ?_ ?_ (fun q hq => hL3 q (p'.mem_iff.mp hq)) (I1.hok.fresh (Nat.le_refl _))⟩
    · have hb : b < h'.objs.size := Heap.lt_size e
      rw [PyProof.Rows.sortedHeap_old (Nat.ne_of_lt hb) (by rw [size_push']; exact Nat.lt_succ_of_lt hb)]
      exact Heap.get?_push_of_some _ e
    · rw [← hL1]
      exact p'.map _
    · have hs' := hs
      rw [SrtO.Srtd, List.pairwise_map] at hs'
      refine hs'.imp_of_mem fun {x y} hx hy hxy => ?_
      rw [hi x hx, hi y hy] at hxy
      exact hxy
end
end Fo
set_option maxHeartbeats 2000000
/-! FoDC: {k: v for t in it}, the keys tuples. -/
namespace Fo
open PySem PySem.Spec PyProof.Rows L2

section
variable {X : Cx}
/-- a key that is a tuple is stored by a comprehension -/
theorem put_tuple {pins : List (Addr × Obj)} {σ : L2.St} {H : Hp} {s : Shared} {E : Value → Shared → Prop} {D b : Addr} {kvs : List (List L2.Key × V)} {k : List L2.Key} {v : V} {r : Value} {Q : Unit → Shared → Prop} (hu : X.A.units < cLine) (I : Inv X pins σ H s)
    (hD : H D = some (.dT kvs)) (hz : kvs.length < sizeLine) (hb : H b = some (.tup (k.map kV))) (rv : RelV v r) (h : ∀ s', Inv X pins σ (upd H D (.dT (putK kvs k v))) s' → Q () s') :
    wpAny (model X.prog X.w) X.A (dictSet D (.ref b) r) Q E s := by
  obtain ⟨z, hd, xs, rel, dd⟩ := dt_of I.hok hD
  have hxs : xs.length ≤ sizeLine := by rw [← Paired.length rel]; exact z
  have hl : (putK kvs k v).length ≤ sizeLine := by have := length_putK kvs k v; omega
  refine wpAny_dictSet_heap (knd := tupleKind (mixKind X.prog X.w)) (hsz := hxs) hu (key_of I.hok hb) dd fun h' dd' hs => h _ ?_
  obtain ⟨q, es, ep, hq, h2, h3, h4, _, h5⟩ := dd'
  refine d_write I (by rw [hD]; exact True.intro) hs ⟨q, hq⟩ ⟨hl, hd, _, (rel.put k hb rv).keeps fun c ys ec => ?_, q, es, ep, hq, h2, h3, h4, h5⟩
  rw [upd_ne (ne_of ec hD (fun z => nomatch z))]
  exact ec

/-- D the new dict; W by the turn (n turns) -/
def tDcT (wi : TI) (g : TG) (tk tv : TE) (vs : List Nat) : TE := fun σ H Q => wi σ H fun J H1 => ∀ D, H1 D = none → ∃ (n : Nat) (W : Nat → Hp → Prop), W 0 (upd H1 D (.dT [])) ∧ (∀ H, W n H → J.stop n H ∧ Q (.ref D) H) ∧
  ∀ i H, i < n → W i H → J.go i H ∧ ∀ x H', J.yld i H x H' → g x (wipe σ vs) H' fun σ2 H2 => wipe σ2 vs = wipe σ vs ∧ tk σ2 H2 fun y H3 => tv σ2 H3 fun z H4 => ∃ kvs k b, y = .ref b ∧ H4 b = some (.tup (k.map kV)) ∧ H4 D = some (.dT kvs) ∧ kvs.length < sizeLine ∧ W (i + 1) (upd H4 D (.dT (putK kvs k z)))
theorem pe_dcT {kx vx tg iter : Expr} {scope : Scope} {own : List (Str × Nat)} {pos : Pos} {wi : TI} {g : TG} {tk tv : TE} (hu : X.A.units < cLine) (hc : X.calm = true) (hN : X.N.Nodup) (hi : PI X tg iter wi) (ok : BlkOk X.N X.env.scope scope own)
    (hg : ∀ (s : Shared) (H : Hp) (C : Addr) (cl : List (Str × Addr)) (fp : List Addr), PG (X.blk s H scope (compEnvC scope cl C X.env) fp) tg g)
    (hk : ∀ (s : Shared) (H : Hp) (C : Addr) (cl : List (Str × Addr)) (fp : List Addr), PE (X.blk s H scope (compEnvC scope cl C X.env) fp) kx tk)
    (he : ∀ (s : Shared) (H : Hp) (C : Addr) (cl : List (Str × Addr)) (fp : List Addr), PE (X.blk s H scope (compEnvC scope cl C X.env) fp) vx tv) (hs : ∀ x, foldedSetIterable iter X.env x = pure x := by intro _; rfl) :
    PE X (.DictComp kx vx [⟨tg, iter, [], 0⟩] scope pos) (tDcT wi g tk tv (own.map (·.2))) := by
  refine ⟨fun pins s σ H Q I h => ?_⟩
  rw [arm_eval_DictComp]
  have hfree : ∀ y ∈ scope.names, y.2 = .free → ∃ c, X.env.cells.lookup y.1 = some c := fun y hy e => (ok.free y hy e).elim (fun k => I.ok.has _ (.inl k)) fun k => I.ok.has _ (.inr k)
  refine wpAny_comprehension_free (use := none) rfl hs (closure_ok hfree) ok.kind (fun y hy e => by rw [ok.uniq y hy, e]) (thn (hi.run pins s σ H _ I h) fun xv s1 hx => thn hx fun itv s2 h2 => ?_)
  obtain ⟨it, fp, tn, J, H2, e, I2, T, st2, f2, q⟩ := h2
  subst e
  refine wpAny_newObj_type (newEnv_comp ?_)
  generalize hD : s2.heap.objs.size = D
  have hDn : H2 D = none := I2.hok.fresh (Nat.le_of_eq hD)
  obtain ⟨n, W, w0, hst, hgo⟩ := q D hDn
  generalize hs3 : ({ s2 with heap := s2.heap.push { cls := .type "dict", data := .dict #[] } } : Shared) = s3
  have I3 : Inv X pins σ (upd H2 D (.dT [])) s3 := by
    rw [← hs3]
    refine I2.laid (t' := s2.toks) (fun b o e => Heap.get?_push_of_some _ e) (Nat.le_of_eq hD) ?_
    rw [← hD]
    exact dt_empty s2.heap I2.big
  have h3 : s3.heap = s2.heap.push { cls := .type "dict", data := .dict #[] } := by rw [← hs3]
  have f3 : ∀ b ∈ fp, FpOk X pins (upd H2 D (.dT [])) b ∧ b < s3.heap.objs.size := fun b hb => by
    obtain ⟨o, e, _⟩ := T.obj _ _ st2 b hb
    have hlt := Heap.lt_size e
    refine ⟨⟨?_, (f2 b hb).2⟩, by rw [h3, Heap.size_push]; exact Nat.lt_succ_of_lt hlt⟩
    rw [upd_ne (by rw [← hD]; exact Nat.ne_of_lt hlt)]
    exact (f2 b hb).1
  have st3 : tn 0 s3.heap := T.keep _ _ _ st2 fun b _ o e => by rw [h3]; exact Heap.get?_push_of_some _ e
  have I4 := block_start I3 ok hN f3
  generalize hce : compEnvC scope (cellsFrom (s3.heap.objs.size + 1) scope.names (cloFrom X.env.cells scope.names [])) s3.heap.objs.size X.env = ce at I4
  have pg : PG (X.blk s3 (upd H2 D (.dT [])) scope ce fp) tg g := by rw [← hce]; exact hg _ _ _ _ _
  have pk : PE (X.blk s3 (upd H2 D (.dT [])) scope ce fp) kx tk := by rw [← hce]; exact hk _ _ _ _ _
  have pe : PE (X.blk s3 (upd H2 D (.dT [])) scope ce fp) vx tv := by rw [← hce]; exact he _ _ _ _ _
  have cL : ce.locals = s3.heap.objs.size := by rw [← hce]; rfl
  have nfp : ∀ b ∈ fp, (upd H2 D (.dT [])) b = none := fun b hb => (f3 b hb).1.1
  have goal : codeAny (model X.prog X.w) X.A (.compStart (.DictComp kx vx [⟨tg, iter, [], 0⟩] scope pos) 0 (.ref it) (.ref D) ce) (compPost (model X.prog X.w) X.A X.xe none (EP X pins σ Q) (.ref D) s3.heap.objs.size)
      { s3 with heap := pushCells (s3.heap.push { cls := .type "dict", data := .dict #[] }) scope.names } := ?_
  · rw [← hce] at goal
    exact goal
  generalize hH3 : upd H2 D (.dT []) = H3 at I3 I4 pg pk pe w0 nfp f3
  generalize hs4 : ({ s3 with heap := pushCells (s3.heap.push { cls := .type "dict", data := .dict #[] }) scope.names } : Shared) = s4 at I4 ⊢
  have st4 : tn 0 s4.heap := T.keep _ _ _ st3 fun b _ o e => by rw [← hs4]; exact pushCells_keeps _ _ _ _ (Heap.get?_push_of_some _ e)
  have stat : ∀ {σ' : L2.St} {H' : Hp} {s' : Shared}, Inv (X.blk s3 H3 scope ce fp) [] σ' H' s' → (∀ b ∈ fp, H' b = none) → ∀ b ∈ fp, FpOk (X.blk s3 H3 scope ce fp) [] H' b := fun {σ' H' s'} I' hn b hb =>
    ⟨hn b hb, (I'.ok.exf b hb).1, I'.ok.exfs b hb, .inl hb, fun x c e => (I'.ok.exf b hb).2 x c e, fun p hp => absurd (show p ∈ ([] : List (Addr × Obj)) ++ [] from hp) (by simp)⟩
  have loop : codeAny (model X.prog X.w) X.A (.compLoop (.DictComp kx vx [⟨tg, iter, [], 0⟩] scope pos) 0 (.ref it) (.ref D) ce) (compPost (model X.prog X.w) X.A X.xe none (EP X pins σ Q) (.ref D) s3.heap.objs.size) s4 := by
    refine compLoop_anyD (fun m s' => ∃ i H', i ≤ n ∧ m = n - i ∧ Inv (X.blk s3 H3 scope ce fp) [] (wipe σ (own.map (·.2))) H' s' ∧ tn i s'.heap ∧ (∀ b ∈ fp, H' b = none) ∧ W i H') ?_ n ⟨0, H3, Nat.zero_le _, rfl, I4, st4, nfp, w0⟩
    rintro m s5 ⟨i, H5, hin, rfl, I5, st5, n5, w5⟩
    by_cases hlt : i < n
    · obtain ⟨go, step⟩ := hgo i H5 hlt w5
      refine thnF (T.item (X.blk s3 H3 scope ce fp) rfl rfl rfl hc i [] s5 _ H5 (fun _ _ => False) I5 (stat I5 n5) st5 go) fun r s6 ⟨u, hr, h6⟩ => ?_
      subst hr
      refine thnF h6 fun _ s7 ⟨x, H7, I7, r7, y7, st7, n7⟩ => ?_
      have I7' := I7.pinned (stat I7 n7) (T.obj _ _ st7)
      refine thnF (pg.run _ s7 _ H7 x u _ I7' r7 (step x H7 y7)) fun _ s8 ⟨σ8, H8, I8, hw8, q8⟩ => ?_
      refine wpAny_tests_nil ?_
      rw [if_pos rfl]
      refine thnF (pk.run _ s8 σ8 H8 _ I8 q8) fun z s9 ⟨yk, H9, I9, r9, q9⟩ => ?_
      refine thnF (pe.run _ s9 σ8 H9 _ I9 q9) fun z2 s10 ⟨yv, H10, I10, r10, kvs, k, b, ek, hb10, hD10, hz10, nx⟩ => ?_
      subst ek
      obtain rfl : z = Value.ref b := r9
      refine put_tuple (X := X.blk s3 H3 scope ce fp) hu I10 hD10 hz10 hb10 r10 fun s11 I11 => ?_
      have pin' : ∀ b ∈ fp, ∀ o, s7.heap.get? b = some o → s11.heap.get? b = some o ∧ (upd H10 D (.dT (putK kvs k yv))) b = none := fun b hb o e =>
        let z := I11.pin (b, o) (List.mem_append_right _ (List.mem_append_right _ (mem_pinsAt hb e)))
        ⟨z.1, z.2.1⟩
      have hl : (wipe σ (own.map (·.2))).length = σ8.length := by rw [← hw8, wipe_length]
      refine ⟨n - (i + 1), by omega, i + 1, _, hlt, rfl, (I11.unpinned (pins := [])).weak hl (fun j v e => ?_), T.keep _ _ _ st7 fun b hb o e => (pin' b hb o e).1, fun b hb => ?_, nx⟩
      · rw [← hw8] at e
        exact (wipe_some e).1
      · obtain ⟨o, e, _⟩ := T.obj _ _ st7 b hb
        exact (pin' b hb o e).2
    · have ein : i = n := by omega
      subst ein
      refine thnF (T.done (X.blk s3 H3 scope ce fp) rfl rfl rfl hc i [] s5 _ H5 (fun _ _ => False) I5 (stat I5 n5) st5 (hst H5 w5).1) fun r s6 ⟨hr, I6⟩ => ?_
      subst hr
      have I7 : Inv X pins σ H5 s6 := I3.call' (ch := fp) I6.os I6.base I6.hok I6.bare fun b hb => ⟨(f3 b hb).1.2.2.2.1, (f3 b hb).1.2.1, (f3 b hb).1.2.2.2.2.1, (f3 b hb).1.2.2.2.2.2⟩
      have nC : H5 s3.heap.objs.size = none := by
        have z : H5 ce.locals = none := I6.free
        rw [cL] at z
        exact z
      obtain ⟨m, hn, _⟩ := I6.loc
      have hn : s6.heap.Ns ce.locals m := hn
      rw [cL] at hn
      refine ⟨m, hn, fun h'' sb => ?_⟩
      obtain ⟨f0, f1, f2, f3, f4, f5⟩ := I3.fpOk (b := s3.heap.objs.size) (Nat.le_refl _) nC
      exact ⟨.ref D, H5, I7.turned (t' := s6.toks) (fun b o hb e => (sb.2 b hb).trans e) f0 f1 f3 f4 f5, rfl, (hst H5 w5).2⟩
  exact codeAny_compStart_dict loop (T.self X.A 0 _ _ _ st4 loop)
end
end Fo
set_option maxHeartbeats 2000000
/-! FoBase: what stays of a heap, data in it, small rules. -/
namespace Fo
open PySem PySem.Spec PyProof.Rows L2 GxR

/-! ### heaps -/
def notTbl : HO → Bool
  | .tbl _ => false
  | _ => true
theorem notTbl_ne {o : HO} (h : notTbl o = true) : ∀ ps, o ≠ .tbl ps := fun ps z => by rw [z] at h; cases h
/-- what was tracked is as it was; tables may have grown -/
structure Kp (H H' : Hp) : Prop where
  keep : ∀ a o, H a = some o → notTbl o = true → H' a = some o
  tab : ∀ P, TabG H P → TabG H' P
  dom : ∀ a, H' a = none → H a = none
theorem Kp.refl (H : Hp) : Kp H H := ⟨fun _ _ h _ => h, fun _ h => h, fun _ h => h⟩
theorem Kp.trans {H H1 H2 : Hp} (a : Kp H H1) (b : Kp H1 H2) : Kp H H2 := ⟨fun c o h n => b.keep c o (a.keep c o h n) n, fun P h => b.tab P (a.tab P h), fun c h => a.dom c (b.dom c h)⟩
theorem Kp.get {H H' : Hp} {a : Addr} {o : HO} (k : Kp H H') (h : H a = some o) (n : notTbl o = true := by rfl) : H' a = some o := k.keep a o h n
theorem upd_none {H : Hp} {p a : Addr} {o : HO} (h : upd H p o a = none) : a ≠ p ∧ H a = none := by
  by_cases e : a = p
  · rw [e, upd_same] at h; cases h
  · rw [upd_ne e] at h; exact ⟨e, h⟩
theorem upd_old {H : Hp} {p a : Addr} {o u : HO} (n : H p = none) (h : H a = some u) : upd H p o a = some u := by
  rw [upd_ne (ne_of_none h n)]; exact h
theorem Kp.new {H : Hp} {p : Addr} {o : HO} (h : H p = none) : Kp H (upd H p o) :=
  ⟨fun a u e _ => upd_old h e, fun P ⟨ps, e, t⟩ => ⟨ps, upd_old h e, t⟩, fun a e => (upd_none e).2⟩
theorem Kp.mut {H H' : Hp} {p : Addr} {o : HO} (k : Kp H H') (h : H p = none) (ht : ∀ ps, H' p ≠ some (.tbl ps)) : Kp H (upd H' p o) :=
  ⟨fun a u e n => by rw [upd_ne (ne_of_none e h)]; exact k.keep a u e n, fun P t => by
    obtain ⟨ps, e, z⟩ := k.tab P t
    refine ⟨ps, ?_, z⟩
    rw [upd_ne (fun q => ht ps (by rw [← q]; exact e))]
    exact e, fun a e => k.dom a (upd_none e).2⟩
theorem Kp.mutL {H H' : Hp} {p : Addr} {o : HO} {xs : List V} (k : Kp H H') (h : H p = none) (ht : H' p = some (.lst xs)) : Kp H (upd H' p o) := k.mut h fun ps z => by rw [ht] at z; cases z
theorem Kp.mutD {H H' : Hp} {p : Addr} {o : HO} {xs : List (List L2.Key × V)} (k : Kp H H') (h : H p = none) (ht : H' p = some (.dT xs)) : Kp H (upd H' p o) := k.mut h fun ps z => by rw [ht] at z; cases z
theorem Kp.tabbed {H H' : Hp} {P : Addr} (t : TabG H P) (h : Tabbed P H H') : Kp H H' := by
  obtain ⟨ps, e, z⟩ := t
  refine ⟨fun a o ea n => ?_, fun P' t' => ?_, fun a ha => ?_⟩
  · rw [h.2 a (fun q => by rw [q, e] at ea; cases ea; cases n)]
    exact ea
  · by_cases q : P' = P
    · rw [q]; exact h.1
    · obtain ⟨ps', e', z'⟩ := t'
      exact ⟨ps', by rw [h.2 P' q]; exact e', z'⟩
  · by_cases q : a = P
    · obtain ⟨ps', e', _⟩ := h.1
      rw [q, e'] at ha; cases ha
    · rw [← h.2 a q]; exact ha
theorem Kp.free {H H' : Hp} {a : Addr} (k : Kp H H') (h : H' a = none) : H a = none := k.dom a h
theorem Kp.rd {H H' : Hp} {a : Addr} {u : HO} (k : Kp H H') (h : Rd H a u) (n : notTbl u = true := by rfl) : Rd H' a u := by
  rcases h with h | ⟨o, h⟩
  · exact .inl (k.keep _ _ h n)
  · exact .inr ⟨o, k.keep _ _ h rfl⟩
theorem Kp.sqL {K : PySem.W.Frag} {H H' : Hp} {a : Addr} {xs : List V} (k : Kp H H') (h : SqL K H a xs) : SqL K H' a xs := by
  rcases h with h | h
  · exact .inl (k.rd h)
  · exact .inr h
/-- the tables of the defs that hold generator expressions -/
def Tb (T : List Addr) (H : Hp) : Prop := ∀ P ∈ T, TabG H P
theorem Tb.kp {T : List Addr} {H H' : Hp} (t : Tb T H) (k : Kp H H') : Tb T H' := fun P hP => k.tab P (t P hP)

/-! ### data -/
abbrev iv (xs : List Int) : HO := .tup (xs.map V.int)
/-- a list (a tuple) of tuples of ints -/
def Its (H : Hp) (L : LP) : Prop := ∀ q ∈ L, H q.1 = some (iv q.2)
theorem Its.kp {H H' : Hp} {L : LP} (h : Its H L) (k : Kp H H') : Its H' L := fun q hq => k.get (h q hq)
theorem Its.nil {H : Hp} : Its H [] := fun q hq => absurd hq (by simp)
theorem Its.cons {H : Hp} {a : Addr} {xs : List Int} {L : LP} (h : H a = some (iv xs)) (t : Its H L) : Its H ((a, xs) :: L) := fun q hq => by
  rcases List.mem_cons.mp hq with e | hq
  · rw [e]; exact h
  · exact t q hq
theorem Its.app {H : Hp} {L M : LP} (h : Its H L) (t : Its H M) : Its H (L ++ M) := fun q hq => (List.mem_append.mp hq).elim (h q) (t q)
theorem Its.snoc {H : Hp} {a : Addr} {xs : List Int} {L : LP} (t : Its H L) (h : H a = some (iv xs)) : Its H (L ++ [(a, xs)]) := t.app (.cons h .nil)
theorem refs_app (L M : LP) : refs (L ++ M) = refs L ++ refs M := List.map_append
theorem refs_len (L : LP) : (refs L).length = L.length := List.length_map _
theorem refs_get {L : LP} {i : Nat} {v : V} (h : (refs L)[i]? = some v) : ∃ q, L[i]? = some q ∧ v = .ref q.1 ∧ q ∈ L := by
  unfold refs at h
  rw [List.getElem?_map] at h
  cases e : L[i]? with
  | none => rw [e] at h; cases h
  | some q =>
    rw [e] at h
    exact ⟨q, rfl, (Option.some.inj h).symm, List.mem_of_getElem? e⟩
theorem ints_get {xs : List Int} {i : Nat} {v : V} (h : (xs.map V.int)[i]? = some v) : ∃ x, xs[i]? = some x ∧ v = .int x := by
  rw [List.getElem?_map] at h
  cases e : xs[i]? with
  | none => rw [e] at h; cases h
  | some q =>
    rw [e] at h
    exact ⟨q, rfl, (Option.some.inj h).symm⟩
abbrev prs (ps : List (Int × Int)) : List (List Int) := ps.map fun p => [p.1, p.2]
/-- a web at w: n people, the pairs ps -/
def Web (H : Hp) (w : Addr) (n : Nat) (ps : List (Int × Int)) : Prop := ∃ (b : Addr) (L : LP), H w = some (.tup [.int n, .ref b]) ∧ H b = some (.tup (refs L)) ∧ L.map (·.2) = prs ps ∧ Its H L
theorem Web.kp {H H' : Hp} {w : Addr} {n : Nat} {ps : List (Int × Int)} (h : Web H w n ps) (k : Kp H H') : Web H' w n ps := by
  obtain ⟨b, L, h1, h2, h3, h4⟩ := h
  exact ⟨b, L, k.get h1, k.get h2, h3, h4.kp k⟩

/-! ### readings -/
section
variable {σ : L2.St} {H : Hp} {Q : VK} {i : Nat} {v x y : V} {ta tb : TE} {D : Ends}
theorem rd_c (q : Q v H) : tC v σ H Q := q
theorem rd_op {r : R2} (q : ta σ H fun x H1 => tb σ H1 fun y H2 => r x y H2 Q) : tOp r ta tb σ H Q := q
theorem rd_seq {t u : TS} (q : t { D with nx := u D } σ H) : tSeq t u D σ H := q
theorem rd_asg {g : TG} {te : TE} (q : te σ H fun x H1 => g x σ H1 D.nx) : tAsg te g D σ H := q
theorem rd_name {v : V} {Q : L2.St → Hp → Prop} (q : Q (σ.set i (some v)) H) : gName i v σ H Q := q
theorem rd_ret {te : TE} (q : te σ H D.rt) : tRet te D σ H := q
theorem rd_cons {tr : TA} {Q : List V → Hp → Prop} (q : ta σ H fun x H1 => tr σ H1 fun xs H2 => Q (x :: xs) H2) : tCons ta tr σ H Q := q
theorem rd_nil {Q : List V → Hp → Prop} (q : Q [] H) : tNil σ H Q := q
theorem rd_ix {K : PySem.W.Frag} {p : Addr} {xs : List V} {k : Int} (h : H p = some (.tup xs)) (ha : atI xs k = some v) (q : Q v H) : rIxT K (.ref p) (.int k) H Q := ⟨p, xs, k, v, rfl, rfl, SqT.of h, ha, q⟩
theorem rd_ixL {K : PySem.W.Frag} {p : Addr} {xs : List V} {k : Int} (h : H p = some (.lst xs)) (ha : atI xs k = some v) (q : Q v H) : rIxL K (.ref p) (.int k) H Q := ⟨p, xs, k, v, rfl, rfl, SqL.of h, ha, q⟩
end
end Fo

open Fo L2 in
local macro_rules | `(tactic| walk_at "fo_hp") => `(tactic| first
  | assumption
  | exact upd_same
  | (refine' upd_old ?n ?h; (case n => assumption); (case h => walk_at "fo_hp"))
  | (refine' Kp.get ?k ?h rfl; (case k => assumption); (case h => walk_at "fo_hp")))
example : True := trivial
/-! FoM: the mathematics, plain Lean. -/
namespace Fo
/-- two people are foes, as the program looks it up -/
def foe (ps : List (Int × Int)) (i j : Int) : Bool := ps.any fun p => (p.1 == (if j < i then j else i)) && (p.2 == (if j > i then j else i))
/-- no pair of foes within -/
def gok (ps : List (Int × Int)) (xs : List Int) : Bool := !(ps.any fun p => decide (p.1 ∈ xs) && decide (p.2 ∈ xs))
def Lot (n : Nat) (xs : List Int) : Prop := (∀ x ∈ xs, 0 ≤ x ∧ x < n) ∧ xs.Pairwise (· < ·)
structure WebOk (n : Nat) (ps : List (Int × Int)) : Prop where
  lo : 1 ≤ n
  hi : n ≤ 4
  prs : ∀ p ∈ ps, 0 ≤ p.1 ∧ p.1 < p.2 ∧ p.2 < n
  asc : ps.Pairwise fun p q => p.1 < q.1 ∨ (p.1 = q.1 ∧ p.2 < q.2)
  few : ps.length ≤ 20
end Fo
set_option maxHeartbeats 2000000
/-! FoA: the text, the names, a call of a def; small rules. -/
namespace Fo
open PySem PySem.Spec PyProof.Rows L2 GxR

def topS (i : Nat) : Stmt := PySem.Challenge.pw_foescome_k25_whole_stays_in_time.main.body.getD i (.Pass ⟨0, 0, 0, 0⟩)
/-- the built-in names that the module does not bind; its constants -/
structure Nm (mg : Str → Option Value) : Prop where
  m_isinstance : mg "isinstance" = none
  m_int : mg "int" = none
  m_bool : mg "bool" = none
  m_tuple : mg "tuple" = none
  m_list : mg "list" = none
  m_str : mg "str" = none
  m_len : mg "len" = none
  m_any : mg "any" = none
  m_all : mg "all" = none
  m_sum : mg "sum" = none
  m_range : mg "range" = none
  m_min : mg "min" = none
  m_max : mg "max" = none
  m_sorted : mg "sorted" = none
  m_zip : mg "zip" = none
  c_MOST_PEOPLE : ∃ t, mg "MOST_PEOPLE" = some (.int 7 t)
  c_MOST_ROW : ∃ t, mg "MOST_ROW" = some (.int 30 t)
  c_MOST_GAIN : ∃ t, mg "MOST_GAIN" = some (.int 1000 t)
  c_MOST_COST : ∃ t, mg "MOST_COST" = some (.int 1000 t)
  c_MOST_TURNS : ∃ t, mg "MOST_TURNS" = some (.int 8 t)
/-- a def of the module that keeps its promise -/
def Cal (P : Program) (w : World) (K : PySem.W.Frag) (mg : Str → Option Value) (base : Heap) (x : Str) (k : Nat) (ps : List Str) (sp : Sp) : Prop :=
  ∃ f fd, FnOk P w K mg base CX0 k f fd ps sp ∧ mg x = some (.ref f) ∧ PySem.W.keepIn K (.ref f) = true ∧ Binds K fd ps []
def tCal (sp : Sp) (t : TA) : TE := fun σ H Q => t σ H fun vs H1 => sp vs H1 Q E0
section
variable {X : Cx} {k : Nat} {x : Str} {ps : List Str} {sp : Sp} {e : Expr} {es : List Expr} {t : TA} {p pos : Pos}
theorem pe_cal (C : Cal X.prog X.w X.K X.mg X.base x k ps sp) (hr : Room k X.A) (hg : Gl X x) (ha : PA X (e :: es) t) (hdb : (x == ("__debug__" : Str)) = false := by decide) (he : starEach (e :: es) X.env = (false, eval e X.env) :: starEach es X.env := by rfl)
    (hpl : (backTo pos (starEach es X.env)).any (·.1) = false := by rfl) : PE X (.Call (.Name x p) (e :: es) [] pos) (tCal sp t) := by
  obtain ⟨f, fd, F, hm, hk, hb⟩ := C
  have h := pe_call (p := p) (pos := pos) (E := E0) F hr hg hm hk hb .nil pass0 ha hdb he hpl
  refine ⟨fun pins s σ H Q I q => h.run pins s σ H Q I ?_⟩
  have e2 : tCall sp [] E0 t σ H Q = tCal sp t σ H Q := by
    unfold tCall tCal
    simp only [List.append_nil]
  rw [e2]
  exact q
theorem pe_cst {i : Int} (hg : Gl X x) (h : ∃ t, X.mg x = some (.int i t)) (hd : (x == ("__debug__" : Str)) = false := by decide) : PE X (.Name x pos) (tC (.int i)) := by
  obtain ⟨t, h⟩ := h
  exact pe_glob hg h ⟨t, rfl⟩ hd
theorem pe_ty (T : String) (hg : Gl X x) (hm : X.mg x = none) (hv : bootBuiltins x = some (.type T)) (hn : x ≠ "__name__" := by decide) (hd : (x == ("__debug__" : Str)) = false := by decide) : PE X (.Name x pos) (tC (.ty T)) :=
  pe_bltn hg hm hv rfl hn hd
end
/-- a def whose code object stands at c -/
structure FunT (K : PySem.W.Frag) (x qual : Str) (st : Stmt) (f : Addr) (fd : FuncData) (c : Addr) : Prop where
  ex : ∃ (oc : Value) (od : Option Addr) (kV doc pm : Value) (an : Option Addr) (ct : Value) (osl : Array (Option Value)),
    fd = PySem.W.fnOf x qual (defArgs st) (defBody st) (defScope st) .none kV doc pm an (.ref c) ct ∧ K.lookup f = some ⟨oc, od, .func fd, osl⟩ ∧ PySem.W.codeIn K (.ref c) qual = true
  kp : PySem.W.keepIn K (.ref f) = true
section
variable {P : Program} {w : World} {K : PySem.W.Frag} {mg : Str → Option Value} {base : Heap}
theorem FunT.fn {x qual : Str} {st : Stmt} {f c : Addr} {fd : FuncData} (F : FunT K x qual st f fd c) : Fun K x qual st f fd := by
  obtain ⟨⟨oc, od, kV, doc, pm, an, ct, osl, h1, h2, h3⟩, h4⟩ := F
  exact ⟨⟨oc, od, kV, doc, pm, an, .ref c, ct, osl, h1, h2, h3⟩, h4⟩
theorem FunT.ok {x qual : Str} {st : Stmt} {f c : Addr} {fd : FuncData} {N ps : List Str} {k : Nat} {sp : Sp} (F : FunT K x qual st f fd c) (S : FnScope N ps (defScope st)) (len : ∀ vs H Q E, sp vs H Q E → vs.length = ps.length)
    (hbody : ∀ (A : Around) (outer : List Env) (s : Shared) (H : Hp) (vs : List V) (Q : VK) (E : XK), Room k (A.deeper (envOfC qual (defScope st) s.heap.objs.size f (.ref c))) → sp vs H Q E →
      ∃ t, PSs (cxOf CX0 P w K mg base N qual (defScope st) f (.ref c) A outer s H E).nox (defBody st) t ∧ t { nx := fun _ H' => Q .non H', rt := Q } (start N vs) H) : FnOk P w K mg base CX0 (k + 1) f fd ps sp := by
  obtain ⟨oc, od, kV, doc, pm, an, ct, osl, rfl, lk, hcd⟩ := F.ex
  refine fn_of lk hcd S len fun A outer s H vs Q E hr hsp => ?_
  obtain ⟨t, h, q⟩ := hbody A outer s H vs Q E hr hsp
  exact ⟨t, h.nox, q⟩
theorem funT_mk {x qual : Str} {st : Stmt} {f c : Addr} {oc : Value} {od an : Option Addr} {osl : Array (Option Value)} {kV doc pm ct : Value} (l : K.lookup f = some ⟨oc, od, .func (PySem.W.fnOf x qual (defArgs st) (defBody st) (defScope st) .none kV doc pm an (.ref c) ct), osl⟩)
    (h : PySem.W.codeIn K (.ref c) qual = true) (k : PySem.W.keepIn K (.ref f) = true) : FunT K x qual st f (PySem.W.fnOf x qual (defArgs st) (defBody st) (defScope st) .none kV doc pm an (.ref c) ct) c := ⟨⟨oc, od, kV, doc, pm, an, ct, osl, rfl, l, h⟩, k⟩
end

/-! ### small rules -/
section
variable {X : Cx}
/-- d in t, t a tuple, data of any depth -/
def rInU (K : PySem.W.Frag) : R2 := fun x y H Q => ∃ d ds, Dp K H x d ∧ Dp K H y (.tuple ds) ∧ SeqAt.shaped d = true ∧ SeqAt.shaped (.tuple ds) = true ∧ Q (.bl (ds.any fun z => PyData.eqv z d)) H
theorem op_inU (hu : X.A.units + 64 < cLine) (hu2 : X.A.units + 65 < cLine := by omega) : OpR X (compareOp .In) (rInU X.K) := by
  intro pins s σ H x y v u Q I rx ry h
  obtain ⟨d, ds, hd, he, sd, se, q⟩ := h
  obtain ⟨as, r1⟩ := Dp.reads I d x v hd rx
  obtain ⟨bs, r2⟩ := Dp.reads I (.tuple ds) y u he ry
  exact SeqAt.in_tuple_reads r2 r1 (SeqAt.canLay_of_shaped se) (SeqAt.canLay_of_shaped sd) (PyProof.Rows.room_in_shaped sd hu2) ⟨.bl _, H, I, rfl, q⟩
/-- p >= q of two pairs of ints -/
def rGeU (K : PySem.W.Frag) : R2 := fun x y H Q => ∃ (a b : Addr) (n1 n2 m1 m2 : Int), x = .ref a ∧ y = .ref b ∧ SqT K H a [.int n1, .int n2] ∧ SqT K H b [.int m1, .int m2] ∧ Q (.bl (if n1 = m1 then (if n2 = m2 then true else decide (m2 ≤ n2)) else decide (m1 ≤ n1))) H
theorem op_geU (hu : X.A.units < cLine) : OpR X (compareOp .GtE) (rGeU X.K) := by
  intro pins s σ H x y v u Q I rx ry h
  obtain ⟨a, b, n1, n2, m1, m2, rfl, rfl, ha, hb, q⟩ := h
  cases rx
  cases ry
  obtain ⟨its, r1, p1, _⟩ := I.tuple ha
  obtain ⟨its2, r2, p2, _⟩ := I.tuple hb
  cases r1 with
  | cons x1 t1 => cases t1 with
    | cons x2 t1 =>
      cases t1
      cases r2 with
      | cons y1 t2 => cases t2 with
        | cons y2 t2 =>
          cases t2
          obtain ⟨k1, rfl⟩ := x1
          obtain ⟨k2, rfl⟩ := x2
          obtain ⟨l1, rfl⟩ := y1
          obtain ⟨l2, rfl⟩ := y2
          have R := Ob.RcOp.tuples_ge (A := X.A) (s := s) (e := fun j => if j = 0 then (n1 == m1) else (n2 == m2)) (r := fun j => if j = 0 then decide (m1 ≤ n1) else decide (m2 ≤ n2)) p1 p2 hu
            (fun j h1 h2 => by
              have hj : j = 0 ∨ j = 1 := by have : j < 2 := h1; omega
              rcases hj with rfl | rfl
              · exact SeqAt.EqAt.int_int _ _ _ _
              · exact SeqAt.EqAt.int_int _ _ _ _)
            (fun j h1 h2 _ => by
              have hj : j = 0 ∨ j = 1 := by have : j < 2 := h1; omega
              rcases hj with rfl | rfl
              · exact Ob.RcOp.ge_int _ _ _ _
              · exact Ob.RcOp.ge_int _ _ _ _)
          have ev : Ob.lexAt (fun j => if j = 0 then (n1 == m1) else (n2 == m2)) (fun j => if j = 0 then decide (m1 ≤ n1) else decide (m2 ≤ n2)) (decide ((#[Value.int n1 k1, .int n2 k2] : Array Value).size ≥ (#[Value.int m1 l1, .int m2 l2] : Array Value).size)) 0 2
              = (if n1 = m1 then (if n2 = m2 then true else decide (m2 ≤ n2)) else decide (m1 ≤ n1)) := by
            rw [Ob.lexAt_succ, Ob.lexAt_succ, Ob.lexAt_zero]
            by_cases e1 : n1 = m1
            · by_cases e2 : n2 = m2
              · simp [e1, e2]
              · simp [e1, e2]
            · simp [e1]
          have z : wpAny (model X.prog X.w) X.A (compareOp .GtE (.ref a) (.ref b)) (EP X pins σ Q) X.xe s := R X.prog X.w X.xe (EP X pins σ Q) (by
            refine ⟨.bl _, H, I, rfl, ?_⟩
            have q' := q
            rw [← ev] at q'
            exact q')
          exact z
end

/-! ### readings -/
section
variable {σ : L2.St} {H : Hp} {Q : VK} {QB : Bool → Hp → Prop} {ta tb : TE} {tA tB' : TT} {t : TA} {D : Ends}
theorem rd_cal {sp : Sp} (q : t σ H fun vs H1 => sp vs H1 Q E0) : tCal sp t σ H Q := q
theorem rd_cb {r : List V → Hp → VK → Prop} (q : t σ H fun vs H1 => r vs H1 Q) : tCB r t σ H Q := q
theorem rd_test (q : ta σ H fun x H' => ∃ k, x = .bl k ∧ QB k H') : tTest ta σ H QB := q
theorem rd_B (q : ta σ H fun x H' => ∃ k, x = .bl k ∧ QB k H') : L2.tB ta σ H QB := q
theorem rd_not (q : tA σ H fun c H1 => QB (!c) H1) : tNot tA σ H QB := q
theorem rd_and (q : tA σ H fun c H1 => if c = true then tB' σ H1 QB else QB false H1) : tAnd tA tB' σ H QB := q
theorem rd_or (q : tA σ H fun c H1 => if c = true then QB true H1 else tB' σ H1 QB) : tOr tA tB' σ H QB := q
theorem rd_andV (q : ta σ H fun x H1 => ∃ c, x = .bl c ∧ if c = true then tb σ H1 Q else Q (.bl false) H1) : tAndV ta tb σ H Q := q
theorem rd_notV (q : ta σ H fun x H1 => ∃ c, x = .bl c ∧ Q (.bl (!c)) H1) : tNotV ta σ H Q := q
theorem rd_chain {r r' : R2} {tc : TE} (q : ta σ H fun x H1 => tb σ H1 fun y H2 => r x y H2 fun z H3 => ∃ k, z = .bl k ∧ if k = true then tc σ H3 fun w H4 => r' y w H4 Q else Q (.bl false) H3) : tChain r r' ta tb tc σ H Q := q
theorem rd_ifs {t1 t2 : TS} (q : tA σ H fun b H1 => if b = true then t1 D σ H1 else t2 D σ H1) : tIfS tA t1 t2 D σ H := q
theorem rd_drop (q : ta σ H fun _ H1 => D.nx σ H1) : tDrop ta D σ H := q
theorem rd_for {wi : TI} {g : TG} {tbd : TS} (q : wi σ H fun J H1 => ∃ W : Nat → Nat → L2.St → Hp → Prop, (∃ m, W 0 m σ H1) ∧ ∀ i m σ H, W i m σ H →
  (J.stop i H ∧ D.nx σ H) ∨ (J.go i H ∧ ∃ N : L2.St → Hp → Prop, (∀ σ' H', N σ' H' → ∃ m', m' < m ∧ W (i + 1) m' σ' H') ∧ ∀ x H', J.yld i H x H' → g x σ H' fun σ2 H2 => tbd { D with nx := N, ct := N, bk := D.nx } σ2 H2)) : tFor wi g tbd D σ H := q
theorem rd_itup {K : PySem.W.Frag} {R : It → Hp → Prop} (q : ta σ H fun x H1 => ∃ a, x = .ref a ∧ (∃ xs, SqT K H1 a xs) ∧ R (Itt K a) H1) : iTup K ta σ H R := q
theorem rd_ilist {K : PySem.W.Frag} {R : It → Hp → Prop} (q : ta σ H fun x H1 => ∃ a, x = .ref a ∧ (∃ xs, SqL K H1 a xs) ∧ R (Itl K a) H1) : iList K ta σ H R := q
theorem rd_tup (q : t σ H fun xs H1 => xs.length ≤ sizeLine ∧ ∀ p, H1 p = none → Q (.ref p) (upd H1 p (.tup xs))) : tTup t σ H Q := q
theorem rd_lst (q : t σ H fun xs H1 => xs.length ≤ sizeLine ∧ ∀ p, H1 p = none → Q (.ref p) (upd H1 p (.lst xs))) : tLst t σ H Q := q
theorem yes {c : Bool} {A B : Prop} (h : c = true) (q : A) : if c = true then A else B := by rw [if_pos h]; exact q
theorem no {c : Bool} {A B : Prop} (h : c = false) (q : B) : if c = true then A else B := by rw [h, if_neg Bool.false_ne_true]; exact q
theorem dt {p : Prop} [Decidable p] (h : p) : decide p = true := decide_eq_true h
theorem df {p : Prop} [Decidable p] (h : ¬ p) : decide p = false := decide_eq_false h
theorem sz {n : Nat} (h : n ≤ 1000) : n ≤ sizeLine := Nat.le_of_lt (small1000 h)
/-- isinstance of an int, a tuple, a list, None, a bool -/
theorem rd_isi {K : PySem.W.Frag} {x : V} {T U : String} {b : Bool} (ty : TyX K H x (.type T)) (h : kitB T U = some b) (q : Q (.bl b) H) : rIsi K [x, .ty U] H Q := ⟨x, .ty U, _, _, b, rfl, .ty U, ty, kit_ty h, q⟩
theorem ty_int {K : PySem.W.Frag} {i : Int} : TyX K H (.int i) (.type "int") := .base (.int i)
theorem ty_bl {K : PySem.W.Frag} {b : Bool} : TyX K H (.bl b) (.type "bool") := .base (.bl b)
theorem ty_non {K : PySem.W.Frag} : TyX K H .non (.type "NoneType") := .base .non
theorem ty_tup {K : PySem.W.Frag} {a : Addr} {xs : List V} (h : H a = some (.tup xs)) : TyX K H (.ref a) (.type "tuple") := .base (.tup h)
theorem ty_lst {K : PySem.W.Frag} {a : Addr} {xs : List V} (h : H a = some (.lst xs)) : TyX K H (.ref a) (.type "list") := .base (.lst h)
end
local macro_rules | `(tactic| walk_at "hp") => `(tactic| first
  | assumption
  | exact upd_same
  | (refine' upd_old ?n ?h; (case n => assumption); (case h => walk_at "hp"))
  | (refine' Kp.get ?k ?h rfl; (case k => assumption); (case h => walk_at "hp")))
local macro_rules | `(tactic| walk_at "kp") => `(tactic| first
  | exact Kp.refl _
  | assumption
  | exact Kp.new (by assumption)
  | (refine' Kp.trans ?a ?b; (case b => first | assumption | exact Kp.new (by assumption)); (case a => walk_at "kp")))
local macro_rules | `(tactic| walk_at "rd") => `(tactic| first
  | ((with_reducible show tVar _ _ _ _); refine ⟨_, rfl, ?_⟩)
  | ((with_reducible show tC _ _ _ _); refine rd_c ?_)
  | ((with_reducible show tSeq _ _ _ _ _); refine rd_seq ?_)
  | ((with_reducible show tAsg _ _ _ _ _); refine rd_asg ?_)
  | ((with_reducible show gName _ _ _ _ _); refine rd_name ?_)
  | ((with_reducible show tRet _ _ _ _); refine rd_ret ?_)
  | ((with_reducible show tOp _ _ _ _ _ _); refine rd_op ?_)
  | ((with_reducible show tCons _ _ _ _ _); refine rd_cons ?_)
  | ((with_reducible show tNil _ _ _); refine rd_nil ?_)
  | ((with_reducible show tCal _ _ _ _ _); refine rd_cal ?_)
  | ((with_reducible show tCB _ _ _ _ _); refine rd_cb ?_)
  | ((with_reducible show tTest _ _ _ _); refine rd_test ?_)
  | ((with_reducible show tB _ _ _ _); refine rd_B ?_)
  | ((with_reducible show tNot _ _ _ _); refine rd_not ?_)
  | ((with_reducible show tAnd _ _ _ _ _); refine rd_and ?_)
  | ((with_reducible show tOr _ _ _ _ _); refine rd_or ?_)
  | ((with_reducible show tAndV _ _ _ _ _); refine rd_andV ?_)
  | ((with_reducible show tNotV _ _ _ _); refine rd_notV ?_)
  | ((with_reducible show tChain _ _ _ _ _ _ _ _); refine rd_chain ?_)
  | ((with_reducible show tIfS _ _ _ _ _ _); refine rd_ifs ?_)
  | ((with_reducible show tDrop _ _ _ _); refine rd_drop ?_)
  | ((with_reducible show tFor _ _ _ _ _ _); refine rd_for ?_)
  | ((with_reducible show iTup _ _ _ _ _); refine rd_itup ?_)
  | ((with_reducible show iList _ _ _ _ _); refine rd_ilist ?_)
  | ((with_reducible show rI0 _ _ _ _ _); refine ⟨_, _, rfl, rfl, ?_⟩)
  | ((with_reducible show rAdd _ _ _ _); refine ⟨_, _, rfl, rfl, ?_⟩)
  | ((with_reducible show rSub _ _ _ _); refine ⟨_, _, rfl, rfl, ?_⟩)
  | ((with_reducible show rIxT _ _ _ _ _); refine' rd_ix ?h ?a ?_; (case h => walk_at "hp"); (case a => first | rfl | assumption))
  | ((with_reducible show rIxL _ _ _ _ _); refine' rd_ixL ?h ?a ?_; (case h => walk_at "hp"); (case a => first | rfl | assumption))
  | ((with_reducible show tTup _ _ _ _); refine rd_tup ?_)
  | ((with_reducible show tLst _ _ _ _); refine rd_lst ?_))

/-! ### is_in -/
abbrev s_is_in : Stmt := topS 10
abbrev N_is_in : List Str := ["value", "least", "most"]
abbrev P_is_in : List Str := ["value", "least", "most"]
theorem sc_is_in : FnScope N_is_in P_is_in (defScope s_is_in) := ⟨rfl, rfl, rfl, by decide +kernel, rfl, by decide +kernel, by decide +kernel⟩
def sp_is_in : Sp := fun vs H Q _ => ∃ i lo hi : Int, vs = [.int i, .int lo, .int hi] ∧ Q (.bl (decide (lo ≤ i) && decide (i ≤ hi))) H
section
variable {P : Program} {w : World} {K : PySem.W.Frag} {mg : Str → Option Value} {base : Heap}
theorem ok_is_in {f : Addr} {fd : FuncData} (F : Fun K "is_in" "is_in" s_is_in f fd) (nm : Nm mg) : FnOk P w K mg base CX0 1 f fd P_is_in sp_is_in := by
  refine F.ok sc_is_in (fun vs H Q E h => ?_) (fun cdv A outer s H vs Q E hr h => ?_)
  · obtain ⟨i, lo, hi, rfl, _⟩ := h
    rfl
  · obtain ⟨i, lo, hi, rfl, q⟩ := h
    refine ⟨_, (pss_one (ps_ret (pe_and (pe_callB call_isi (by rfl) nm.m_isinstance (by decide +kernel) (pa_cons (pv 0) (pa_cons (pe_ty "int" (by rfl) nm.m_int (by decide +kernel)) pa_nil))) (pe_and (pe_not (pe_callB call_isi (by rfl) nm.m_isinstance (by decide +kernel) (pa_cons (pv 0) (pa_cons (pe_ty "bool" (by rfl) nm.m_bool (by decide +kernel)) pa_nil)))) (pe_one (pe_chain op_le op_le (pv 1) (pv 0) (pv 2))))))), ?_⟩
    repeat walk_at "rd"
    refine rd_isi ty_int (b := true) (by decide +kernel) ⟨_, rfl, yes rfl ?_⟩
    repeat walk_at "rd"
    refine rd_isi ty_int (b := false) (by decide +kernel) ⟨_, rfl, ⟨_, rfl, yes rfl ?_⟩⟩
    repeat walk_at "rd"
    refine ⟨_, rfl, ?_⟩
    by_cases h1 : lo ≤ i
    · refine yes (dt h1) ?_
      repeat walk_at "rd"
      rw [dt h1, Bool.true_and] at q
      exact q
    · refine no (df h1) ?_
      rw [df h1, Bool.false_and] at q
      exact q
end
end Fo
set_option maxHeartbeats 4000000
/-! FoK: rules with the frozen part named; tuple * 1; tuple[::-1]. -/
namespace Fo
open PySem PySem.Spec PyProof.Rows L2 GxR
section
variable {X : Cx} {K : PySem.W.Frag}
theorem k_ixT (h : X.K = K := by rfl) : IxR X (rIxT K) := by subst h; exact ix_tup
theorem k_ixL (h : X.K = K := by rfl) : IxR X (rIxL K) := by subst h; exact ix_list
theorem k_isi (h : X.K = K := by rfl) : CallR X (.builtin "isinstance") (rIsi K) := by subst h; exact call_isi
theorem k_isiT (h : X.K = K := by rfl) : CallR X (.builtin "isinstance") (rIsiT K) := by subst h; exact call_isiT
def rLenS (K : PySem.W.Frag) : List V → Hp → VK → Prop := fun xs H Q => ∃ p ys, xs = [.ref p] ∧ (SqL K H p ys ∨ SqT K H p ys) ∧ Q (.int ys.length) H
theorem k_len (h : X.K = K := by rfl) : CallR X (.builtin "len") (rLenS K) := by subst h; exact call_len_seq
def rTupOf (K : PySem.W.Frag) : List V → Hp → VK → Prop := fun xs H Q => ∃ p ys, xs = [.ref p] ∧ ((SqL K H p ys ∧ ∀ l, H l = none → Q (.ref l) (upd H l (.tup ys))) ∨ (SqT K H p ys ∧ Q (.ref p) H))
theorem k_tupOf (h : X.K = K := by rfl) : CallR X (.type "tuple") (rTupOf K) := by subst h; exact call_tuple_of
def rLstOf (K : PySem.W.Frag) : List V → Hp → VK → Prop := fun xs H Q => ∃ p ys, xs = [.ref p] ∧ (SqL K H p ys ∨ SqT K H p ys) ∧ ∀ l, H l = none → Q (.ref l) (upd H l (.lst ys))
theorem k_lstOf (h : X.K = K := by rfl) : CallR X (.type "list") (rLstOf K) := by subst h; exact call_list_of
theorem k_sum (hc : X.calm = true) (h : X.K = K := by rfl) : CallR X (.builtin "sum") (rSum K) := by subst h; exact cr_sum hc
theorem k_max (hc : X.calm = true) (h : X.K = K := by rfl) : CallR X (.builtin "max") (rMax K) := by subst h; exact cr_max hc
theorem k_sorted (h : X.K = K := by rfl) : CallR X (.builtin "sorted") (rSorted K) := by subst h; exact cr_sorted
theorem k_sortL (hu : X.A.units + 200 < cLine) (h : X.K = K := by rfl) : CallR X (.builtin "sorted") (rSortL K) := by subst h; exact cr_sortL (by omega)
theorem k_inU (hu : X.A.units + 200 < cLine) (h : X.K = K := by rfl) : OpR X (compareOp .In) (rInU K) := by subst h; exact op_inU (by omega) (by omega)
theorem k_inD (hu : X.A.units + 200 < cLine) (h : X.K = K := by rfl) : OpR X (compareOp .In) (rInD K) := by subst h; exact op_inD (by omega)
theorem k_in (h : X.K = K := by rfl) : OpR X (compareOp .In) (rIn K false) := by subst h; exact op_in_seq
theorem k_notIn (h : X.K = K := by rfl) : OpR X (compareOp .NotIn) (rIn K true) := by subst h; exact op_notIn_seq
theorem k_catA (h : X.K = K := by rfl) : OpR X (binaryOp .Add) (rCatA K) := by subst h; exact op_catA
theorem k_slA (h : X.K = K := by rfl) : L2.SlR X (rSlA K) := by subst h; exact sl_tupA
theorem k_slL (h : X.K = K := by rfl) : L2.SlR X (rSlL K) := by subst h; exact sl_list
theorem k_piL {tg l : Expr} {tl : TE} (hl : PE X l tl) (h : X.K = K := by rfl) : PI X tg l (iList K tl) := by subst h; exact pi_list hl
theorem k_piT {tg l : Expr} {tl : TE} (hl : PE X l tl) (h : X.K = K := by rfl) : PI X tg l (iTup K tl) := by subst h; exact pi_tup hl
theorem k_geU (hu : X.A.units + 200 < cLine) (h : X.K = K := by rfl) : OpR X (compareOp .GtE) (rGeU K) := by subst h; exact op_geU (by omega)
theorem k_eqD (hu : X.A.units + 200 < cLine) (h : X.K = K := by rfl) : OpR X (compareOp .Eq) (rEqD K) := by subst h; exact op_eqD (by omega)
theorem k_pgT {es : List Expr} {k : Nat} {t : TGs} {n : Nat} {pos : Pos} (hc : X.calm = true) (h : PGs X es t) (hK : X.K = K := by rfl)
    (hn : (assignEach es X.env).length = n := by rfl) (hst : (assignEach es X.env).findIdx? (·.1) = none := by rfl) : PG X (.Tuple es k pos) (gTup K n t) := by subst hK; exact pg_tup hc h hn hst
theorem k_star {e : Expr} {es : List Expr} {te : TE} {t : TA} {p : Pos} (he : PE X e te) (hr : PA X es t) (hK : X.K = K := by rfl) (hs : starEach (.Starred e p :: es) X.env = (true, eval e X.env) :: starEach es X.env := by rfl) : PA X (.Starred e p :: es) (StX.tStar K te t) := by subst hK; exact StX.pa_star he hr hs
theorem hu_of {k : Nat} {A : Around} (r : Room k A) : A.units + 200 < cLine := by have := r.un; omega
theorem hu1 {k : Nat} {A : Around} (r : Room k A) : A.units + 1 < cLine := by have := r.un; omega
/-! ### tuple * int -/
theorem tuple_mulW1 (l : Addr) (items : Array Value) (n : Nat) (dd : Option Addr) (sl : Array (Option Value)) (u : Tok) :
    Meets (Builtin.«tuple.__mul__» ⟨[.ref l, .int 1 u], []⟩) (fun _ R s => s.heap.get? l = some { cls := .type "tuple", dict := dd, data := .seq items n, slots := sl } ∧
      R (.ok (.ret (Value.ref l))) s) :=
  .of_wp fun prog w A R s h => by
    obtain ⟨hp, g, d, tk, os⟩ := s
    obtain ⟨hl, h⟩ := h
    have f1 := AutoSeq1.idx_int
    wp_walk using wpAny_loadPart' hl
    repeat (first
      | (refine wpAny_ite_false (decide_eq_false (by decide)) ?_; wp_walk using wpAny_loadPart' hl)
      | (refine wpAny_ite_true (decide_eq_true (by simp)) ?_; wp_walk using wpAny_loadPart' hl))
    exact ⟨_, rfl, h⟩
/-- t * k, 1 ≤ k: once is t itself -/
def rRepU (K : PySem.W.Frag) : R2 := fun x y H Q => ∃ l k xs, x = .ref l ∧ y = .int k ∧ SqT K H l xs ∧ xs ≠ [] ∧ 1 ≤ k ∧ k ≤ 1000 ∧ xs.length ≤ 1000 ∧ (k = 1 → Q (.ref l) H) ∧ (2 ≤ k → ∀ p, H p = none → Q (.ref p) (upd H p (.tup (List.replicate k.toNat xs).flatten)))
theorem k_repU (hK : X.K = K := by rfl) : OpR X (binaryOp .Mult) (rRepU K) := by
  subst hK
  intro pins s σ H x y v u Q I rx ry h
  obtain ⟨l, k, xs, rfl, rfl, hT, hne, h1, h2, hz, q1, q2⟩ := h
  by_cases e : k = 1
  · subst e
    cases rx
    obtain ⟨t, rfl⟩ := ry
    obtain ⟨its, r, ⟨⟨cls, dd, data, sl⟩, ho, hc, n, hd⟩, hs⟩ := I.tuple hT
    simp only at hc hd
    subst hc hd
    exact wpAny_binaryOp_repeat_ref (T := "tuple") (U := "int") (by decide) ⟨_, ho, rfl⟩ (fun s' => typeIs_int s' 1 t) noFill_tuple_mul F.fills_int_mul F.slot_int_rmul repeat_tuple F.slot_int_index.lookup
      (call_meets F.slot_int_rmul (typeIs_int s 1 t) F.entry_int_rmul (F.args_int_rmul_2 _ _) (int_rmul_tuple 1 t l its.toArray n dd sl)
        ⟨ho, rfl, ⟨_, ho, rfl⟩, call_meets F.slot_tuple_mul ⟨_, ho, rfl⟩ F.entry_tuple_mul (F.args_tuple_mul_2 _ _) (tuple_mulW1 l its.toArray n dd sl t) ⟨ho, ⟨.ref l, H, I, rfl, q1 rfl⟩⟩⟩)
  · exact op_repT pins s σ H _ _ v u Q I rx ry ⟨l, k, xs, rfl, rfl, hT, hne, by omega, h2, hz, q2 (by omega)⟩
/-! ### t[::-1] -/
end
theorem rev_adjust (n : Nat) : Builtin.Slice.sliceAdjust none none (-1) (n : Int) = ((n : Int) - 1, -1) := by
  unfold Builtin.Slice.sliceAdjust
  simp
theorem rev_places (n : Nat) : Builtin.Slice.slicePlaces ((n : Int) - 1) (-1) (-1) = n := by
  unfold Builtin.Slice.slicePlaces
  rw [if_neg (by decide)]
  by_cases h : (n : Int) - 1 > -1
  · rw [if_pos h, show (-(-1) : Int) = 1 by decide, Int.ediv_one]
    omega
  · rw [if_neg h]
    omega
theorem rev_pick (xs : Array Value) : ((List.range xs.size).filterMap fun (k : Nat) => xs[(((xs.size : Nat) : Int) - 1 + (k : Int) * (-1)).toNat]?).toArray = xs.toList.reverse.toArray := by
  have e : (List.range xs.size).filterMap (fun (k : Nat) => xs[(((xs.size : Nat) : Int) - 1 + (k : Int) * (-1)).toNat]?) = ((List.range xs.size).map (fun k => xs.size - 1 - k)).filterMap (xs[·]?) := by
    rw [List.filterMap_map]
    have hh : ∀ l : List Nat, (∀ k ∈ l, k < xs.size) → l.filterMap (fun (k : Nat) => xs[(((xs.size : Nat) : Int) - 1 + (k : Int) * (-1)).toNat]?) = l.filterMap ((fun x => xs[x]?) ∘ fun k => xs.size - 1 - k) := by
      intro l
      induction l with
      | nil => intro _; rfl
      | cons k l ih =>
        intro hl
        have h1 := hl k List.mem_cons_self
        have h2 : (((xs.size : Nat) : Int) - 1 + (k : Int) * (-1)).toNat = xs.size - 1 - k := by omega
        rw [List.filterMap_cons, List.filterMap_cons, ih fun j hj => hl j (List.mem_cons_of_mem _ hj), h2]
        rfl
    exact hh _ fun k hk => List.mem_range.mp hk
  rw [e, PySem.W.krv_range, List.filterMap_reverse, PySem.W.krv_all]
section
variable {prog : Program} {w : World} {A : Around} {E : Value → Shared → Prop} {s : Shared}
theorem rev_applied {sl : Addr} {vs : Value} {n : Nat} {Q : Int × Int × Nat → Shared → Prop} (hs : s.heap.IsSliceOf sl .none .none vs) (ps : IsPart vs (some (-1)))
    (h : Q ((n : Int) - 1, -1, n) s) : wpAny (model prog w) A (Builtin.Slice.sliceApplied (.ref sl) (pure (n : Int))) Q E s := by
  obtain ⟨os, hos, hcs, hds⟩ := id hs
  unfold Builtin.Slice.sliceApplied Builtin.Slice.sliceFields
  refine wpAny_bind (wpAny_bind (wpAny_field hos hds (x := .none) rfl (wpAny_bind (wpAny_field hos hds (x := .none) rfl (wpAny_bind (wpAny_field hos hds (x := vs) rfl (wpAny_pure ?_)))))))
  refine wpAny_bind (HT.slicePart_ ps ?_)
  show wpAny _ _ (if ((-1 : Int) == 0) = true then _ else _) _ _ s
  rw [if_neg (by decide)]
  refine wpAny_bind (slicePart_none (wpAny_bind (slicePart_none (wpAny_bind (wpAny_pure ?_)))))
  show wpAny _ _ (match Builtin.Slice.sliceAdjust none none (-1) (n : Int) with | (lo, hi) => pure (lo, (-1 : Int), Builtin.Slice.slicePlaces lo hi (-1))) _ _ s
  rw [rev_adjust n]
  show wpAny _ _ (pure ((n : Int) - 1, (-1 : Int), Builtin.Slice.slicePlaces ((n : Int) - 1) (-1) (-1))) _ _ s
  rw [rev_places]
  exact wpAny_pure h
theorem rev_getItem {t sl : Addr} {items : Array Value} {vs : Value} {Q : Value → Shared → Prop} (ht : IsTup s.heap t items) (hs : s.heap.IsSliceOf sl .none .none vs) (ps : IsPart vs (some (-1)))
    (h : Q (.ref s.heap.objs.size) { s with heap := s.heap.push { cls := .type "tuple", data := .seq items.toList.reverse.toArray } })
    (hsz : items.size ≤ sizeLine) : wpAny (model prog w) A (getItem (.ref t) (.ref sl)) Q E s := by
  have htake : sizeOk (.seq items.toList.reverse.toArray) := by
    show items.toList.reverse.toArray.size ≤ sizeLine
    rw [List.size_toArray, List.length_reverse, Array.length_toList]
    exact hsz
  obtain ⟨os, hos, hcs, hds⟩ := id hs
  have hTs : s.TypeIs (.ref sl) "slice" := ⟨os, hos, hcs⟩
  unfold getItem
  try with_reducible refine wpAny_holding ?_
  first | refine wpAny_bind (wpAny_pure ?_) | skip
  refine wpAny_bind (wpAny_sequenceKey ht.typeIs (by decide) ?_)
  refine wpAny_bind (wpAny_callSpecial?_slot (name := Str.ofString "__getitem__") ht.typeIs PyProof.Rows.slot_tuple_getitem
    (wpAny_call_entry PyProof.Rows.slot_tuple_getitem ht.typeIs entry_tuple_getitem ?_ (args_tuple_getitem _ _)))
  show wpAny _ _ (Builtin.Tuple.tupleItemsOf (.ref t) >>= _) _ _ s
  refine wpAny_bind (tupleItemsOf_ ht ?_)
  refine wpAny_bind (wpAny_typeOf hTs ?_)
  rw [if_pos (by decide)]
  refine wpAny_bind (rev_applied hs ps ?_)
  have hno : ¬ ((((items.size : Nat) : Int) - 1 == 0 && (-1 : Int) == 1 && items.size == items.size) = true) := by simp
  show wpAny _ _ (if (((items.size : Nat) : Int) - 1 == 0 && (-1 : Int) == 1 && items.size == items.size) = true then _ else _) _ _ s
  rw [if_neg hno, rev_pick]
  first
    | exact wpAny_bind (m := Builtin.Tuple.tupleExact _) (wpAny_newObj_type (wpAny_pure ⟨_, rfl, wpAny_pure h⟩) htake)
    | exact wpAny_bind (m := Builtin.Tuple.tupleExact _) (wpAny_newObj_type (wpAny_bind (wpAny_pure (wpAny_pure ⟨_, rfl, wpAny_pure h⟩))) htake)
    | exact wpAny_bind (wpAny_bind (m := Builtin.Tuple.tupleExact _) (wpAny_newObj_type (wpAny_pure (wpAny_pure ⟨_, rfl, wpAny_pure h⟩)) htake))
    | exact wpAny_bind (wpAny_bind (m := Builtin.Tuple.tupleExact _) (wpAny_newObj_type (wpAny_pure ⟨_, rfl, wpAny_pure h⟩) htake))
end
section
variable {X : Cx} {K : PySem.W.Frag}
def tRevT (K : PySem.W.Frag) (te : TE) : TE := fun σ H Q => te σ H fun x H1 => ∃ a xs, x = .ref a ∧ SqT K H1 a xs ∧ ∀ p, H1 p = none → Q (.ref p) (upd H1 p (.tup xs.reverse))
theorem k_revT {e : Expr} {te : TE} {k : Nat} {p1 p2 p3 pos : Pos} (he : PE X e te) (hK : X.K = K := by rfl) : PE X (.Subscript e (.Slice none none (some (.UnaryOp .USub (.Constant (.int 1) k p1) p2)) p3) pos) (tRevT K te) := by
  subst hK
  refine ⟨fun pins s σ H Q I h => ?_⟩
  refine Subscript_ (thn (he.run pins s σ H _ I h) fun v s1 ⟨x, H1, I1, r1, q1⟩ => ?_)
  obtain ⟨a, xs, ex, hx, q⟩ := q1
  subst ex
  cases r1
  have hst : PO X (some (.UnaryOp .USub (.Constant (.int 1) k p1) p2)) (tPart (tUn (rU fun i => .int (-i)) (tC (.int 1)))) := po_some (pe_un un_neg pe_int)
  refine wpAny_Slice ?_
  rw [evalPart_none]
  refine wpAny_pure ?_
  refine wpAny_pure ?_
  refine thn (hst.run pins s1 σ H1 (fun o H4 => o = some (-1) ∧ H4 = H1) I1 ⟨1, rfl, -1, rfl, rfl, rfl⟩) fun vs s4 ⟨o, H4, I4, ps, eo, e4⟩ => ?_
  subst eo e4
  have I5 : Inv X pins σ H4 { s4 with heap := s4.heap.push { cls := .type "slice", data := .fields #[.none, .none, vs] } } := I4.kept (t' := s4.toks) fun b ob q => Heap.get?_push_of_some _ q
  obtain ⟨its, r, ht, hz⟩ := I5.tuple hx
  have hlen := r.length
  show wpAny (model X.prog X.w) X.A (subscriptTail e (.Slice none none (some (.UnaryOp .USub (.Constant (.int 1) k p1) p2)) p3) (.ref a) (.ref s4.heap.objs.size)) (EP X pins σ Q) X.xe { s4 with heap := s4.heap.push { cls := .type "slice", data := .fields #[.none, .none, vs] } }
  refine tail_any (ops := [.ref a, .ref s4.heap.objs.size]) ht.typeIs PyProof.Rows.slot_tuple_getitem.lookup ?_ (by with_unfolding_all rfl)
  refine rev_getItem ht (Heap.IsSliceOf.new _ .none .none vs) ps ?_ (by rw [List.size_toArray]; omega)
  refine ⟨.ref _, _, I5.laid (t' := s4.toks) (o := .tup xs.reverse) (fun b ob q => Heap.get?_push_of_some _ q) (Nat.le_refl _) ?_, rfl, q _ (I5.hok.fresh (Nat.le_refl _))⟩
  exact ⟨by rw [List.length_reverse]; exact hz, _, r.reverse, IsTup.new _ _⟩
end
end Fo
set_option maxHeartbeats 2000000
/-! FoLoop: the loops, by what stays of the heap. -/
namespace Fo
open PySem PySem.Spec PyProof.Rows L2 GxR
/-! ### what is wanted of an iterable, by name -/
def AllGo (P : Addr) (g : TG) (te : TE) (vs : List Nat) (σ : L2.St) (Q : VK) (J : It) (H1 : Hp) : Prop := TabG H1 P ∧ ∀ H2, Tabbed P H1 H2 → ∃ (n : Nat) (W : Nat → Hp → Prop), W 0 H2 ∧ (∀ H, W n H → J.stop n H ∧ Q (.bl true) H) ∧
  ∀ i H, i < n → W i H → J.go i H ∧ ∀ x H', J.yld i H x H' → g x (wipe σ vs) H' fun σ2 H3 => wipe σ2 vs = wipe σ vs ∧ te σ2 H3 fun y H4 => ∃ b, y = .bl b ∧ if b = true then W (i + 1) H4 else Q (.bl false) H4
def AnyGo (P : Addr) (g : TG) (te : TE) (vs : List Nat) (σ : L2.St) (Q : VK) (J : It) (H1 : Hp) : Prop := TabG H1 P ∧ ∀ H2, Tabbed P H1 H2 → ∃ (n : Nat) (W : Nat → Hp → Prop), W 0 H2 ∧ (∀ H, W n H → J.stop n H ∧ Q (.bl false) H) ∧
  ∀ i H, i < n → W i H → J.go i H ∧ ∀ x H', J.yld i H x H' → g x (wipe σ vs) H' fun σ2 H3 => wipe σ2 vs = wipe σ vs ∧ te σ2 H3 fun y H4 => ∃ b, y = .bl b ∧ if b = true then Q (.bl true) H4 else W (i + 1) H4
def SumGo (P : Addr) (g : TG) (te : TE) (vs : List Nat) (σ : L2.St) (Q : VK) (J : It) (H1 : Hp) : Prop := TabG H1 P ∧ ∀ H2, Tabbed P H1 H2 → ∃ (n : Nat) (W : Nat → Hp → Prop) (val : Nat → Int), (∀ j, j < n → InLong (val j) ∧ InLong (preSum val (j + 1))) ∧ W 0 H2 ∧ (∀ H, W n H → J.stop n H ∧ Q (.int (preSum val n)) H) ∧
  ∀ i H, i < n → W i H → J.go i H ∧ ∀ x H', J.yld i H x H' → g x (wipe σ vs) H' fun σ2 H3 => wipe σ2 vs = wipe σ vs ∧ te σ2 H3 fun y H4 => y = .int (val i) ∧ W (i + 1) H4
def LcGo (g : TG) (tt : TT) (te : TE) (vs : List Nat) (σ : L2.St) (Q : VK) (J : It) (H1 : Hp) : Prop := ∀ D, H1 D = none → ∃ W : Nat → Nat → Hp → Prop, (∃ m, W 0 m (upd H1 D (.lst []))) ∧ ∀ i m H, W i m H →
  (J.stop i H ∧ Q (.ref D) H) ∨ (J.go i H ∧ ∃ Nx : Hp → Prop, (∀ H', Nx H' → ∃ m', m' < m ∧ W (i + 1) m' H') ∧ ∀ x H', J.yld i H x H' → g x (wipe σ vs) H' fun σ2 H2 => wipe σ2 vs = wipe σ vs ∧ tt σ2 H2 fun b H3 =>
    if b = true then te σ2 H3 fun y H4 => ∃ acc, H4 D = some (.lst acc) ∧ acc.length < sizeLine ∧ Nx (upd H4 D (.lst (acc ++ [y]))) else Nx H3)
def DcGo (g : TG) (tk tv : TE) (vs : List Nat) (σ : L2.St) (Q : VK) (J : It) (H1 : Hp) : Prop := ∀ D, H1 D = none → ∃ (n : Nat) (W : Nat → Hp → Prop), W 0 (upd H1 D (.dT [])) ∧ (∀ H, W n H → J.stop n H ∧ Q (.ref D) H) ∧
  ∀ i H, i < n → W i H → J.go i H ∧ ∀ x H', J.yld i H x H' → g x (wipe σ vs) H' fun σ2 H2 => wipe σ2 vs = wipe σ vs ∧ tk σ2 H2 fun y H3 => tv σ2 H3 fun z H4 => ∃ kvs k b, y = .ref b ∧ H4 b = some (.tup (k.map kV)) ∧ H4 D = some (.dT kvs) ∧ kvs.length < sizeLine ∧ W (i + 1) (upd H4 D (.dT (putK kvs k z)))
def ForGo (g : TG) (tb : TS) (D : Ends) (σ : L2.St) (J : It) (H : Hp) : Prop := ∃ W : Nat → Nat → L2.St → Hp → Prop, (∃ m, W 0 m σ H) ∧ ∀ i m σ H, W i m σ H →
  (J.stop i H ∧ D.nx σ H) ∨ (J.go i H ∧ ∃ N : L2.St → Hp → Prop, (∀ σ' H', N σ' H' → ∃ m', m' < m ∧ W (i + 1) m' σ' H') ∧ ∀ x H', J.yld i H x H' → g x σ H' fun σ2 H2 => tb { D with nx := N, ct := N, bk := D.nx } σ2 H2)
section
variable {J : It} {n : Nat} {G : Hp → Prop} {Y : Nat → Hp → V → Hp → Prop} {P : Addr} {g : TG} {tt : TT} {te : TE} {vs : List Nat} {σ : L2.St} {H1 : Hp} {Q : VK}
/-- any over a genexp -/
theorem g_any (w : Walk J n G Y) (tab : TabG H1 P) (hG : ∀ H, Kp H1 H → G H) (val : Nat → Bool)
    (body : ∀ (R : VK) i x H H', i < n → Kp H1 H → Y i H x H' → (∀ H4, Kp H1 H4 → R (.bl (val i)) H4) → g x (wipe σ vs) H' fun σ2 H3 => wipe σ2 vs = wipe σ vs ∧ te σ2 H3 R)
    (q : ∀ b, (b = true ↔ ∃ i, i < n ∧ val i = true) → ∀ H, Kp H1 H → Q (.bl b) H) :
    AnyGo P g te vs σ Q J H1 := by
  unfold AnyGo
  refine ⟨tab, fun H2 t => ⟨n, fun i H => Kp H1 H ∧ ∀ j, j < i → val j = false, ⟨Kp.tabbed tab t, fun j h => absurd h (Nat.not_lt_zero _)⟩, fun H ⟨k, hv⟩ => ⟨w.stops H (hG H k), q false ⟨(fun z => Bool.noConfusion z), (fun ⟨i, h1, h2⟩ => absurd h2 (by rw [hv i h1]; decide))⟩ H k⟩, fun i H hi ⟨k, hv⟩ => ⟨w.goes i H hi (hG H k), fun x H' y => ?_⟩⟩⟩
  refine body _ i x H H' hi k (w.yields i H x H' hi (hG H k) y) fun H4 k4 => ⟨val i, rfl, ?_⟩
  by_cases e : val i = true
  · rw [if_pos e]
    exact q true ⟨fun _ => ⟨i, hi, e⟩, fun _ => rfl⟩ H4 k4
  · rw [if_neg e]
    refine ⟨k4, fun j hj => ?_⟩
    by_cases ej : j = i
    · rw [ej]; simpa using e
    · exact hv j (by omega)
/-- all over a genexp, each true -/
theorem g_all (w : Walk J n G Y) (tab : TabG H1 P) (hG : ∀ H, Kp H1 H → G H)
    (body : ∀ (R : VK) i x H H', i < n → Kp H1 H → Y i H x H' → (∀ H4, Kp H1 H4 → R (.bl true) H4) → g x (wipe σ vs) H' fun σ2 H3 => wipe σ2 vs = wipe σ vs ∧ te σ2 H3 R)
    (q : ∀ H, Kp H1 H → Q (.bl true) H) :
    AllGo P g te vs σ Q J H1 := by
  refine ⟨tab, fun H2 t => ⟨n, fun i H => Kp H1 H, Kp.tabbed tab t, fun H k => ⟨w.stops H (hG H k), q H k⟩, fun i H hi k => ⟨w.goes i H hi (hG H k), fun x H' y => ?_⟩⟩⟩
  exact body _ i x H H' hi k (w.yields i H x H' hi (hG H k) y) fun H4 k4 => ⟨true, rfl, k4⟩
/-- sum over a genexp -/
theorem g_sum (w : Walk J n G Y) (tab : TabG H1 P) (hG : ∀ H, Kp H1 H → G H) (val : Nat → Int) (fit : ∀ j, j < n → InLong (val j) ∧ InLong (preSum val (j + 1)))
    (body : ∀ (R : VK) i x H H', i < n → Kp H1 H → Y i H x H' → (∀ H4, Kp H1 H4 → R (.int (val i)) H4) → g x (wipe σ vs) H' fun σ2 H3 => wipe σ2 vs = wipe σ vs ∧ te σ2 H3 R)
    (q : ∀ H, Kp H1 H → Q (.int (preSum val n)) H) :
    SumGo P g te vs σ Q J H1 := by
  refine ⟨tab, fun H2 t => ⟨n, fun i H => Kp H1 H, val, fit, Kp.tabbed tab t, fun H k => ⟨w.stops H (hG H k), q H k⟩, fun i H hi k => ⟨w.goes i H hi (hG H k), fun x H' y => ?_⟩⟩⟩
  exact body _ i x H H' hi k (w.yields i H x H' hi (hG H k) y) fun H4 k4 => ⟨rfl, k4⟩
/-- a list comprehension -/
theorem g_lc (w : Walk J n G Y) (hn : n ≤ 1000) (hG : ∀ H, Kp H1 H → G H) (Rl : Nat → List V → Hp → Prop) (h0 : ∀ D, H1 D = none → Rl 0 [] (upd H1 D (.lst [])))
    (hm : ∀ i acc H D xs ys, H D = some (.lst xs) → Rl i acc H → Rl i acc (upd H D (.lst ys)))
    (body : ∀ (Rt : VK) (Rf : Hp → Prop) i acc x H H', i < n → Kp H1 H → Rl i acc H → Y i H x H' → (∀ y H4, Kp H H4 → Rl (i + 1) (acc ++ [y]) H4 → Rt y H4) → (∀ H4, Kp H H4 → Rl (i + 1) acc H4 → Rf H4) →
      g x (wipe σ vs) H' fun σ2 H2 => wipe σ2 vs = wipe σ vs ∧ tt σ2 H2 fun b H3 => if b = true then te σ2 H3 Rt else Rf H3)
    (q : ∀ D H acc, H1 D = none → Kp H1 H → H D = some (.lst acc) → acc.length ≤ n → Rl n acc H → Q (.ref D) H) :
    LcGo g tt te vs σ Q J H1 := by
  intro D nD
  refine lc_it w (Qd := fun H => Q (.ref D) H) (fun i H => Kp H1 H ∧ ∃ acc, H D = some (.lst acc) ∧ acc.length ≤ i ∧ Rl i acc H) ⟨Kp.new nD, [], upd_same, Nat.le_refl _, h0 D nD⟩ (fun i H _ p => hG H p.1) (fun i x H H' hi p y => ?_) fun H ⟨k, acc, hd, hl, r⟩ => q D H acc nD k hd hl r
  obtain ⟨k, acc, hd, hl, r⟩ := p
  refine body _ _ i acc x H H' hi k r y (fun y' H4 k4 r4 => ?_) fun H4 k4 r4 => ⟨k.trans k4, acc, k4.get hd, by omega, r4⟩
  have hd4 := k4.get hd
  refine ⟨acc, hd4, Nat.lt_of_le_of_lt (show acc.length ≤ 1000 by omega) (by rw [sizeLine_eq]; omega), (k.trans k4).mutL nD hd4, acc ++ [y'], upd_same, by rw [List.length_append, List.length_singleton]; omega, hm _ _ _ _ _ _ hd4 r4⟩
/-- what a list of ints holds; a list of tuples -/
def RI (F : Nat → List Int) : Nat → List V → Hp → Prop := fun i acc _ => acc = (F i).map V.int
def RT (F : Nat → List (List Int)) : Nat → List V → Hp → Prop := fun i acc H => ∃ L : LP, acc = refs L ∧ Its H L ∧ L.map (·.2) = F i
theorem RT.upd {F : Nat → List (List Int)} {i : Nat} {acc : List V} {H : Hp} {D : Addr} {xs ys : List V} (h : H D = some (.lst xs)) (r : RT F i acc H) : RT F i acc (upd H D (.lst ys)) := by
  obtain ⟨L, e, t, z⟩ := r
  refine ⟨L, e, fun q hq => ?_, z⟩
  rw [upd_ne (fun e => by have := t q hq; rw [e, h] at this; cases this)]
  exact t q hq
/-- a list comprehension of ints, none left out -/
theorem g_lcI (w : Walk J n G Y) (hn : n ≤ 1000) (hG : ∀ H, Kp H1 H → G H) (F : Nat → Int)
    (body : ∀ (Rt : VK) i x H H', i < n → Kp H1 H → Y i H x H' → (∀ H4, Kp H H4 → Rt (.int (F i)) H4) → g x (wipe σ vs) H' fun σ2 H2 => wipe σ2 vs = wipe σ vs ∧ te σ2 H2 Rt)
    (q : ∀ D H, H1 D = none → Kp H1 H → H D = some (.lst (((List.range n).map F).map V.int)) → Q (.ref D) H) :
    LcGo g tYes te vs σ Q J H1 := by
  refine g_lc (tt := tYes) w hn hG (RI fun i => (List.range i).map F) (fun _ _ => rfl) (fun _ _ _ _ _ _ _ r => r) (fun Rt Rf i acc x H H' hi k r y ht hf => ?_) fun D H acc nD k hd _ r => q D H nD k (by rw [hd, r])
  refine body Rt i x H H' hi k y fun H4 k4 => ht _ H4 k4 ?_
  show acc ++ [V.int (F i)] = ((List.range (i + 1)).map F).map V.int
  have r' : acc = ((List.range i).map F).map V.int := r
  rw [r', List.range_succ, List.map_append, List.map_append]
  rfl
/-- a for -/
theorem g_for {D : Ends} {tb : TS} (w : Walk J n G Y) (Pv : Nat → L2.St → Hp → Prop) (h0 : Pv 0 σ H1) (hG : ∀ i σ H, i ≤ n → Pv i σ H → G H)
    (hs : ∀ i x σ H H', i < n → Pv i σ H → Y i H x H' → g x σ H' fun σ2 H2 => tb { D with nx := Pv (i + 1), ct := Pv (i + 1), bk := D.nx } σ2 H2) (hd : ∀ σ H, Pv n σ H → D.nx σ H) : ForGo g tb D σ J H1 := for_it w Pv h0 hG hs hd
end
/-! ### dicts whose keys are tuples of ints -/
def tblV (G : List (List Int)) (f : List Int → V) : List (List L2.Key × V) := G.map fun g => (kI g, f g)
theorem hu3 {k : Nat} {A : Around} (r : Room k A) : A.units + 3 < cLine := by have := r.un; omega
theorem hu0 {k : Nat} {A : Around} (r : Room k A) : A.units < cLine := by have := r.un; omega
theorem kI_kV (g : List Int) : (kI g).map kV = g.map V.int := by
  unfold kI
  rw [List.map_map]
  rfl
theorem tblV_get {G : List (List Int)} {f : List Int → V} {g : List Int} (h : g ∈ G) : valV (tblV G f) (kI g) = some (f g) := by
  induction G with
  | nil => exact absurd h (by simp)
  | cons x G ih =>
    unfold tblV
    rw [List.map_cons]
    by_cases e : x = g
    · rw [valV_pos (by rw [e])]
      rw [e]
    · rw [valV_neg (fun z => e (kI_inj z))]
      rcases List.mem_cons.mp h with m | m
      · exact absurd m.symm e
      · exact ih m
theorem tblV_put {G : List (List Int)} {f : List Int → V} {g : List Int} (h : g ∉ G) : putK (tblV G f) (kI g) (f g) = tblV (G ++ [g]) f := by
  unfold putK
  rw [if_neg]
  · unfold tblV
    rw [List.map_append]
    rfl
  · intro z
    unfold tblV at z
    rw [List.any_map, List.any_eq_true] at z
    obtain ⟨x, hx, e⟩ := z
    have := kI_inj (of_decide_eq_true e)
    exact h (this ▸ hx)
theorem tblV_len (G : List (List Int)) (f : List Int → V) : (tblV G f).length = G.length := List.length_map _
theorem dget_t {H : Hp} {a b : Addr} {G : List (List Int)} {f : List Int → V} {g : List Int} (h : H a = some (.dT (tblV G f))) (hb : H b = some (iv g)) (m : g ∈ G) : DGet H a (.ref b) (some (f g)) := by
  rw [← tblV_get (f := f) m]
  exact DGet.t h (by rw [kI_kV]; exact hb)
theorem dput_t {H : Hp} {a b : Addr} {G : List (List Int)} {f : List Int → V} {g : List Int} (h : H a = some (.dT (tblV G f))) (hb : H b = some (iv g)) (m : g ∉ G) (hl : G.length ≤ 1000) : DPut H a (.ref b) (f g) (upd H a (.dT (tblV (G ++ [g]) f))) := by
  rw [← tblV_put m]
  exact DPut.t h (by rw [kI_kV]; exact hb) (small1000 (by rw [tblV_len]; exact hl))
/-! ### readings -/
section
variable {σ : L2.St} {H : Hp} {Q : VK} {wi : TI} {g : TG} {tt : TT} {te ta tb : TE} {vs : List Nat} {P : Addr} {D : Ends} {t : TA} {R : It → Hp → Prop}
theorem rd_allG (q : wi σ H fun J H1 => AllGo P g te vs σ Q J H1) : tAllG P wi g te vs σ H Q := q
theorem rd_anyG (q : wi σ H fun J H1 => AnyGo P g te vs σ Q J H1) : tAnyG P wi g te vs σ H Q := q
theorem rd_sumG (q : wi σ H fun J H1 => SumGo P g te vs σ Q J H1) : tSumG P wi g te vs σ H Q := q
theorem rd_lc (q : wi σ H fun J H1 => LcGo g tt te vs σ Q J H1) : tLc wi g tt te vs σ H Q := q
theorem rd_forG {tbd : TS} (q : wi σ H fun J H1 => ForGo g tbd D σ J H1) : tFor wi g tbd D σ H := q
theorem rd_yes {QT : Bool → Hp → Prop} (q : QT true H) : tYes σ H QT := q
theorem rd_neI {i j : Int} {b : Bool} (h : decide (i = j) = !b) (q : Q (.bl b) H) : rNe (.int i) (.int j) H Q := ⟨rfl, by
  have e : (!decide (V.int i = V.int j)) = b := by rw [show decide (V.int i = V.int j) = decide (i = j) by by_cases e : i = j <;> simp [e], h, Bool.not_not]
  rw [e]; exact q⟩
theorem rd_eqI {i j : Int} {b : Bool} (h : decide (i = j) = b) (q : Q (.bl b) H) : rEq (.int i) (.int j) H Q := ⟨rfl, by
  have e : decide (V.int i = V.int j) = b := by rw [show decide (V.int i = V.int j) = decide (i = j) by by_cases e : i = j <;> simp [e], h]
  rw [e]; exact q⟩
theorem rd_un {r : V → Hp → VK → Prop} (q : ta σ H fun x H1 => r x H1 Q) : tUn r ta σ H Q := q
theorem rd_app {l : Addr} {xs : List V} {y : V} (h : H l = some (.lst xs)) (hl : xs.length ≤ 1000) (q : Q .non (upd H l (.lst (xs ++ [y])))) : rAppend (.ref l) [y] H Q := ⟨l, xs, y, rfl, rfl, h, small1000 hl, q⟩
theorem rd_part {QO : Option Int → Hp → Prop} (q : ta σ H fun x H1 => ∃ i, x = .int i ∧ QO (some i) H1) : tPart ta σ H QO := q
theorem rd_nopart {QO : Option Int → Hp → Prop} (q : QO none H) : tNoPart σ H QO := q
theorem rd_rng2 (q : t σ H fun ws H1 => ∃ i j : Int, ws = [.int i, .int j] ∧ (-(2 ^ 62) ≤ i ∧ i < 2 ^ 62 ∧ -(2 ^ 62) ≤ j ∧ j < 2 ^ 62) ∧ R (Itr i (j - i).toNat) H1) : iRng2 t σ H R := q
theorem rd_rng3 (q : t σ H fun ws H1 => ∃ (i j c : Int) (n : Nat), ws = [.int i, .int j, .int c] ∧ RgC i j c n ∧ R (Itc i c n) H1) : iRng3 t σ H R := q
theorem rd_gsub {ti : TE} {ts : TSet} {v : V} {QS : L2.St → Hp → Prop} (q : ta σ H fun o H1 => ti σ H1 fun i H2 => ts o i v H2 fun H3 => QS σ H3) : gSub ta ti ts v σ H QS := q
theorem rd_dcT {tk tv : TE} (q : wi σ H fun J H1 => DcGo g tk tv vs σ Q J H1) : tDcT wi g tk tv vs σ H Q := q
theorem rd_next (q : D.nx σ H) : tNext D σ H := q
theorem rd_break (q : D.bk σ H) : tBreak D σ H := q
theorem rd_rng1 (q : t σ H fun ws H1 => ∃ j : Int, ws = [.int j] ∧ -(2 ^ 62) ≤ j ∧ j < 2 ^ 62 ∧ R (Itr 0 j.toNat) H1) : iRng1 t σ H R := q
theorem rd_dget (q : ta σ H fun x H1 => tb σ H1 fun y H2 => ∃ a v, x = .ref a ∧ DGet H2 a y (some v) ∧ Q v H2) : tDGet ta tb σ H Q := q
theorem rd_dnew (q : ∀ p, H p = none → Q (.ref p) (upd H p (.dT []))) : tDNewT σ H Q := q
theorem rd_star {K : PySem.W.Frag} {QL : List V → Hp → Prop} (q : te σ H fun x H1 => ∃ p xs, x = V.ref p ∧ (SqT K H1 p xs ∨ SqL K H1 p xs) ∧ t σ H1 fun ys H2 => QL (xs ++ ys) H2) : StX.tStar K te t σ H QL := q
theorem rd_len {K : PySem.W.Frag} {p : Addr} {ys : List V} (h : SqL K H p ys ∨ SqT K H p ys) (q : Q (.int ys.length) H) : rLenS K [.ref p] H Q := ⟨p, ys, rfl, h, q⟩
theorem rd_tupOfL {K : PySem.W.Frag} {p : Addr} {ys : List V} (h : H p = some (.lst ys)) (q : ∀ l, H l = none → Q (.ref l) (upd H l (.tup ys))) : rTupOf K [.ref p] H Q := ⟨p, ys, rfl, .inl ⟨SqL.of h, q⟩⟩
theorem rd_sl {r : V → Option Int → Option Int → Hp → VK → Prop} {tl th : TO} (q : ta σ H fun x H1 => tl σ H1 fun l H2 => th σ H2 fun u H3 => r x l u H3 Q) : tSl r ta tl th σ H Q := q
theorem rd_dput {tv : TE} (q : tv σ H fun v H1 => ta σ H1 fun x H2 => tb σ H2 fun y H3 => ∃ a H4, x = .ref a ∧ DPut H3 a y v H4 ∧ D.nx σ H4) : sDPut ta tb tv D σ H := q
theorem rd_bm {K : PySem.W.Frag} {T : String} {r : V → List V → Hp → VK → Prop} (q : ta σ H fun x H1 => tyV K T x H1 ∧ t σ H1 fun xs H2 => r x xs H2 Q) : tBM K T r ta t σ H Q := q
theorem rd_par {i j : Nat} (q : t σ H fun vs H1 => ∃ v w, vs = [v, w] ∧ D.nx ((σ.set i (some v)).set j (some w)) H1) : tPar i j t D σ H := q
theorem rd_par3 {i j l : Nat} (q : t σ H fun vs H1 => ∃ u v w, vs = [u, v, w] ∧ D.nx (((σ.set i (some u)).set j (some v)).set l (some w)) H1) : tPar3 i j l t D σ H := q
theorem rd_gtup {K : PySem.W.Frag} {n : Nat} {tg : TGs} {a : Addr} {xs : List V} {QS : L2.St → Hp → Prop} (h : SqT K H a xs) (hl : xs.length = n) (q : tg xs σ H QS) : gTup K n tg (.ref a) σ H QS := ⟨a, xs, rfl, h, hl, q⟩
end
end Fo
set_option maxHeartbeats 2000000
/-! FoB: are_foes, is_lot, is_gathering, need_web, need_gathering. -/
namespace Fo
open PySem PySem.Spec PyProof.Rows L2 GxR
local macro_rules | `(tactic| walk_at "hp") => `(tactic| first
  | assumption
  | exact upd_same
  | (refine' upd_old ?n ?h; (case n => assumption); (case h => walk_at "hp"))
  | (refine' Kp.get ?k ?h rfl; (case k => assumption); (case h => walk_at "hp")))
local macro_rules | `(tactic| walk_at "kp") => `(tactic| first
  | exact Kp.refl _
  | assumption
  | exact Kp.new (by assumption)
  | (refine' Kp.trans ?a ?b; (case b => first | assumption | exact Kp.new (by assumption)); (case a => walk_at "kp")))
local macro_rules | `(tactic| walk_at "rd") => `(tactic| first
  | ((with_reducible show tVar _ _ _ _); refine ⟨_, rfl, ?_⟩)
  | ((with_reducible show tC _ _ _ _); refine rd_c ?_)
  | ((with_reducible show tSeq _ _ _ _ _); refine rd_seq ?_)
  | ((with_reducible show tAsg _ _ _ _ _); refine rd_asg ?_)
  | ((with_reducible show gName _ _ _ _ _); refine rd_name ?_)
  | ((with_reducible show tRet _ _ _ _); refine rd_ret ?_)
  | ((with_reducible show tOp _ _ _ _ _ _); refine rd_op ?_)
  | ((with_reducible show tCons _ _ _ _ _); refine rd_cons ?_)
  | ((with_reducible show tNil _ _ _); refine rd_nil ?_)
  | ((with_reducible show tCal _ _ _ _ _); refine rd_cal ?_)
  | ((with_reducible show tCB _ _ _ _ _); refine rd_cb ?_)
  | ((with_reducible show tTest _ _ _ _); refine rd_test ?_)
  | ((with_reducible show tB _ _ _ _); refine rd_B ?_)
  | ((with_reducible show tNot _ _ _ _); refine rd_not ?_)
  | ((with_reducible show tAnd _ _ _ _ _); refine rd_and ?_)
  | ((with_reducible show tOr _ _ _ _ _); refine rd_or ?_)
  | ((with_reducible show tAndV _ _ _ _ _); refine rd_andV ?_)
  | ((with_reducible show tNotV _ _ _ _); refine rd_notV ?_)
  | ((with_reducible show tChain _ _ _ _ _ _ _ _); refine rd_chain ?_)
  | ((with_reducible show tIfS _ _ _ _ _ _); refine rd_ifs ?_)
  | ((with_reducible show tDrop _ _ _ _); refine rd_drop ?_)
  | ((with_reducible show tFor _ _ _ _ _ _); refine rd_forG ?_)
  | ((with_reducible show iTup _ _ _ _ _); refine rd_itup ?_)
  | ((with_reducible show iList _ _ _ _ _); refine rd_ilist ?_)
  | ((with_reducible show rI0 _ _ _ _ _); refine ⟨_, _, rfl, rfl, ?_⟩)
  | ((with_reducible show rAdd _ _ _ _); refine ⟨_, _, rfl, rfl, ?_⟩)
  | ((with_reducible show rSub _ _ _ _); refine ⟨_, _, rfl, rfl, ?_⟩)
  | ((with_reducible show rIxT _ _ _ _ _); refine' rd_ix ?h ?a ?_; (case h => walk_at "hp"); (case a => first | rfl | assumption))
  | ((with_reducible show rIxL _ _ _ _ _); refine' rd_ixL ?h ?a ?_; (case h => walk_at "hp"); (case a => first | rfl | assumption))
  | ((with_reducible show tTup _ _ _ _); refine rd_tup ?_)
  | ((with_reducible show tLst _ _ _ _); refine rd_lst ?_)
  | ((with_reducible show tAllG _ _ _ _ _ _ _ _); refine rd_allG ?_)
  | ((with_reducible show tAnyG _ _ _ _ _ _ _ _); refine rd_anyG ?_)
  | ((with_reducible show tSumG _ _ _ _ _ _ _ _); refine rd_sumG ?_)
  | ((with_reducible show tLc _ _ _ _ _ _ _ _); refine rd_lc ?_)
  | ((with_reducible show tNext _ _ _); refine rd_next ?_)
  | ((with_reducible show tBreak _ _ _); refine rd_break ?_)
  | ((with_reducible show tDGet _ _ _ _ _); refine rd_dget ?_)
  | ((with_reducible show tDNewT _ _ _); refine rd_dnew ?_)
  | ((with_reducible show StX.tStar _ _ _ _ _ _); refine rd_star ?_)
  | ((with_reducible show tSl _ _ _ _ _ _ _); refine rd_sl ?_)
  | ((with_reducible show sDPut _ _ _ _ _ _); refine rd_dput ?_)
  | ((with_reducible show tBM _ _ _ _ _ _ _ _); refine rd_bm ?_)
  | ((with_reducible show tPar _ _ _ _ _ _); refine rd_par ?_)
  | ((with_reducible show tPar3 _ _ _ _ _ _ _); refine rd_par3 ?_)
  | ((with_reducible show iRng1 _ _ _ _); refine rd_rng1 ?_)
  | ((with_reducible show tUn _ _ _ _ _); refine rd_un ?_)
  | ((with_reducible show rU _ _ _ _); refine ⟨_, rfl, ?_⟩)
  | ((with_reducible show tPart _ _ _ _); refine rd_part ?_)
  | ((with_reducible show tNoPart _ _ _); refine rd_nopart ?_)
  | ((with_reducible show iRng2 _ _ _ _); refine rd_rng2 ?_)
  | ((with_reducible show iRng3 _ _ _ _); refine rd_rng3 ?_)
  | ((with_reducible show gSub _ _ _ _ _ _ _); refine rd_gsub ?_)
  | ((with_reducible show tDcT _ _ _ _ _ _ _ _); refine rd_dcT ?_)
  | ((with_reducible show tYes _ _ _); refine rd_yes ?_)
  | ((with_reducible show rLenS _ _ _ _); refine' rd_len ?h ?_; (case h => first | (refine' Or.inr (SqT.of ?z); (case z => walk_at "hp")) | (refine' Or.inl (SqL.of ?z); (case z => walk_at "hp"))))
  | ((with_reducible show gTup _ _ _ _ _ _ _); refine' rd_gtup ?h ?l ?_; (case h => refine' SqT.of ?z; (case z => walk_at "hp")); (case l => rfl))
  | ((with_reducible show gCons _ _ _ _ _ _); refine ⟨_, _, rfl, ?_⟩)
  | ((with_reducible show gNil _ _ _ _); refine ⟨rfl, ?_⟩))

/-! ### data -/
abbrev pI (xs : List Int) : PyData := .tuple (xs.map .int)
theorem ints_lay : ∀ xs : List Int, PyData.canLayAll0 (xs.map PyData.int) = true
  | [] => by simp [PyData.canLayAll0]
  | x :: xs => by simp [PyData.canLayAll0, PyData.canLay0, ints_lay xs]
theorem ints_depth : ∀ xs : List Int, PyData.depthAll (xs.map PyData.int) = 0
  | [] => by simp [PyData.depthAll]
  | x :: xs => by simp [PyData.depthAll, PyData.depth, ints_depth xs]
theorem pI_depth (xs : List Int) : (pI xs).depth = 1 := by simp [PyData.depth, ints_depth]
theorem pI_shaped (xs : List Int) : SeqAt.shaped (pI xs) = true := by
  have h1 : (pI xs).canLay0 = true := by simp [PyData.canLay0, ints_lay]
  have h2 := pI_depth xs
  unfold SeqAt.shaped
  rw [h1, h2]
  decide
theorem pIs_lay : ∀ xs : List (List Int), PyData.canLayAll0 (xs.map pI) = true
  | [] => by simp [PyData.canLayAll0]
  | x :: xs => by simp [PyData.canLayAll0, PyData.canLay0, ints_lay, pIs_lay xs]
theorem pIs_depth : ∀ xs : List (List Int), PyData.depthAll (xs.map pI) ≤ 1
  | [] => by simp [PyData.depthAll]
  | x :: xs => by
    have := pIs_depth xs
    have h := pI_depth x
    rw [List.map_cons, PyData.depthAll, h]
    omega
theorem pIs_shapedT (xs : List (List Int)) : SeqAt.shaped (.tuple (xs.map pI)) = true := by
  have h1 : (PyData.tuple (xs.map pI)).canLay0 = true := by simp [PyData.canLay0, pIs_lay]
  have h2 : (PyData.tuple (xs.map pI)).depth ≤ 64 := by
    have := pIs_depth xs
    rw [PyData.depth]
    omega
  unfold SeqAt.shaped
  rw [h1, decide_eq_true h2]
  rfl
theorem pIs_shapedL (xs : List (List Int)) : SeqAt.shaped (.list (xs.map pI)) = true := by
  have h1 : (PyData.list (xs.map pI)).canLay0 = true := by simp [PyData.canLay0, pIs_lay]
  have h2 : (PyData.list (xs.map pI)).depth ≤ 64 := by
    have := pIs_depth xs
    rw [PyData.depth]
    omega
  unfold SeqAt.shaped
  rw [h1, decide_eq_true h2]
  rfl
theorem dpAll_ints {K : PySem.W.Frag} {H : Hp} : ∀ xs : List Int, DpAll K H (xs.map V.int) (xs.map PyData.int)
  | [] => .nil
  | x :: xs => .cons (.int x) (dpAll_ints xs)
theorem dp_ints {K : PySem.W.Frag} {H : Hp} {a : Addr} {xs : List Int} (h : H a = some (iv xs)) : Dp K H (.ref a) (pI xs) := .tup (SqT.of h) (dpAll_ints xs)
theorem dpAll_refs {K : PySem.W.Frag} {H : Hp} : ∀ {L : LP}, Its H L → DpAll K H (refs L) ((L.map (·.2)).map pI)
  | [], _ => .nil
  | q :: L, h => .cons (dp_ints (h q List.mem_cons_self)) (dpAll_refs fun r hr => h r (List.mem_cons_of_mem _ hr))
theorem eqvAll_ints : ∀ xs ys : List Int, PyData.eqvAll (xs.map PyData.int) (ys.map PyData.int) = decide (xs = ys)
  | [], [] => by simp [PyData.eqvAll]
  | [], y :: ys => by simp [PyData.eqvAll]
  | x :: xs, [] => by simp [PyData.eqvAll]
  | x :: xs, y :: ys => by
    rw [List.map_cons, List.map_cons, PyData.eqvAll, eqvAll_ints xs ys, PyData.eqv]
    by_cases e : x = y
    · subst e
      simp
    · simp [e]
theorem eqv_pI (xs ys : List Int) : PyData.eqv (pI xs) (pI ys) = decide (xs = ys) := by
  rw [PyData.eqv]
  exact eqvAll_ints xs ys
theorem foe_any (ps : List (Int × Int)) (i j : Int) : ((prs ps).map pI).any (fun z => PyData.eqv z (pI [if j < i then j else i, if j > i then j else i])) = foe ps i j := by
  unfold foe
  rw [List.map_map, List.any_map]
  congr 1
  funext p
  simp only [Function.comp]
  rw [eqv_pI]
  generalize (if j < i then j else i) = x
  generalize (if j > i then j else i) = y
  by_cases e1 : p.1 = x <;> by_cases e2 : p.2 = y <;> simp [e1, e2]
theorem flat_ints : ∀ xs : List Int, (xs.map V.int).all flatV = true
  | [] => rfl
  | x :: xs => by rw [List.map_cons, List.all_cons, flat_ints xs]; rfl
theorem inV_ints (i : Int) : ∀ xs : List Int, inV (.int i) (xs.map V.int) = decide (i ∈ xs)
  | [] => by simp [inV]
  | x :: xs => by
    have ih := inV_ints i xs
    unfold inV at ih ⊢
    rw [List.map_cons, List.any_cons, ih]
    by_cases e : x = i
    · subst e
      simp [eqV]
    · have e' : ¬ i = x := fun z => e z.symm
      simp [eqV, e, e']
section
variable {P : Program} {w : World} {K : PySem.W.Frag} {mg : Str → Option Value} {base : Heap}
/-! ### are_foes -/
abbrev s_are_foes : Stmt := topS 12
abbrev N_are_foes : List Str := ["web", "one", "other"]
abbrev P_are_foes : List Str := ["web", "one", "other"]
theorem sc_are_foes : FnScope N_are_foes P_are_foes (defScope s_are_foes) := ⟨rfl, rfl, rfl, by decide +kernel, rfl, by decide +kernel, by decide +kernel⟩
def sp_are_foes : Sp := fun vs H Q _ => ∃ (a : Addr) (n : Nat) (ps : List (Int × Int)) (i j : Int), vs = [.ref a, .int i, .int j] ∧ Web H a n ps ∧ ∀ H', Kp H H' → Q (.bl (foe ps i j)) H'
theorem ok_are_foes {f : Addr} {fd : FuncData} (F : Fun K "are_foes" "are_foes" s_are_foes f fd) (nm : Nm mg) : FnOk P w K mg base CX0 1 f fd P_are_foes sp_are_foes := by
  refine F.ok sc_are_foes (fun vs H Q E h => ?_) (fun cdv A outer s H vs Q E hr h => ?_)
  · obtain ⟨a, n, ps, i, j, rfl, _⟩ := h
    rfl
  · obtain ⟨a, n, ps, i, j, rfl, ⟨b, L, w1, w2, w3, w4⟩, q⟩ := h
    refine ⟨_, (pss_one (ps_ret (pe_cmpR (k_inU (K := K) (hu_of hr)) (pe_tup (pa_cons (pe_callB (call_min2 rfl) (by rfl) nm.m_min (by decide +kernel) (pa_cons (pv 1) (pa_cons (pv 2) pa_nil))) (pa_cons (pe_callB (call_max2 rfl) (by rfl) nm.m_max (by decide +kernel) (pa_cons (pv 1) (pa_cons (pv 2) pa_nil))) pa_nil))) (pe_ix (k_ixT (K := K)) (pv 0) pe_int (fun _ _ => rfl)) (by rfl)))), ?_⟩
    repeat walk_at "rd"
    refine ⟨_, _, rfl, ?_⟩
    repeat walk_at "rd"
    refine ⟨_, _, rfl, ?_⟩
    repeat walk_at "rd"
    refine ⟨sz (show (2:Nat) ≤ 1000 by decide), fun p np => ?_⟩
    repeat walk_at "rd"
    have k1 : Kp H (upd H p (.tup [V.int (if j < i then j else i), V.int (if j > i then j else i)])) := Kp.new np
    refine ⟨_, _, dp_ints (xs := [if j < i then j else i, if j > i then j else i]) upd_same, .tup (SqT.of (by walk_at "hp")) (dpAll_refs (w4.kp k1)), pI_shaped _, pIs_shapedT _, ?_⟩
    rw [w3, foe_any]
    exact q _ k1
/-! ### is_lot -/
abbrev s_is_lot : Stmt := topS 13
abbrev N_is_lot : List Str := ["web", "value", "k", "one"]
abbrev P_is_lot : List Str := ["web", "value"]
theorem sc_is_lot : FnScope N_is_lot P_is_lot (defScope s_is_lot) := ⟨rfl, rfl, rfl, by decide +kernel, rfl, by decide +kernel, by decide +kernel⟩
def sp_is_lot (T : List Addr) : Sp := fun vs H Q _ => ∃ (a b : Addr) (n : Nat) (ps : List (Int × Int)) (xs : List Int), vs = [.ref a, .ref b] ∧ Tb T H ∧ Web H a n ps ∧ H b = some (iv xs) ∧ Lot n xs ∧ xs.length ≤ 1000 ∧ ∀ H', Kp H H' → Q (.bl true) H'
theorem ok_is_lot {f c Pt : Addr} {fd : FuncData} {T : List Addr} (F : FunT K "is_lot" "is_lot" s_is_lot f fd c) (nm : Nm mg) (TB : LamX.TabB base mg c Pt) (hT : Pt ∈ T) (C_is_in : Cal P w K mg base "is_in" 1 P_is_in sp_is_in) : FnOk P w K mg base CX0 3 f fd P_is_lot (sp_is_lot T) := by
  refine F.ok sc_is_lot (fun vs H Q E h => ?_) (fun A outer s H vs Q E hr h => ?_)
  · obtain ⟨a, b, n, ps, xs, rfl, _⟩ := h
    rfl
  · obtain ⟨a, b, n, ps, xs, rfl, tb, ⟨b', L, w1, w2, w3, w4⟩, hb, ⟨hx, hasc⟩, hlen, q⟩ := h
    have hcode : (cxOf CX0 P w K mg base N_is_lot "is_lot" (defScope s_is_lot) f (.ref c) A outer s H E).nox.env.code = .ref c := rfl
    refine ⟨_, (pss_cons (ps_if (PW.pt (pw_or (pt_not (pt_val (pe_callB (k_isi (K := K)) (by rfl) nm.m_isinstance (by decide +kernel) (pa_cons (pv 1) (pa_cons (pe_ty "tuple" (by rfl) nm.m_tuple (by decide +kernel)) pa_nil))))) (pw_or1 (pt_not (pt_val (pe_allG (k := 1) (own := [("one", 3)]) (hr.mono (by decide)) rfl sc_is_lot.nd (by rfl) nm.m_all TB hcode (gok_by (N := N_is_lot) (sc := defScope s_is_lot) (own := [("one", 3)]) (by decide +kernel) rfl (by decide +kernel) rfl) (k_piT (K := K) (pv 1)) (fun _ _ _ _ _ _ _ hR => (pg_name (i := 3) sc_is_lot.nd rfl (Or.inl rfl))) (fun _ _ _ _ _ _ _ hR => (pe_cal C_is_in (hR.mono (by decide)) (by rfl) (pa_cons (pv 3) (pa_cons pe_int (pa_cons (pe_op op_sub (pe_ix (k_ixT (K := K)) (pv 0) pe_int (fun _ _ => rfl)) pe_int) pa_nil)))))))))))
        (pss_one (ps_ret pe_bl))
        pss_nil)
      (pss_one (ps_ret (pe_allG (k := 0) (own := [("k", 2)]) (hr.mono (by decide)) rfl sc_is_lot.nd (by rfl) nm.m_all TB hcode (gok_by (N := N_is_lot) (sc := defScope s_is_lot) (own := [("k", 2)]) (by decide +kernel) rfl (by decide +kernel) rfl) (pi_range1 (by rfl) nm.m_range (pa_cons (pe_op op_sub (pe_callB (k_len (K := K)) (by rfl) nm.m_len (by decide +kernel) (pa_cons (pv 1) pa_nil)) pe_int) pa_nil)) (fun _ _ _ _ _ _ _ hR => (pg_name (i := 2) sc_is_lot.nd rfl (Or.inl rfl))) (fun _ _ _ _ _ _ _ hR => (pe_cmpR op_lt (pe_ix (k_ixT (K := K)) (pv 1) (pv 2) (fun _ _ => rfl)) (pe_ix (k_ixT (K := K)) (pv 1) (pe_op op_add (pv 2) pe_int) (fun _ _ => rfl)) (nomark _))))))), ?_⟩
    repeat walk_at "rd"
    refine rd_isi (ty_tup hb) (b := true) (by decide +kernel) ⟨_, rfl, ?_⟩
    refine no rfl ?_
    repeat walk_at "rd"
    refine ⟨_, rfl, ⟨_, SqT.of hb⟩, ?_⟩
    refine g_all walk_tup (tb _ hT) (fun H' k => SqT.of (k.get hb)) (fun R i x H1 H' hi k y hR => ?_) (fun H1 k => ?_)
    · obtain ⟨rfl, hx'⟩ := y
      obtain ⟨x', e1, rfl⟩ := ints_get hx'
      have m := List.mem_of_getElem? e1
      refine rd_name ⟨rfl, ?_⟩
      have ha : H' a = _ := k.get w1
      repeat walk_at "rd"
      refine ⟨x', 0, n - 1, rfl, ?_⟩
      rw [dt (hx _ m).1, dt (show x' ≤ (n:Int) - 1 by have := (hx _ m).2; omega)]
      exact hR _ k
    · refine ⟨true, rfl, ?_⟩
      refine no rfl ?_
      have hb1 : H1 b = _ := k.get hb
      repeat walk_at "rd"
      have hl : (xs.map V.int).length = xs.length := List.length_map _
      refine ⟨_, rfl, by rw [hl]; omega, by rw [hl]; omega, ?_⟩
      rw [hl]
      refine g_all walk_range (tb.kp k _ hT) (fun _ _ => trivial) (fun R i x H2 H' hi k2 y hR => ?_) (fun H2 k2 => q _ (k.trans k2))
      obtain ⟨rfl, rfl⟩ := y
      have h1 : i + 1 < xs.length := by omega
      have g1 : (xs.map V.int)[i]? = some (.int xs[i]) := by simp [show i < xs.length by omega]
      have g2 : (xs.map V.int)[i + 1]? = some (.int xs[i + 1]) := by simp [h1]
      have a1 : atI (xs.map V.int) (0 + (i : Int)) = some (.int xs[i]) := by rw [Int.zero_add]; exact atI_nat g1
      have a2 : atI (xs.map V.int) (0 + (i : Int) + 1) = some (.int xs[i + 1]) := by rw [Int.zero_add]; exact atI_nat g2
      refine rd_name ⟨rfl, ?_⟩
      have hb2 : H' b = _ := (k.trans k2).get hb
      repeat walk_at "rd"
      have lt : xs[i] < xs[i + 1] := List.pairwise_iff_getElem.mp hasc i (i + 1) (by omega) h1 (by omega)
      show R (.bl (decide (xs[i] < xs[i + 1]))) H'
      rw [dt lt]
      exact hR _ k2
/-! ### is_gathering -/
theorem prs_get {L : LP} {ps : List (Int × Int)} (h : L.map (·.2) = prs ps) {i : Nat} {v : V} (hv : (refs L)[i]? = some v) : ∃ a p, v = .ref a ∧ ps[i]? = some p ∧ (a, [p.1, p.2]) ∈ L ∧ L[i]? = some (a, [p.1, p.2]) := by
  obtain ⟨q, e1, e2, e3⟩ := refs_get hv
  have h1 : (L.map (·.2))[i]? = some q.2 := by rw [List.getElem?_map, e1]; rfl
  rw [h] at h1
  unfold prs at h1
  rw [List.getElem?_map] at h1
  cases hp : ps[i]? with
  | none => rw [hp] at h1; cases h1
  | some p =>
    rw [hp] at h1
    have e4 : [p.1, p.2] = q.2 := by simpa using h1
    refine ⟨q.1, p, e2, rfl, ?_, ?_⟩
    · rw [e4]; exact e3
    · rw [e4]; exact e1
theorem prs_len {L : LP} {ps : List (Int × Int)} (h : L.map (·.2) = prs ps) : (refs L).length = ps.length := by
  rw [refs_len]
  have := congrArg List.length h
  unfold prs at this
  rw [List.length_map, List.length_map] at this
  exact this
abbrev s_is_gathering : Stmt := topS 14
abbrev N_is_gathering : List Str := ["web", "value", "one", "other"]
abbrev P_is_gathering : List Str := ["web", "value"]
theorem sc_is_gathering : FnScope N_is_gathering P_is_gathering (defScope s_is_gathering) := ⟨rfl, rfl, rfl, by decide +kernel, rfl, by decide +kernel, by decide +kernel⟩
def sp_is_gathering (T : List Addr) : Sp := fun vs H Q _ => ∃ (a b : Addr) (n : Nat) (ps : List (Int × Int)) (xs : List Int), vs = [.ref a, .ref b] ∧ Tb T H ∧ Web H a n ps ∧ H b = some (iv xs) ∧ Lot n xs ∧ xs.length ≤ 1000 ∧ ∀ H', Kp H H' → Q (.bl (gok ps xs)) H'
theorem ok_is_gathering {f c Pt : Addr} {fd : FuncData} {T : List Addr} (F : FunT K "is_gathering" "is_gathering" s_is_gathering f fd c) (nm : Nm mg) (TB : LamX.TabB base mg c Pt) (hT : Pt ∈ T) (C_is_lot : Cal P w K mg base "is_lot" 3 P_is_lot (sp_is_lot T)) : FnOk P w K mg base CX0 5 f fd P_is_gathering (sp_is_gathering T) := by
  refine F.ok sc_is_gathering (fun vs H Q E h => ?_) (fun A outer s H vs Q E hr h => ?_)
  · obtain ⟨a, b, n, ps, xs, rfl, _⟩ := h
    rfl
  · obtain ⟨a, b, n, ps, xs, rfl, tb, ⟨b', L, w1, w2, w3, w4⟩, hb, lot, hlen, q⟩ := h
    have hcode : (cxOf CX0 P w K mg base N_is_gathering "is_gathering" (defScope s_is_gathering) f (.ref c) A outer s H E).nox.env.code = .ref c := rfl
    refine ⟨_, (pss_one (ps_ret (pe_and (pe_cal C_is_lot (hr.mono (by decide)) (by rfl) (pa_cons (pv 0) (pa_cons (pv 1) pa_nil))) (pe_one (pe_not (pe_anyG (k := 0) (own := [("one", 2), ("other", 3)]) (hr.mono (by decide)) rfl sc_is_gathering.nd (by rfl) nm.m_any TB hcode (gok_by (N := N_is_gathering) (sc := defScope s_is_gathering) (own := [("one", 2), ("other", 3)]) (by decide +kernel) rfl (by decide +kernel) rfl) (k_piT (K := K) (pe_ix (k_ixT (K := K)) (pv 0) pe_int (fun _ _ => rfl))) (fun _ _ _ _ _ _ _ hR => (k_pgT (K := K) (n := 2) rfl (pgs_cons (pg_name (i := 2) sc_is_gathering.nd rfl (Or.inl rfl)) (pgs_cons (pg_name (i := 3) sc_is_gathering.nd rfl (Or.inl rfl)) pgs_nil)))) (fun _ _ _ _ _ _ _ hR => (pe_and (pe_cmpR (k_in (K := K)) (pv 2) (pv 1) (by rfl)) (pe_one (pe_cmpR (k_in (K := K)) (pv 3) (pv 1) (by rfl))))))))))), ?_⟩
    repeat walk_at "rd"
    refine ⟨a, b, n, ps, xs, rfl, tb, ⟨b', L, w1, w2, w3, w4⟩, hb, lot, hlen, fun H1 k1 => ⟨_, rfl, yes rfl ?_⟩⟩
    have hb1 : H1 b = _ := k1.get hb
    have v1 : H1 a = _ := k1.get w1
    have v2 : H1 b' = _ := k1.get w2
    repeat walk_at "rd"
    refine ⟨_, rfl, ⟨_, SqT.of v2⟩, ?_⟩
    refine g_any walk_tup (tb.kp k1 _ hT) (fun H' k => SqT.of (k.get v2)) (fun i => match ps[i]? with | some p => decide (p.1 ∈ xs) && decide (p.2 ∈ xs) | none => false) (fun R i x H2 H' hi k y hR => ?_) (fun z hz H2 k => ?_)
    · obtain ⟨rfl, hx'⟩ := y
      obtain ⟨e, p, rfl, hp, m, _⟩ := prs_get w3 hx'
      rw [hp] at hR
      have he : H' e = some (iv [p.1, p.2]) := k.get (k1.get (w4 _ m))
      have hb2 : H' b = _ := k.get hb1
      repeat walk_at "rd"
      refine ⟨rfl, ?_⟩
      repeat walk_at "rd"
      refine ⟨b, xs.map V.int, rfl, .inr (SqT.of hb2), rfl, flat_ints xs, ⟨_, rfl, ?_⟩⟩
      simp only [Bool.false_eq_true, if_false]
      rw [inV_ints]
      by_cases m1 : p.1 ∈ xs
      · refine yes (dt m1) ?_
        repeat walk_at "rd"
        refine ⟨b, xs.map V.int, rfl, .inr (SqT.of hb2), rfl, flat_ints xs, ?_⟩
        simp only [Bool.false_eq_true, if_false]
        rw [inV_ints]
        have := hR H' k
        simp only [dt m1, Bool.true_and] at this
        exact this
      · refine no (df m1) ?_
        have := hR H' k
        simp only [df m1, Bool.false_and] at this
        exact this
    · refine ⟨z, rfl, ?_⟩
      have e : gok ps xs = !z := by
        unfold gok
        congr 1
        rw [Bool.eq_iff_iff, hz, List.any_eq_true]
        constructor
        · rintro ⟨p, hp, h⟩
          obtain ⟨i, hi, e⟩ := List.getElem_of_mem hp
          refine ⟨i, by rw [prs_len w3]; exact hi, ?_⟩
          rw [List.getElem?_eq_getElem hi, e]
          exact h
        · rintro ⟨i, hi, h⟩
          rw [prs_len w3] at hi
          rw [List.getElem?_eq_getElem hi] at h
          exact ⟨_, List.getElem_mem hi, h⟩
      rw [← e]
      exact q _ (k1.trans k)
end
end Fo
set_option maxHeartbeats 2000000
/-! FoC: need_web, need_gathering, came. -/
namespace Fo
open PySem PySem.Spec PyProof.Rows L2 GxR
local macro_rules | `(tactic| walk_at "hp") => `(tactic| first
  | assumption
  | exact upd_same
  | (refine' upd_old ?n ?h; (case n => assumption); (case h => walk_at "hp"))
  | (refine' Kp.get ?k ?h rfl; (case k => assumption); (case h => walk_at "hp")))
local macro_rules | `(tactic| walk_at "kp") => `(tactic| first
  | exact Kp.refl _
  | assumption
  | exact Kp.new (by assumption)
  | (refine' Kp.trans ?a ?b; (case b => first | assumption | exact Kp.new (by assumption)); (case a => walk_at "kp")))
local macro_rules | `(tactic| walk_at "rd") => `(tactic| first
  | ((with_reducible show tVar _ _ _ _); refine ⟨_, rfl, ?_⟩)
  | ((with_reducible show tC _ _ _ _); refine rd_c ?_)
  | ((with_reducible show tSeq _ _ _ _ _); refine rd_seq ?_)
  | ((with_reducible show tAsg _ _ _ _ _); refine rd_asg ?_)
  | ((with_reducible show gName _ _ _ _ _); refine rd_name ?_)
  | ((with_reducible show tRet _ _ _ _); refine rd_ret ?_)
  | ((with_reducible show tOp _ _ _ _ _ _); refine rd_op ?_)
  | ((with_reducible show tCons _ _ _ _ _); refine rd_cons ?_)
  | ((with_reducible show tNil _ _ _); refine rd_nil ?_)
  | ((with_reducible show tCal _ _ _ _ _); refine rd_cal ?_)
  | ((with_reducible show tCB _ _ _ _ _); refine rd_cb ?_)
  | ((with_reducible show tTest _ _ _ _); refine rd_test ?_)
  | ((with_reducible show tB _ _ _ _); refine rd_B ?_)
  | ((with_reducible show tNot _ _ _ _); refine rd_not ?_)
  | ((with_reducible show tAnd _ _ _ _ _); refine rd_and ?_)
  | ((with_reducible show tOr _ _ _ _ _); refine rd_or ?_)
  | ((with_reducible show tAndV _ _ _ _ _); refine rd_andV ?_)
  | ((with_reducible show tNotV _ _ _ _); refine rd_notV ?_)
  | ((with_reducible show tChain _ _ _ _ _ _ _ _); refine rd_chain ?_)
  | ((with_reducible show tIfS _ _ _ _ _ _); refine rd_ifs ?_)
  | ((with_reducible show tDrop _ _ _ _); refine rd_drop ?_)
  | ((with_reducible show tFor _ _ _ _ _ _); refine rd_forG ?_)
  | ((with_reducible show iTup _ _ _ _ _); refine rd_itup ?_)
  | ((with_reducible show iList _ _ _ _ _); refine rd_ilist ?_)
  | ((with_reducible show rI0 _ _ _ _ _); refine ⟨_, _, rfl, rfl, ?_⟩)
  | ((with_reducible show rAdd _ _ _ _); refine ⟨_, _, rfl, rfl, ?_⟩)
  | ((with_reducible show rSub _ _ _ _); refine ⟨_, _, rfl, rfl, ?_⟩)
  | ((with_reducible show rIxT _ _ _ _ _); refine' rd_ix ?h ?a ?_; (case h => walk_at "hp"); (case a => first | rfl | assumption))
  | ((with_reducible show rIxL _ _ _ _ _); refine' rd_ixL ?h ?a ?_; (case h => walk_at "hp"); (case a => first | rfl | assumption))
  | ((with_reducible show tTup _ _ _ _); refine rd_tup ?_)
  | ((with_reducible show tLst _ _ _ _); refine rd_lst ?_)
  | ((with_reducible show tAllG _ _ _ _ _ _ _ _); refine rd_allG ?_)
  | ((with_reducible show tAnyG _ _ _ _ _ _ _ _); refine rd_anyG ?_)
  | ((with_reducible show tSumG _ _ _ _ _ _ _ _); refine rd_sumG ?_)
  | ((with_reducible show tLc _ _ _ _ _ _ _ _); refine rd_lc ?_)
  | ((with_reducible show tNext _ _ _); refine rd_next ?_)
  | ((with_reducible show tBreak _ _ _); refine rd_break ?_)
  | ((with_reducible show tDGet _ _ _ _ _); refine rd_dget ?_)
  | ((with_reducible show tDNewT _ _ _); refine rd_dnew ?_)
  | ((with_reducible show StX.tStar _ _ _ _ _ _); refine rd_star ?_)
  | ((with_reducible show tSl _ _ _ _ _ _ _); refine rd_sl ?_)
  | ((with_reducible show sDPut _ _ _ _ _ _); refine rd_dput ?_)
  | ((with_reducible show tBM _ _ _ _ _ _ _ _); refine rd_bm ?_)
  | ((with_reducible show tPar _ _ _ _ _ _); refine rd_par ?_)
  | ((with_reducible show tPar3 _ _ _ _ _ _ _); refine rd_par3 ?_)
  | ((with_reducible show iRng1 _ _ _ _); refine rd_rng1 ?_)
  | ((with_reducible show tUn _ _ _ _ _); refine rd_un ?_)
  | ((with_reducible show rU _ _ _ _); refine ⟨_, rfl, ?_⟩)
  | ((with_reducible show tPart _ _ _ _); refine rd_part ?_)
  | ((with_reducible show tNoPart _ _ _); refine rd_nopart ?_)
  | ((with_reducible show iRng2 _ _ _ _); refine rd_rng2 ?_)
  | ((with_reducible show iRng3 _ _ _ _); refine rd_rng3 ?_)
  | ((with_reducible show gSub _ _ _ _ _ _ _); refine rd_gsub ?_)
  | ((with_reducible show tDcT _ _ _ _ _ _ _ _); refine rd_dcT ?_)
  | ((with_reducible show tYes _ _ _); refine rd_yes ?_)
  | ((with_reducible show rLenS _ _ _ _); refine' rd_len ?h ?_; (case h => first | (refine' Or.inr (SqT.of ?z); (case z => walk_at "hp")) | (refine' Or.inl (SqL.of ?z); (case z => walk_at "hp"))))
  | ((with_reducible show gTup _ _ _ _ _ _ _); refine' rd_gtup ?h ?l ?_; (case h => refine' SqT.of ?z; (case z => walk_at "hp")); (case l => rfl))
  | ((with_reducible show gCons _ _ _ _ _ _); refine ⟨_, _, rfl, ?_⟩)
  | ((with_reducible show gNil _ _ _ _); refine ⟨rfl, ?_⟩))

section
variable {P : Program} {w : World} {K : PySem.W.Frag} {mg : Str → Option Value} {base : Heap}
/-! ### need_web -/
abbrev s_need_web : Stmt := topS 11
abbrev N_need_web : List Str := ["web", "pair", "k"]
abbrev P_need_web : List Str := ["web"]
theorem sc_need_web : FnScope N_need_web P_need_web (defScope s_need_web) := ⟨rfl, rfl, rfl, by decide +kernel, rfl, by decide +kernel, by decide +kernel⟩
def sp_need_web (T : List Addr) : Sp := fun vs H Q _ => ∃ (a : Addr) (n : Nat) (ps : List (Int × Int)), vs = [.ref a] ∧ Tb T H ∧ Web H a n ps ∧ WebOk n ps ∧ ∀ H', Kp H H' → Q .non H'
theorem ok_need_web {f c Pt : Addr} {fd : FuncData} {T : List Addr} (F : FunT K "need_web" "need_web" s_need_web f fd c) (nm : Nm mg) (TB : LamX.TabB base mg c Pt) (hT : Pt ∈ T) (C_is_in : Cal P w K mg base "is_in" 1 P_is_in sp_is_in) : FnOk P w K mg base CX0 2 f fd P_need_web (sp_need_web T) := by
  refine F.ok sc_need_web (fun vs H Q E h => ?_) (fun A outer s H vs Q E hr h => ?_)
  · obtain ⟨a, n, ps, rfl, _⟩ := h
    rfl
  · obtain ⟨a, n, ps, rfl, tb, ⟨b, L, w1, w2, w3, w4⟩, ok, q⟩ := h
    have hcode : (cxOf CX0 P w K mg base N_need_web "need_web" (defScope s_need_web) f (.ref c) A outer s H E).nox.env.code = .ref c := rfl
    refine ⟨_, (pss_cons (ps_if (PW.pt (pw_or (pt_not (pt_val (pe_callB (k_isi (K := K)) (by rfl) nm.m_isinstance (by decide +kernel) (pa_cons (pv 0) (pa_cons (pe_ty "tuple" (by rfl) nm.m_tuple (by decide +kernel)) pa_nil))))) (pw_or (pt_cmpR op_ne (pe_callB (k_len (K := K)) (by rfl) nm.m_len (by decide +kernel) (pa_cons (pv 0) pa_nil)) pe_int (nomark _)) (pw_or1 (pt_not (pt_val (pe_cal C_is_in (hr.mono (by decide)) (by rfl) (pa_cons (pe_ix (k_ixT (K := K)) (pv 0) pe_int (fun _ _ => rfl)) (pa_cons pe_int (pa_cons (pe_cst (by rfl) nm.c_MOST_PEOPLE) pa_nil))))))))))
        (pss_one ps_never)
        pss_nil)
      (pss_cons (ps_if (pt_not (pt_val (pe_callB (k_isi (K := K)) (by rfl) nm.m_isinstance (by decide +kernel) (pa_cons (pe_ix (k_ixT (K := K)) (pv 0) pe_int (fun _ _ => rfl)) (pa_cons (pe_ty "tuple" (by rfl) nm.m_tuple (by decide +kernel)) pa_nil)))))
        (pss_one ps_never)
        pss_nil)
      (pss_cons (ps_for PassesOwn.never rfl (k_piT (K := K) (pe_ix (k_ixT (K := K)) (pv 0) pe_int (fun _ _ => rfl))) (pg_name (i := 1) sc_need_web.nd rfl (Or.inl rfl))
        (pss_cons (ps_if (PW.pt (pw_or (pt_not (pt_val (pe_callB (k_isi (K := K)) (by rfl) nm.m_isinstance (by decide +kernel) (pa_cons (pv 1) (pa_cons (pe_ty "tuple" (by rfl) nm.m_tuple (by decide +kernel)) pa_nil))))) (pw_or (pt_cmpR op_ne (pe_callB (k_len (K := K)) (by rfl) nm.m_len (by decide +kernel) (pa_cons (pv 1) pa_nil)) pe_int (nomark _)) (pw_or1 (pt_not (pt_val (pe_cal C_is_in (hr.mono (by decide)) (by rfl) (pa_cons (pe_ix (k_ixT (K := K)) (pv 1) pe_int (fun _ _ => rfl)) (pa_cons pe_int (pa_cons (pe_op op_sub (pe_ix (k_ixT (K := K)) (pv 0) pe_int (fun _ _ => rfl)) pe_int) pa_nil))))))))))
          (pss_one ps_never)
          pss_nil)
        (pss_one (ps_if (pt_not (pt_val (pe_cal C_is_in (hr.mono (by decide)) (by rfl) (pa_cons (pe_ix (k_ixT (K := K)) (pv 1) pe_int (fun _ _ => rfl)) (pa_cons (pe_op op_add (pe_ix (k_ixT (K := K)) (pv 1) pe_int (fun _ _ => rfl)) pe_int) (pa_cons (pe_op op_sub (pe_ix (k_ixT (K := K)) (pv 0) pe_int (fun _ _ => rfl)) pe_int) pa_nil))))))
          (pss_one ps_never)
          pss_nil))))
      (pss_one (ps_if (pt_val (pe_anyG (k := 0) (own := [("k", 2)]) (hr.mono (by decide)) rfl sc_need_web.nd (by rfl) nm.m_any TB hcode (gok_by (N := N_need_web) (sc := defScope s_need_web) (own := [("k", 2)]) (by decide +kernel) rfl (by decide +kernel) rfl) (pi_range1 (by rfl) nm.m_range (pa_cons (pe_op op_sub (pe_callB (k_len (K := K)) (by rfl) nm.m_len (by decide +kernel) (pa_cons (pe_ix (k_ixT (K := K)) (pv 0) pe_int (fun _ _ => rfl)) pa_nil)) pe_int) pa_nil)) (fun _ _ _ _ _ _ _ hR => (pg_name (i := 2) sc_need_web.nd rfl (Or.inl rfl))) (fun _ _ _ _ _ _ _ hR => (pe_cmpR (k_geU (K := K) (hu_of hR)) (pe_ix (k_ixT (K := K)) (pe_ix (k_ixT (K := K)) (pv 0) pe_int (fun _ _ => rfl)) (pv 2) (fun _ _ => rfl)) (pe_ix (k_ixT (K := K)) (pe_ix (k_ixT (K := K)) (pv 0) pe_int (fun _ _ => rfl)) (pe_op op_add (pv 2) pe_int) (fun _ _ => rfl)) (nomark _)))))
        (pss_one ps_never)
        pss_nil))))), ?_⟩
    repeat walk_at "rd"
    refine rd_isi (ty_tup w1) (b := true) (by decide +kernel) ⟨_, rfl, ?_⟩
    refine no rfl ?_
    repeat walk_at "rd"
    refine rd_neI (b := false) rfl ⟨_, rfl, no rfl ?_⟩
    repeat walk_at "rd"
    have lo := ok.lo
    have hi := ok.hi
    refine ⟨n, 1, 7, rfl, ⟨_, rfl, ?_⟩⟩
    rw [dt (show (1 : Int) ≤ n by omega), dt (show (n : Int) ≤ 7 by omega)]
    refine no rfl ?_
    repeat walk_at "rd"
    refine rd_isi (ty_tup w2) (b := true) (by decide +kernel) ⟨_, rfl, ?_⟩
    refine no rfl ?_
    repeat walk_at "rd"
    refine ⟨_, rfl, ⟨_, SqT.of w2⟩, ?_⟩
    refine g_for walk_tup (fun _ σ H' => (∃ o, σ = [some (.ref a), o, none]) ∧ Kp H H') ⟨⟨_, rfl⟩, Kp.refl _⟩ (fun i σ H' _ p => SqT.of (p.2.get w2)) (fun i x σ H1 H' hi p y => ?_) (fun σ H1 p => ?_)
    · obtain ⟨⟨o, rfl⟩, k⟩ := p
      obtain ⟨rfl, hx'⟩ := y
      obtain ⟨e, p, rfl, hp, m, _⟩ := prs_get w3 hx'
      have he : H' e = some (iv [p.1, p.2]) := k.get (w4 _ m)
      have ha : H' a = _ := k.get w1
      obtain ⟨p1, p2, p3⟩ := ok.prs p (List.mem_of_getElem? hp)
      repeat walk_at "rd"
      refine rd_isi (ty_tup he) (b := true) (by decide +kernel) ⟨_, rfl, ?_⟩
      refine no rfl ?_
      repeat walk_at "rd"
      refine rd_neI (b := false) rfl ⟨_, rfl, no rfl ?_⟩
      repeat walk_at "rd"
      refine ⟨p.1, 0, n - 1, rfl, ⟨_, rfl, ?_⟩⟩
      rw [dt (show (0 : Int) ≤ p.1 by omega), dt (show p.1 ≤ (n : Int) - 1 by omega)]
      refine no rfl ?_
      repeat walk_at "rd"
      refine ⟨p.2, p.1 + 1, n - 1, rfl, ⟨_, rfl, ?_⟩⟩
      rw [dt (show p.1 + 1 ≤ p.2 by omega), dt (show p.2 ≤ (n : Int) - 1 by omega)]
      refine no rfl ?_
      repeat walk_at "rd"
      exact ⟨⟨_, rfl⟩, k⟩
    · obtain ⟨⟨o, rfl⟩, k⟩ := p
      have ha : H1 a = _ := k.get w1
      have hb : H1 b = _ := k.get w2
      repeat walk_at "rd"
      have hl : (refs L).length = ps.length := prs_len w3
      have few := ok.few
      refine ⟨_, rfl, by rw [hl]; omega, by rw [hl]; omega, ?_⟩
      rw [hl]
      refine g_any walk_range (tb.kp k _ hT) (fun _ _ => trivial) (fun _ => false) (fun R i x H2 H' hi k2 y hR => ?_) (fun z hz H2 k2 => ?_)
      · obtain ⟨rfl, rfl⟩ := y
        have h1 : i + 1 < ps.length := by omega
        have l1 : i < (refs L).length := by omega
        have l2 : i + 1 < (refs L).length := by omega
        obtain ⟨e, p, r1, hp, m, _⟩ := prs_get w3 (List.getElem?_eq_getElem l1)
        obtain ⟨e', p', r1', hp', m', _⟩ := prs_get w3 (List.getElem?_eq_getElem l2)
        have a1 : atI (refs L) (0 + (i : Int)) = some (.ref e) := by rw [Int.zero_add]; exact atI_nat (by rw [← r1]; exact List.getElem?_eq_getElem l1)
        have a2 : atI (refs L) (0 + (i : Int) + 1) = some (.ref e') := by rw [Int.zero_add]; exact atI_nat (by rw [← r1']; exact List.getElem?_eq_getElem l2)
        have ha2 : H' a = _ := k2.get ha
        have hb2 : H' b = _ := k2.get hb
        have he : H' e = some (iv [p.1, p.2]) := k2.get (k.get (w4 _ m))
        have he' : H' e' = some (iv [p'.1, p'.2]) := k2.get (k.get (w4 _ m'))
        repeat walk_at "rd"
        refine ⟨rfl, ?_⟩
        repeat walk_at "rd"
        refine ⟨e, e', p.1, p.2, p'.1, p'.2, rfl, rfl, SqT.of he, SqT.of he', ?_⟩
        have hpe : ps[i] = p := by
          have := List.getElem?_eq_getElem (show i < ps.length by omega)
          rw [hp] at this
          exact (Option.some.inj this).symm
        have hpe' : ps[i + 1] = p' := by
          have := List.getElem?_eq_getElem h1
          rw [hp'] at this
          exact (Option.some.inj this).symm
        have lt := List.pairwise_iff_getElem.mp ok.asc i (i + 1) (by omega) h1 (by omega)
        rw [hpe, hpe'] at lt
        have e0 : (if p.1 = p'.1 then (if p.2 = p'.2 then true else decide (p'.2 ≤ p.2)) else decide (p'.1 ≤ p.1)) = false := by
          rcases lt with h | ⟨h, h2⟩
          · rw [if_neg (by omega)]
            exact df (by omega)
          · rw [if_pos h, if_neg (by omega)]
            exact df (by omega)
        rw [e0]
        exact hR _ k2
      · have zf : z = false := by
          cases z with
          | false => rfl
          | true => obtain ⟨i, _, h⟩ := hz.mp rfl; cases h
        refine ⟨z, rfl, no zf ?_⟩
        repeat walk_at "rd"
        exact q _ (k.trans k2)
/-! ### need_gathering -/
abbrev s_need_gathering : Stmt := topS 15
abbrev N_need_gathering : List Str := ["web", "gathering"]
abbrev P_need_gathering : List Str := ["web", "gathering"]
theorem sc_need_gathering : FnScope N_need_gathering P_need_gathering (defScope s_need_gathering) := ⟨rfl, rfl, rfl, by decide +kernel, rfl, by decide +kernel, by decide +kernel⟩
def sp_need_gathering (T : List Addr) : Sp := fun vs H Q _ => ∃ (a b : Addr) (n : Nat) (ps : List (Int × Int)) (xs : List Int), vs = [.ref a, .ref b] ∧ Tb T H ∧ Web H a n ps ∧ WebOk n ps ∧ H b = some (iv xs) ∧ Lot n xs ∧ xs.length ≤ 1000 ∧ gok ps xs = true ∧ ∀ H', Kp H H' → Q .non H'
theorem ok_need_gathering {f : Addr} {fd : FuncData} {T : List Addr} (F : Fun K "need_gathering" "need_gathering" s_need_gathering f fd) (nm : Nm mg) (C_need_web : Cal P w K mg base "need_web" 2 P_need_web (sp_need_web T)) (C_is_gathering : Cal P w K mg base "is_gathering" 5 P_is_gathering (sp_is_gathering T)) : FnOk P w K mg base CX0 6 f fd P_need_gathering (sp_need_gathering T) := by
  refine F.ok sc_need_gathering (fun vs H Q E h => ?_) (fun cdv A outer s H vs Q E hr h => ?_)
  · obtain ⟨a, b, n, ps, xs, rfl, _⟩ := h
    rfl
  · obtain ⟨a, b, n, ps, xs, rfl, tb, web, ok, hb, lot, hlen, g, q⟩ := h
    refine ⟨_, (pss_cons (ps_expr (pe_cal C_need_web (hr.mono (by decide)) (by rfl) (pa_cons (pv 0) pa_nil)))
      (pss_one (ps_if (pt_not (pt_val (pe_cal C_is_gathering (hr.mono (by decide)) (by rfl) (pa_cons (pv 0) (pa_cons (pv 1) pa_nil)))))
        (pss_one ps_never)
        pss_nil))), ?_⟩
    repeat walk_at "rd"
    refine ⟨a, n, ps, rfl, tb, web, ok, fun H1 k1 => ?_⟩
    repeat walk_at "rd"
    refine ⟨a, b, n, ps, xs, rfl, tb.kp k1, web.kp k1, k1.get hb, lot, hlen, fun H2 k2 => ⟨_, rfl, ?_⟩⟩
    rw [g]
    refine no rfl ?_
    repeat walk_at "rd"
    exact q _ (k1.trans k2)
end
end Fo
/-! FoM2: sorting, coming, lots, gatherings. -/
namespace Fo
open PySem PySem.Spec PyProof.Rows L2 GxR
/-! ### ints sorted -/
def isort (xs : List Int) : List Int := xs.mergeSort fun a b => decide (a ≤ b)
theorem isort_perm (xs : List Int) : (isort xs).Perm xs := List.mergeSort_perm _ _
theorem isort_sorted (xs : List Int) : (isort xs).Pairwise (· ≤ ·) := by
  have h := List.pairwise_mergeSort (le := fun a b : Int => decide (a ≤ b)) (fun a b c h1 h2 => by simp only [decide_eq_true_eq] at *; omega) (fun a b => by by_cases e : a ≤ b <;> simp [e]; omega) xs
  exact h.imp fun h => by simpa using h
theorem isort_eq {xs ys : List Int} (h : ys.Perm xs) (s : ys.Pairwise (· ≤ ·)) : ys = isort xs :=
  List.Perm.eq_of_pairwise (le := (· ≤ ·)) (fun a b _ _ h1 h2 => by omega) s (isort_sorted xs) (h.trans (isort_perm xs).symm)
theorem isort_mem {xs : List Int} {x : Int} : x ∈ isort xs ↔ x ∈ xs := (isort_perm xs).mem_iff
/-! ### coming -/
def stays (ps : List (Int × Int)) (p x : Int) : Bool := !decide (x = p) && !foe ps x p
def comeV (ps : List (Int × Int)) (xs : List Int) (p : Int) : List Int := isort (xs.filter (stays ps p) ++ [p])
theorem foe_comm (ps : List (Int × Int)) (i j : Int) : foe ps i j = foe ps j i := by
  unfold foe
  by_cases e : i = j
  · rw [e]
  · congr 1
    funext p
    by_cases h : i < j
    · rw [if_neg (show ¬ j < i by omega), if_pos (show i < j by omega), if_pos (show j > i by omega), if_neg (show ¬ i > j by omega)]
    · rw [if_pos (show j < i by omega), if_neg (show ¬ i < j by omega), if_neg (show ¬ j > i by omega), if_pos (show i > j by omega)]
/-! ### lots -/
def lotsF : Nat → List (List Int)
  | 0 => [[]]
  | k + 1 => lotsF k ++ (lotsF k).map (· ++ [(k : Int)])
theorem lotsF_head (k : Nat) : ∃ G, lotsF k = [] :: G := by
  induction k with
  | zero => exact ⟨[], rfl⟩
  | succ k ih =>
    obtain ⟨G, e⟩ := ih
    unfold lotsF
    rw [e]
    exact ⟨_, rfl⟩
theorem lotsF_len (k : Nat) : (lotsF k).length = 2 ^ k := by
  induction k with
  | zero => rfl
  | succ k ih =>
    unfold lotsF
    rw [List.length_append, List.length_map, ih]
    omega
theorem lotsF_mem (k : Nat) : ∀ xs, xs ∈ lotsF k ↔ Lot k xs := by
  induction k with
  | zero =>
    intro xs
    unfold lotsF
    constructor
    · intro h
      rw [List.mem_singleton.mp h]
      exact ⟨fun x hx => absurd hx (by simp), .nil⟩
    · rintro ⟨h, _⟩
      cases xs with
      | nil => simp
      | cons x xs =>
        have := h x List.mem_cons_self
        omega
  | succ k ih =>
    intro xs
    unfold lotsF
    rw [List.mem_append, List.mem_map, ih]
    constructor
    · rintro (⟨h, s⟩ | ⟨ys, h, rfl⟩)
      · exact ⟨fun x hx => by have := h x hx; omega, s⟩
      · obtain ⟨h, s⟩ := (ih ys).mp h
        refine ⟨fun x hx => ?_, List.pairwise_append.mpr ⟨s, List.pairwise_singleton _ _, fun a ha b hb => ?_⟩⟩
        · rcases List.mem_append.mp hx with m | m
          · have := h x m; omega
          · rw [List.mem_singleton.mp m]; omega
        · rw [List.mem_singleton.mp hb]
          have := h a ha
          omega
    · rintro ⟨h, s⟩
      by_cases e : (k : Int) ∈ xs
      · right
        rcases List.eq_nil_or_concat xs with rfl | ⟨ys, z, rfl⟩
        · exact absurd e (by simp)
        · rw [List.concat_eq_append] at *
          obtain ⟨s1, _, s3⟩ := List.pairwise_append.mp s
          have hz := h z (by simp)
          have ez : z = k := by
            rcases List.mem_append.mp e with m | m
            · have := s3 _ m z (by simp)
              omega
            · exact (List.mem_singleton.mp m).symm
          subst ez
          refine ⟨ys, (ih ys).mpr ⟨fun x hx => ?_, s1⟩, rfl⟩
          have h1 := h x (by simp [hx])
          have h2 := s3 x hx k (by simp)
          omega
      · left
        refine ⟨fun x hx => ?_, s⟩
        have h1 := h x hx
        have h2 : x ≠ k := fun z => e (by rw [← z]; exact hx)
        omega
theorem lotsF_nodup (k : Nat) : (lotsF k).Nodup := by
  induction k with
  | zero => unfold lotsF; simp
  | succ k ih =>
    unfold lotsF
    refine List.nodup_append.mpr ⟨ih, ?_, ?_⟩
    · refine List.Pairwise.map _ ?_ ih
      intro a b hab h
      exact hab (List.append_cancel_right h)
    · intro a ha b hb hab
      obtain ⟨ys, _, rfl⟩ := List.mem_map.mp hb
      have := ((lotsF_mem k a).mp ha).1 k (by rw [hab]; simp)
      omega
theorem Lot.len {n : Nat} {xs : List Int} (h : Lot n xs) : xs.length ≤ n := by
  induction n generalizing xs with
  | zero =>
    cases xs with
    | nil => exact Nat.le_refl _
    | cons x xs =>
      have := h.1 x List.mem_cons_self
      omega
  | succ n ih =>
    rcases List.mem_append.mp ((lotsF_mem (n + 1) xs).mpr h) with m | m
    · have := ih ((lotsF_mem n xs).mp m); omega
    · obtain ⟨ys, hy, rfl⟩ := List.mem_map.mp m
      have := ih ((lotsF_mem n ys).mp hy)
      rw [List.length_append, List.length_singleton]
      omega
/-- sorted as Python sorts tuples -/
def lle (a b : List Int) : Bool := !HT.lexLt b a
def lotsV (n : Nat) : List (List Int) := (lotsF n).mergeSort lle
theorem lle_tr (a b c : List Int) (h1 : lle a b = true) (h2 : lle b c = true) : lle a c = true := by
  unfold lle at *
  rw [Bool.not_eq_true'] at *
  exact lexLt_tr a b c h1 h2
theorem lle_tot (a b : List Int) : (lle a b || lle b a) = true := by
  unfold lle
  cases h : HT.lexLt b a with
  | false => rfl
  | true => rw [lexLt_asym _ _ h]; rfl
theorem lotsV_perm (n : Nat) : (lotsV n).Perm (lotsF n) := List.mergeSort_perm _ _
theorem lotsV_sorted (n : Nat) : (lotsV n).Pairwise (fun x y => HT.lexLt y x = false) :=
  (List.pairwise_mergeSort (le := lle) lle_tr lle_tot (lotsF n)).imp fun h => by unfold lle at h; simpa using h
theorem lots_eq {n : Nat} {M : List (List Int)} (h : M.Perm (lotsF n)) (s : M.Pairwise (fun x y => HT.lexLt y x = false)) : M = lotsV n := sorted_unique (h.trans (lotsV_perm n).symm) s (lotsV_sorted n)
theorem lotsV_mem {n : Nat} {xs : List Int} : xs ∈ lotsV n ↔ Lot n xs := (lotsV_perm n).mem_iff.trans (lotsF_mem n xs)
theorem lotsV_nodup (n : Nat) : (lotsV n).Nodup := (lotsV_perm n).nodup_iff.mpr (lotsF_nodup n)
theorem lotsV_len (n : Nat) : (lotsV n).length = 2 ^ n := by rw [(lotsV_perm n).length_eq, lotsF_len]
theorem lexLt_nil (y : List Int) (h : y ≠ []) : HT.lexLt [] y = true := by
  cases y with
  | nil => exact absurd rfl h
  | cons _ _ => rfl
theorem lotsV_head (n : Nat) : ∃ G, lotsV n = [] :: G := by
  have m : ([] : List Int) ∈ lotsV n := lotsV_mem.mpr ⟨fun x hx => absurd hx (by simp), .nil⟩
  cases e : lotsV n with
  | nil => rw [e] at m; exact absurd m (by simp)
  | cons x G =>
    have s := lotsV_sorted n
    rw [e] at s m
    rcases List.mem_cons.mp m with h | h
    · exact ⟨G, by rw [← h]⟩
    · have := (List.pairwise_cons.mp s).1 _ h
      by_cases ex : x = []
      · exact ⟨G, by rw [ex]⟩
      · rw [lexLt_nil x ex] at this; cases this
/-! ### gatherings -/
def gathV (n : Nat) (ps : List (Int × Int)) : List (List Int) := (lotsV n).filter (gok ps)
theorem gathV_mem {n : Nat} {ps : List (Int × Int)} {xs : List Int} : xs ∈ gathV n ps ↔ Lot n xs ∧ gok ps xs = true := by
  unfold gathV
  rw [List.mem_filter, lotsV_mem]
theorem gathV_nodup (n : Nat) (ps : List (Int × Int)) : (gathV n ps).Nodup := (lotsV_nodup n).filter _
theorem gathV_len {n : Nat} (ps : List (Int × Int)) (h : n ≤ 4) : (gathV n ps).length ≤ 16 := by
  have h1 : (gathV n ps).length ≤ 2 ^ n := by rw [← lotsV_len n]; exact List.length_filter_le _ _
  have h2 : 2 ^ n ≤ 2 ^ 4 := Nat.pow_le_pow_right (by decide) h
  omega
theorem gok_nil (ps : List (Int × Int)) : gok ps [] = true := by simp [gok]
theorem gathV_head (n : Nat) (ps : List (Int × Int)) : ∃ G, gathV n ps = [] :: G := by
  obtain ⟨G, e⟩ := lotsV_head n
  unfold gathV
  rw [e, List.filter_cons, if_pos (gok_nil ps)]
  exact ⟨_, rfl⟩
theorem gathV_sorted (n : Nat) (ps : List (Int × Int)) : (gathV n ps).Pairwise (fun x y => HT.lexLt y x = false) := (lotsV_sorted n).filter _
theorem foe_of {n : Nat} {ps : List (Int × Int)} (ok : WebOk n ps) {p : Int × Int} (h : p ∈ ps) : foe ps p.1 p.2 = true := by
  have := ok.prs p h
  unfold foe
  rw [List.any_eq_true]
  exact ⟨p, h, by rw [if_neg (by omega), if_pos (by omega)]; simp⟩
/-- after a coming it is a gathering again -/
theorem come_in {n : Nat} {ps : List (Int × Int)} (ok : WebOk n ps) {xs : List Int} {p : Int} (h : xs ∈ gathV n ps) (h0 : 0 ≤ p) (h1 : p < n) : comeV ps xs p ∈ gathV n ps := by
  obtain ⟨⟨hx, hs⟩, hg⟩ := gathV_mem.mp h
  have mem : ∀ x, x ∈ comeV ps xs p ↔ (x ∈ xs ∧ stays ps p x = true) ∨ x = p := fun x => by
    unfold comeV
    rw [isort_mem, List.mem_append, List.mem_filter, List.mem_singleton]
  refine gathV_mem.mpr ⟨⟨fun x hm => ?_, ?_⟩, ?_⟩
  · rcases (mem x).mp hm with ⟨m, _⟩ | e
    · exact hx x m
    · rw [e]; exact ⟨h0, h1⟩
  · have nd : (comeV ps xs p).Nodup := by
      refine (isort_perm _).nodup_iff.mpr (List.nodup_append.mpr ⟨(hs.imp fun h => by omega : xs.Nodup).filter _, by simp, fun a ha b hb e => ?_⟩)
      obtain ⟨_, st⟩ := List.mem_filter.mp ha
      rw [List.mem_singleton.mp hb] at e
      unfold stays at st
      simp [e] at st
    have so := isort_sorted (xs.filter (stays ps p) ++ [p])
    exact (List.pairwise_and_iff.mpr ⟨so, nd⟩).imp fun ⟨a, b⟩ => by omega
  · unfold gok at hg ⊢
    rw [Bool.not_eq_true'] at hg ⊢
    rw [List.any_eq_false] at hg ⊢
    intro q hq hh
    rw [Bool.and_eq_true, decide_eq_true_eq, decide_eq_true_eq, mem, mem] at hh
    have fo := foe_of ok hq
    obtain ⟨a, b⟩ := hh
    have st : ∀ x, stays ps p x = true → foe ps x p = false := fun x h => by
      unfold stays at h
      rw [Bool.and_eq_true] at h
      simpa using h.2
    have lt := ok.prs q hq
    rcases a with ⟨a1, a2⟩ | a
    · rcases b with ⟨b1, b2⟩ | b
      · exact hg q hq (by simp [a1, b1])
      · rw [b, st _ a2] at fo
        cases fo
    · rcases b with ⟨b1, b2⟩ | b
      · rw [foe_comm, a, st _ b2] at fo
        cases fo
      · omega
end Fo
set_option maxHeartbeats 2000000
/-! FoD: came, all_lots, all_gatherings. -/
namespace Fo
open PySem PySem.Spec PyProof.Rows L2 GxR
local macro_rules | `(tactic| walk_at "hp") => `(tactic| first
  | assumption
  | exact upd_same
  | (refine' upd_old ?n ?h; (case n => assumption); (case h => walk_at "hp"))
  | (refine' Kp.get ?k ?h rfl; (case k => assumption); (case h => walk_at "hp")))
local macro_rules | `(tactic| walk_at "kp") => `(tactic| first
  | exact Kp.refl _
  | assumption
  | exact Kp.new (by assumption)
  | (refine' Kp.trans ?a ?b; (case b => first | assumption | exact Kp.new (by assumption)); (case a => walk_at "kp")))
local macro_rules | `(tactic| walk_at "rd") => `(tactic| first
  | ((with_reducible show tVar _ _ _ _); refine ⟨_, rfl, ?_⟩)
  | ((with_reducible show tC _ _ _ _); refine rd_c ?_)
  | ((with_reducible show tSeq _ _ _ _ _); refine rd_seq ?_)
  | ((with_reducible show tAsg _ _ _ _ _); refine rd_asg ?_)
  | ((with_reducible show gName _ _ _ _ _); refine rd_name ?_)
  | ((with_reducible show tRet _ _ _ _); refine rd_ret ?_)
  | ((with_reducible show tOp _ _ _ _ _ _); refine rd_op ?_)
  | ((with_reducible show tCons _ _ _ _ _); refine rd_cons ?_)
  | ((with_reducible show tNil _ _ _); refine rd_nil ?_)
  | ((with_reducible show tCal _ _ _ _ _); refine rd_cal ?_)
  | ((with_reducible show tCB _ _ _ _ _); refine rd_cb ?_)
  | ((with_reducible show tTest _ _ _ _); refine rd_test ?_)
  | ((with_reducible show tB _ _ _ _); refine rd_B ?_)
  | ((with_reducible show tNot _ _ _ _); refine rd_not ?_)
  | ((with_reducible show tAnd _ _ _ _ _); refine rd_and ?_)
  | ((with_reducible show tOr _ _ _ _ _); refine rd_or ?_)
  | ((with_reducible show tAndV _ _ _ _ _); refine rd_andV ?_)
  | ((with_reducible show tNotV _ _ _ _); refine rd_notV ?_)
  | ((with_reducible show tChain _ _ _ _ _ _ _ _); refine rd_chain ?_)
  | ((with_reducible show tIfS _ _ _ _ _ _); refine rd_ifs ?_)
  | ((with_reducible show tDrop _ _ _ _); refine rd_drop ?_)
  | ((with_reducible show tFor _ _ _ _ _ _); refine rd_forG ?_)
  | ((with_reducible show iTup _ _ _ _ _); refine rd_itup ?_)
  | ((with_reducible show iList _ _ _ _ _); refine rd_ilist ?_)
  | ((with_reducible show rI0 _ _ _ _ _); refine ⟨_, _, rfl, rfl, ?_⟩)
  | ((with_reducible show rAdd _ _ _ _); refine ⟨_, _, rfl, rfl, ?_⟩)
  | ((with_reducible show rSub _ _ _ _); refine ⟨_, _, rfl, rfl, ?_⟩)
  | ((with_reducible show rIxT _ _ _ _ _); refine' rd_ix ?h ?a ?_; (case h => walk_at "hp"); (case a => first | rfl | assumption))
  | ((with_reducible show rIxL _ _ _ _ _); refine' rd_ixL ?h ?a ?_; (case h => walk_at "hp"); (case a => first | rfl | assumption))
  | ((with_reducible show tTup _ _ _ _); refine rd_tup ?_)
  | ((with_reducible show tLst _ _ _ _); refine rd_lst ?_)
  | ((with_reducible show tAllG _ _ _ _ _ _ _ _); refine rd_allG ?_)
  | ((with_reducible show tAnyG _ _ _ _ _ _ _ _); refine rd_anyG ?_)
  | ((with_reducible show tSumG _ _ _ _ _ _ _ _); refine rd_sumG ?_)
  | ((with_reducible show tLc _ _ _ _ _ _ _ _); refine rd_lc ?_)
  | ((with_reducible show tNext _ _ _); refine rd_next ?_)
  | ((with_reducible show tBreak _ _ _); refine rd_break ?_)
  | ((with_reducible show tDGet _ _ _ _ _); refine rd_dget ?_)
  | ((with_reducible show tDNewT _ _ _); refine rd_dnew ?_)
  | ((with_reducible show StX.tStar _ _ _ _ _ _); refine rd_star ?_)
  | ((with_reducible show tSl _ _ _ _ _ _ _); refine rd_sl ?_)
  | ((with_reducible show sDPut _ _ _ _ _ _); refine rd_dput ?_)
  | ((with_reducible show tBM _ _ _ _ _ _ _ _); refine rd_bm ?_)
  | ((with_reducible show tPar _ _ _ _ _ _); refine rd_par ?_)
  | ((with_reducible show tPar3 _ _ _ _ _ _ _); refine rd_par3 ?_)
  | ((with_reducible show iRng1 _ _ _ _); refine rd_rng1 ?_)
  | ((with_reducible show tUn _ _ _ _ _); refine rd_un ?_)
  | ((with_reducible show rU _ _ _ _); refine ⟨_, rfl, ?_⟩)
  | ((with_reducible show tPart _ _ _ _); refine rd_part ?_)
  | ((with_reducible show tNoPart _ _ _); refine rd_nopart ?_)
  | ((with_reducible show iRng2 _ _ _ _); refine rd_rng2 ?_)
  | ((with_reducible show iRng3 _ _ _ _); refine rd_rng3 ?_)
  | ((with_reducible show gSub _ _ _ _ _ _ _); refine rd_gsub ?_)
  | ((with_reducible show tDcT _ _ _ _ _ _ _ _); refine rd_dcT ?_)
  | ((with_reducible show tYes _ _ _); refine rd_yes ?_)
  | ((with_reducible show rLenS _ _ _ _); refine' rd_len ?h ?_; (case h => first | (refine' Or.inr (SqT.of ?z); (case z => walk_at "hp")) | (refine' Or.inl (SqL.of ?z); (case z => walk_at "hp"))))
  | ((with_reducible show gTup _ _ _ _ _ _ _); refine' rd_gtup ?h ?l ?_; (case h => refine' SqT.of ?z; (case z => walk_at "hp")); (case l => rfl))
  | ((with_reducible show gCons _ _ _ _ _ _); refine ⟨_, _, rfl, ?_⟩)
  | ((with_reducible show gNil _ _ _ _); refine ⟨rfl, ?_⟩))

section
variable {J : It} {n : Nat} {G : Hp → Prop} {Y : Nat → Hp → V → Hp → Prop} {g : TG} {tt : TT} {te : TE} {vs : List Nat} {σ : L2.St} {H1 : Hp} {Q : VK}
/-- a list comprehension of new tuples, none left out -/
theorem g_lcT (w : Walk J n G Y) (hn : n ≤ 1000) (hG : ∀ H, Kp H1 H → G H) (F : Nat → List Int)
    (body : ∀ (Rt : VK) i x H H', i < n → Kp H1 H → Y i H x H' → (∀ d H4, Kp H H4 → H4 d = some (iv (F i)) → Rt (.ref d) H4) → g x (wipe σ vs) H' fun σ2 H2 => wipe σ2 vs = wipe σ vs ∧ te σ2 H2 Rt)
    (q : ∀ D H L, H1 D = none → Kp H1 H → H D = some (.lst (refs L)) → Its H L → L.map (·.2) = (List.range n).map F → Q (.ref D) H) : LcGo g tYes te vs σ Q J H1 := by
  refine g_lc (tt := tYes) w hn hG (RT fun i => (List.range i).map F) (fun _ _ => ⟨[], rfl, Its.nil, rfl⟩) (fun _ _ _ _ _ _ h r => r.upd h) (fun Rt Rf i acc x H H' hi k r y ht hf => ?_) fun D H acc nD k hd _ r => ?_
  · refine body Rt i x H H' hi k y fun d H4 k4 e => ht _ H4 k4 ?_
    obtain ⟨L, rfl, hL, hm⟩ := r
    refine ⟨L ++ [(d, F i)], by rw [refs_app]; rfl, (hL.kp k4).snoc e, ?_⟩
    show (L ++ [(d, F i)]).map (·.2) = (List.range (i + 1)).map F
    rw [List.range_succ, List.map_append, List.map_append, hm]
    rfl
  · obtain ⟨L, rfl, hL, hm⟩ := r
    exact q D H L nD k hd hL hm
/-- a list comprehension that picks from a list of tuples -/
theorem g_lcP {L : LP} (w : Walk J (refs L).length G (YAt (refs L))) (hn : L.length ≤ 1000) (hG : ∀ H, Kp H1 H → G H) (hL : Its H1 L) (pr : List Int → Bool)
    (body : ∀ (Rt : VK) (Rf : Hp → Prop) q H, q ∈ L → Kp H1 H → (pr q.2 = true → ∀ H4, Kp H H4 → Rt (.ref q.1) H4) → (pr q.2 = false → ∀ H4, Kp H H4 → Rf H4) →
      g (.ref q.1) (wipe σ vs) H fun σ2 H2 => wipe σ2 vs = wipe σ vs ∧ tt σ2 H2 fun b H3 => if b = true then te σ2 H3 Rt else Rf H3)
    (q : ∀ D H M, H1 D = none → Kp H1 H → H D = some (.lst (refs M)) → Its H M → M.map (·.2) = (L.map (·.2)).filter pr → Q (.ref D) H) : LcGo g tt te vs σ Q J H1 := by
  refine g_lc (tt := tt) w (by rw [refs_len]; exact hn) hG (RT fun i => ((L.take i).map (·.2)).filter pr) (fun _ _ => ⟨[], rfl, Its.nil, rfl⟩) (fun _ _ _ _ _ _ h r => r.upd h) (fun Rt Rf i acc x H H' hi k r y ht hf => ?_) fun D H acc nD k hd _ r => ?_
  · obtain ⟨rfl, hx⟩ := y
    obtain ⟨p, e1, rfl, m⟩ := refs_get hx
    obtain ⟨M, rfl, hM, hm⟩ := r
    have hi' : i < L.length := by rw [refs_len] at hi; exact hi
    have et : L.take (i + 1) = L.take i ++ [p] := by
      rw [List.take_succ, e1]
      rfl
    refine body Rt Rf p H' m k (fun e H4 k4 => ht _ H4 k4 ?_) (fun e H4 k4 => hf H4 k4 ?_)
    · refine ⟨M ++ [p], by rw [refs_app]; rfl, (hM.kp k4).snoc ((k.trans k4).get (hL p m)), ?_⟩
      show (M ++ [p]).map (·.2) = ((L.take (i + 1)).map (·.2)).filter pr
      rw [et, List.map_append, List.map_append, List.filter_append, hm]
      simp [e]
    · refine ⟨M, rfl, hM.kp k4, ?_⟩
      show M.map (·.2) = ((L.take (i + 1)).map (·.2)).filter pr
      rw [et, List.map_append, List.filter_append, hm]
      simp [e]
  · obtain ⟨M, rfl, hM, hm⟩ := r
    refine q D H M nD k hd hM ?_
    have hm' : M.map (·.2) = ((L.take (refs L).length).map (·.2)).filter pr := hm
    rw [hm', List.take_of_length_le (by rw [refs_len]; exact Nat.le_refl _)]
/-- a list comprehension that picks from ints -/
theorem g_lcPI {xs : List Int} (w : Walk J (xs.map V.int).length G (YAt (xs.map V.int))) (hn : xs.length ≤ 1000) (hG : ∀ H, Kp H1 H → G H) (pr : Int → Bool)
    (body : ∀ (Rt : VK) (Rf : Hp → Prop) x H, x ∈ xs → Kp H1 H → (pr x = true → ∀ H4, Kp H H4 → Rt (.int x) H4) → (pr x = false → ∀ H4, Kp H H4 → Rf H4) →
      g (.int x) (wipe σ vs) H fun σ2 H2 => wipe σ2 vs = wipe σ vs ∧ tt σ2 H2 fun b H3 => if b = true then te σ2 H3 Rt else Rf H3)
    (q : ∀ D H, H1 D = none → Kp H1 H → H D = some (.lst ((xs.filter pr).map V.int)) → Q (.ref D) H) : LcGo g tt te vs σ Q J H1 := by
  refine g_lc (tt := tt) w (by rw [List.length_map]; exact hn) hG (RI fun i => (xs.take i).filter pr) (fun _ _ => rfl) (fun _ _ _ _ _ _ _ r => r) (fun Rt Rf i acc x H H' hi k r y ht hf => ?_) fun D H acc nD k hd _ r => ?_
  · obtain ⟨rfl, hx⟩ := y
    obtain ⟨x', e1, rfl⟩ := ints_get hx
    have r' : acc = ((xs.take i).filter pr).map V.int := r
    have et : xs.take (i + 1) = xs.take i ++ [x'] := by
      rw [List.take_succ, e1]
      rfl
    refine body Rt Rf x' H' (List.mem_of_getElem? e1) k (fun e H4 k4 => ht _ H4 k4 ?_) (fun e H4 k4 => hf H4 k4 ?_)
    · show acc ++ [V.int x'] = ((xs.take (i + 1)).filter pr).map V.int
      rw [r', et, List.filter_append, List.map_append]
      simp [e]
    · show acc = ((xs.take (i + 1)).filter pr).map V.int
      rw [r', et, List.filter_append, List.map_append]
      simp [e]
  · refine q D H nD k ?_
    have r' : acc = ((xs.take (xs.map V.int).length).filter pr).map V.int := r
    rw [hd, r', List.take_of_length_le (by rw [List.length_map]; exact Nat.le_refl _)]
end
section
variable {P : Program} {w : World} {K : PySem.W.Frag} {mg : Str → Option Value} {base : Heap}
/-! ### came -/
abbrev s_came : Stmt := topS 18
abbrev N_came : List Str := ["web", "gathering", "person", "rest", "one"]
abbrev P_came : List Str := ["web", "gathering", "person"]
theorem sc_came : FnScope N_came P_came (defScope s_came) := ⟨rfl, rfl, rfl, by decide +kernel, rfl, by decide +kernel, by decide +kernel⟩
def sp_came : Sp := fun vs H Q _ => ∃ (a b : Addr) (n : Nat) (ps : List (Int × Int)) (xs : List Int) (p : Int), vs = [.ref a, .ref b, .int p] ∧ Web H a n ps ∧ H b = some (iv xs) ∧ xs.length ≤ 60 ∧ ∀ d H', Kp H H' → H' d = some (iv (comeV ps xs p)) → Q (.ref d) H'
theorem ok_came {f : Addr} {fd : FuncData} (F : Fun K "came" "came" s_came f fd) (nm : Nm mg) (C_are_foes : Cal P w K mg base "are_foes" 1 P_are_foes sp_are_foes) : FnOk P w K mg base CX0 2 f fd P_came sp_came := by
  refine F.ok sc_came (fun vs H Q E h => ?_) (fun cdv A outer s H vs Q E hr h => ?_)
  · obtain ⟨a, b, n, ps, xs, p, rfl, _⟩ := h
    rfl
  · obtain ⟨a, b, n, ps, xs, p, rfl, web, hb, hl, q⟩ := h
    refine ⟨_, (pss_cons (ps_setLc (i := 3) (own := [("one", 4)]) rfl sc_came.nd rfl rfl (sw_true rfl rfl rfl (by decide +kernel)) (k_piT (K := K) (pv 1)) (blkOk_by (N := N_came) (sc := defScope s_came) (own := [("one", 4)]) (by decide +kernel)) (fun _ _ _ _ _ => (pg_name (i := 4) sc_came.nd rfl (Or.inl rfl))) (fun _ _ _ _ _ => (pts_one (PW.pt (pw_and (pt_cmpR op_ne (pv 4) (pv 2) (nomark _)) (pw_and1 (pt_not (pt_val (pe_cal C_are_foes (hr.mono (by decide)) (by rfl) (pa_cons (pv 0) (pa_cons (pv 4) (pa_cons (pv 2) pa_nil))))))))))) (fun _ _ _ _ _ => (pv 4)))
      (pss_one (ps_ret (pe_callTy (k_tupOf (K := K)) (by rfl) nm.m_tuple (by decide +kernel) (pa_cons (pe_callB (k_sorted (K := K)) (by rfl) nm.m_sorted (by decide +kernel) (pa_cons (pe_lst (k_star (K := K) (pv 3) (pa_cons (pv 2) pa_nil))) pa_nil)) pa_nil))))), ?_⟩
    repeat walk_at "rd"
    refine ⟨_, rfl, ⟨_, SqT.of hb⟩, ?_⟩
    refine g_lcPI walk_tup (by omega) (fun H' k => SqT.of (k.get hb)) (stays ps p) (fun Rt Rf x H1 hx k ht hf => ?_) (fun D H1 nD k hd => ?_)
    · repeat walk_at "rd"
      refine ⟨rfl, ?_⟩
      repeat walk_at "rd"
      refine rd_neI (b := !decide (x = p)) (by simp) ⟨_, rfl, ?_⟩
      by_cases e : x = p
      · refine no (by rw [dt e]; rfl) (no rfl ?_)
        exact hf (by unfold stays; rw [dt e]; rfl) _ (Kp.refl _)
      · refine yes (by rw [df e]; rfl) ?_
        repeat walk_at "rd"
        refine ⟨a, n, ps, x, p, rfl, web.kp k, fun H2 k2 => ⟨_, rfl, ?_⟩⟩
        by_cases e2 : foe ps x p = true
        · refine no (by rw [e2]; rfl) ?_
          exact hf (by unfold stays; rw [e2]; simp) _ k2
        · have e3 : foe ps x p = false := by simpa using e2
          refine yes (by rw [e3]; rfl) ?_
          repeat walk_at "rd"
          exact ht (by unfold stays; rw [e3, df e]; rfl) _ k2
    · have lf : (xs.filter (stays ps p)).length ≤ 60 := Nat.le_trans (List.length_filter_le _ _) hl
      repeat walk_at "rd"
      refine ⟨D, _, rfl, .inr (SqL.of hd), ?_⟩
      repeat walk_at "rd"
      have e1 : (xs.filter (stays ps p)).map V.int ++ [V.int p] = (xs.filter (stays ps p) ++ [p]).map V.int := by rw [List.map_append]; rfl
      rw [e1]
      refine ⟨sz (by rw [List.length_map, List.length_append, List.length_singleton]; omega), fun D2 nD2 => ?_⟩
      repeat walk_at "rd"
      refine ⟨D2, _, rfl, SqL.of upd_same, by rw [List.length_append, List.length_singleton]; omega, fun ns D3 pm so nD3 => ?_⟩
      repeat walk_at "rd"
      refine rd_tupOfL upd_same fun D4 nD4 => ?_
      refine q D4 _ ?_ ?_
      · exact ((k.trans (Kp.new nD2)).trans (Kp.new nD3)).trans (Kp.new nD4)
      · rw [upd_same, isort_eq pm so]
        rfl
/-! ### all_lots -/
abbrev s_all_lots : Stmt := topS 16
abbrev N_all_lots : List Str := ["web", "found", "person", "one"]
abbrev P_all_lots : List Str := ["web"]
theorem sc_all_lots : FnScope N_all_lots P_all_lots (defScope s_all_lots) := ⟨rfl, rfl, rfl, by decide +kernel, rfl, by decide +kernel, by decide +kernel⟩
def sp_all_lots : Sp := fun vs H Q _ => ∃ (a : Addr) (n : Nat) (ps : List (Int × Int)), vs = [.ref a] ∧ Web H a n ps ∧ n ≤ 4 ∧ ∀ d H' L, Kp H H' → H' d = some (.lst (refs L)) → Its H' L → L.map (·.2) = lotsV n → Q (.ref d) H'
theorem ok_all_lots {f : Addr} {fd : FuncData} (F : Fun K "all_lots" "all_lots" s_all_lots f fd) (nm : Nm mg) : FnOk P w K mg base CX0 1 f fd P_all_lots sp_all_lots := by
  refine F.ok sc_all_lots (fun vs H Q E h => ?_) (fun cdv A outer s H vs Q E hr h => ?_)
  · obtain ⟨a, n, ps, rfl, _⟩ := h
    rfl
  · obtain ⟨a, n, ps, rfl, ⟨b, L, w1, w2, w3, w4⟩, hn, q⟩ := h
    refine ⟨_, (pss_cons (ps_set (i := 1) sc_all_lots.nd rfl (Or.inl rfl) (pe_lst (pa_cons (pe_tup pa_nil) pa_nil)))
      (pss_cons (ps_for PassesOwn.never rfl (pi_range1 (by rfl) nm.m_range (pa_cons (pe_ix (k_ixT (K := K)) (pv 0) pe_int (fun _ _ => rfl)) pa_nil)) (pg_name (i := 2) sc_all_lots.nd rfl (Or.inr rfl))
        (pss_one (ps_set (i := 1) sc_all_lots.nd rfl (Or.inl rfl) (pe_op op_cat (pv 1) (pe_lc (own := [("one", 3)]) rfl sc_all_lots.nd (k_piL (K := K) (pv 1)) (blkOk_by (N := N_all_lots) (sc := defScope s_all_lots) (own := [("one", 3)]) (by decide +kernel)) (fun _ _ _ _ _ => (pg_name (i := 3) sc_all_lots.nd rfl (Or.inl rfl))) (fun _ _ _ _ _ => pts_nil) (fun _ _ _ _ _ => (pe_tup (k_star (K := K) (pv 3) (pa_cons (pv 2) pa_nil)))))))))
      (pss_one (ps_ret (pe_callB (k_sortL (K := K) (hu_of hr)) (by rfl) nm.m_sorted (by decide +kernel) (pa_cons (pv 1) pa_nil)))))), ?_⟩
    repeat walk_at "rd"
    refine ⟨sz (by decide), fun p0 n0 => ?_⟩
    repeat walk_at "rd"
    refine ⟨sz (show (1 : Nat) ≤ 1000 by decide), fun p1 n1 => ?_⟩
    repeat walk_at "rd"
    refine ⟨n, rfl, by omega, by omega, ?_⟩
    refine g_for walk_range (fun i σ H' => ∃ (d : Addr) (o : Option V) (L : LP), σ = [some (.ref a), some (.ref d), o, none] ∧ Kp H H' ∧ H' d = some (.lst (refs L)) ∧ Its H' L ∧ L.map (·.2) = lotsF i)
      ⟨p1, none, [(p0, [])], rfl, (Kp.new n0).trans (Kp.new n1), upd_same, Its.cons (upd_old n1 upd_same) Its.nil, rfl⟩ (fun _ _ _ _ _ => trivial) (fun i x σ H1 H2 hi pv y => ?_) (fun σ H1 pv => ?_)
    · obtain ⟨d, o, L, rfl, k, hd, hL, hm⟩ := pv
      obtain ⟨rfl, rfl⟩ := y
      have ll : L.length = 2 ^ i := by rw [← lotsF_len i, ← hm, List.length_map]
      have l2 : 2 ^ i ≤ 2 ^ 3 := Nat.pow_le_pow_right (by decide) (by omega)
      repeat walk_at "rd"
      refine ⟨_, rfl, ⟨_, SqL.of hd⟩, ?_⟩
      refine g_lcT walk_list (by rw [refs_len]; omega) (fun H' k => SqL.of (k.get hd)) (fun j => (lotsF i).getD j [] ++ [(i : Int)]) (fun Rt j x H3 H4 hj k3 y hR => ?_) (fun D H3 M nD k3 hD hM hMm => ?_)
      · obtain ⟨rfl, hx⟩ := y
        obtain ⟨q0, e1, rfl, m⟩ := refs_get hx
        have e2 : (lotsF i).getD j [] = q0.2 := by
          rw [← hm, List.getD_eq_getElem?_getD, List.getElem?_map, e1]
          rfl
        repeat walk_at "rd"
        refine ⟨rfl, ?_⟩
        repeat walk_at "rd"
        have hq := k3.get (hL q0 m)
        refine ⟨_, _, rfl, .inl (SqT.of hq), ?_⟩
        repeat walk_at "rd"
        have lq : q0.2.length ≤ i := ((lotsF_mem i q0.2).mp (by rw [← hm]; exact List.mem_map_of_mem m)).len
        refine ⟨sz (by rw [List.length_append, List.length_map, List.length_singleton]; omega), fun z nz => ?_⟩
        refine hR z _ (Kp.new nz) ?_
        rw [upd_same, e2]
        show some (HO.tup (q0.2.map V.int ++ [V.int (0 + (i : Int))])) = some (HO.tup ((q0.2 ++ [(i : Int)]).map V.int))
        rw [List.map_append, Int.zero_add]
        rfl
      · have hMl : M.length = 2 ^ i := by
          have := congrArg List.length hMm
          rw [List.length_map, List.length_map, List.length_range, refs_len] at this
          omega
        refine ⟨d, D, refs L, refs M, rfl, rfl, k3.get hd, hD, sz (by rw [refs_len, refs_len]; omega), fun z nz => ?_⟩
        repeat walk_at "rd"
        refine ⟨z, _, L ++ M, rfl, (k.trans k3).trans (Kp.new nz), ?_, ?_, ?_⟩
        · rw [upd_same, refs_app]
        · exact ((hL.kp k3).app hM).kp (Kp.new nz)
        · rw [List.map_append, hm, hMm, refs_len, ll]
          rw [show lotsF (i + 1) = lotsF i ++ (lotsF i).map (· ++ [(i : Int)]) from rfl]
          congr 1
          have e3 : (List.range (2 ^ i)).map (fun j => (lotsF i).getD j [] ++ [(i : Int)]) = ((List.range (2 ^ i)).map fun j => (lotsF i).getD j []).map (· ++ [(i : Int)]) := by rw [List.map_map]; rfl
          rw [e3]
          congr 1
          rw [← lotsF_len i]
          exact List.ext_getElem (by simp) fun j h1 h2 => by simp [List.getD_eq_getElem?_getD, h2]
    · obtain ⟨d, o, L, rfl, k, hd, hL, hm⟩ := pv
      obtain ⟨G, eG⟩ := lotsF_head n
      have hm' : L.map (·.2) = [] :: G := by
        have : ((n : Int)).toNat = n := by omega
        rw [this, eG] at hm
        exact hm
      cases L with
      | nil => cases hm'
      | cons q0 L =>
        obtain ⟨q1, q2⟩ := q0
        have e0 : q2 = [] := by
          simp at hm'
          exact hm'.1
        subst e0
        repeat walk_at "rd"
        refine ⟨d, q1, L, rfl, SqL.of hd, fun r hr => SqT.of (hL r hr), fun L' d' pm so nd => ?_⟩
        refine q d' _ L' (k.trans (Kp.new nd)) upd_same (Its.kp (show Its H1 L' from fun r hr => hL r (pm.mem_iff.mp hr)) (Kp.new nd)) ?_
        refine lots_eq ?_ ?_
        · rw [show (((n : Int)).toNat) = n by omega] at hm
          rw [← hm]
          exact pm.map _
        · exact List.Pairwise.map _ (fun _ _ h => h) so
/-! ### all_gatherings -/
abbrev s_all_gatherings : Stmt := topS 17
abbrev N_all_gatherings : List Str := ["web", "one"]
abbrev P_all_gatherings : List Str := ["web"]
theorem sc_all_gatherings : FnScope N_all_gatherings P_all_gatherings (defScope s_all_gatherings) := ⟨rfl, rfl, rfl, by decide +kernel, rfl, by decide +kernel, by decide +kernel⟩
def sp_all_gatherings (T : List Addr) : Sp := fun vs H Q _ => ∃ (a : Addr) (n : Nat) (ps : List (Int × Int)), vs = [.ref a] ∧ Tb T H ∧ Web H a n ps ∧ n ≤ 4 ∧ ∀ d H' L, Kp H H' → H' d = some (.lst (refs L)) → Its H' L → L.map (·.2) = gathV n ps → Q (.ref d) H'
theorem ok_all_gatherings {f : Addr} {fd : FuncData} {T : List Addr} (F : Fun K "all_gatherings" "all_gatherings" s_all_gatherings f fd) (nm : Nm mg) (C_all_lots : Cal P w K mg base "all_lots" 1 P_all_lots sp_all_lots)
    (C_is_gathering : Cal P w K mg base "is_gathering" 5 P_is_gathering (sp_is_gathering T)) : FnOk P w K mg base CX0 6 f fd P_all_gatherings (sp_all_gatherings T) := by
  refine F.ok sc_all_gatherings (fun vs H Q E h => ?_) (fun cdv A outer s H vs Q E hr h => ?_)
  · obtain ⟨a, n, ps, rfl, _⟩ := h
    rfl
  · obtain ⟨a, n, ps, rfl, tb, web, hn, q⟩ := h
    refine ⟨_, (pss_one (ps_ret (pe_lc (own := [("one", 1)]) rfl sc_all_gatherings.nd (k_piL (K := K) (pe_cal C_all_lots (hr.mono (by decide)) (by rfl) (pa_cons (pv 0) pa_nil))) (blkOk_by (N := N_all_gatherings) (sc := defScope s_all_gatherings) (own := [("one", 1)]) (by decide +kernel)) (fun _ _ _ _ _ => (pg_name (i := 1) sc_all_gatherings.nd rfl (Or.inl rfl))) (fun _ _ _ _ _ => (pts_one (pt_val (pe_cal C_is_gathering (hr.mono (by decide)) (by rfl) (pa_cons (pv 0) (pa_cons (pv 1) pa_nil)))))) (fun _ _ _ _ _ => (pv 1))))), ?_⟩
    repeat walk_at "rd"
    refine ⟨a, n, ps, rfl, web, hn, fun d H1 L k1 hd hL hm => ⟨_, rfl, ⟨_, SqL.of hd⟩, ?_⟩⟩
    have ll : L.length = 2 ^ n := by rw [← lotsV_len n, ← hm, List.length_map]
    have l2 : 2 ^ n ≤ 2 ^ 4 := Nat.pow_le_pow_right (by decide) hn
    refine g_lcP walk_list (by omega) (fun H' k => SqL.of (k.get hd)) hL (gok ps) (fun Rt Rf q0 H2 m k ht hf => ?_) (fun D H2 M nD k hD hM hMm => ?_)
    · repeat walk_at "rd"
      refine ⟨rfl, ?_⟩
      repeat walk_at "rd"
      have lot : Lot n q0.2 := lotsV_mem.mp (by rw [← hm]; exact List.mem_map_of_mem m)
      refine ⟨a, q0.1, n, ps, q0.2, rfl, tb.kp (k1.trans k), web.kp (k1.trans k), k.get (hL q0 m), lot, by have := lot.len; omega, fun H3 k3 => ⟨_, rfl, ?_⟩⟩
      by_cases e : gok ps q0.2 = true
      · refine yes e ?_
        repeat walk_at "rd"
        exact ht e _ k3
      · exact no (by simpa using e) (hf (by simpa using e) _ k3)
    · refine q D _ M (k1.trans k) hD hM ?_
      rw [hMm, hm]
      rfl
end
end Fo
/-! FoM3: gains, totals, tables, best rows. -/
namespace Fo
open PySem PySem.Spec PyProof.Rows L2 GxR
/-! ### the greatest of a list -/
def mx : List Int → Int
  | [] => 0
  | [x] => x
  | x :: y :: r => if mx (y :: r) ≤ x then x else mx (y :: r)
theorem mx_spec : ∀ (ns : List Int), ns ≠ [] → mx ns ∈ ns ∧ ∀ y ∈ ns, y ≤ mx ns
  | [], h => absurd rfl h
  | [x], _ => ⟨by simp [mx], fun y hy => by rw [List.mem_singleton.mp hy]; simp [mx]⟩
  | x :: y :: r, _ => by
    obtain ⟨h1, h2⟩ := mx_spec (y :: r) (by simp)
    unfold mx
    by_cases e : mx (y :: r) ≤ x
    · rw [if_pos e]
      refine ⟨List.mem_cons_self, fun z hz => ?_⟩
      rcases List.mem_cons.mp hz with h | h
      · omega
      · have := h2 z h; omega
    · rw [if_neg e]
      refine ⟨List.mem_cons_of_mem _ h1, fun z hz => ?_⟩
      rcases List.mem_cons.mp hz with h | h
      · omega
      · exact h2 z h
theorem mx_eq {ns : List Int} {m : Int} (h : m ∈ ns) (u : ∀ y ∈ ns, y ≤ m) : m = mx ns := by
  obtain ⟨h1, h2⟩ := mx_spec ns (List.ne_nil_of_mem h)
  have := h2 m h
  have := u _ h1
  omega
/-! ### sums -/
theorem preSum_list (f : Nat → Int) : ∀ n, preSum f n = ((List.range n).map f).sum
  | 0 => rfl
  | n + 1 => by
    rw [List.range_succ, List.map_append, List.sum_append, ← preSum_list f n]
    simp [preSum]
theorem preSum_bd {f : Nat → Int} {B : Int} {n : Nat} (h : ∀ j, j < n → -B ≤ f j ∧ f j ≤ B) : ∀ j, j ≤ n → -(B * j) ≤ preSum f j ∧ preSum f j ≤ B * j
  | 0, _ => by simp [preSum]
  | j + 1, hj => by
    have ih := preSum_bd h j (by omega)
    have := h j (by omega)
    have e : B * ((j + 1 : Nat) : Int) = B * j + B := by rw [Int.natCast_add, Int.mul_add]; simp
    rw [e]
    simp only [preSum]
    omega
theorem preSum_fit {f : Nat → Int} {B : Int} {n : Nat} (h : ∀ j, j < n → -B ≤ f j ∧ f j ≤ B) (hB : 0 ≤ B) (hB2 : B ≤ 1000000) (hn : n ≤ 1000) : ∀ j, j < n → InLong (f j) ∧ InLong (preSum f (j + 1)) := by
  intro j hj
  have h1 := h j hj
  have h2 := preSum_bd h (j + 1) (by omega)
  have h3 : B * ((j + 1 : Nat) : Int) ≤ 1000000 * 1000 := Int.mul_le_mul hB2 (by omega) (by omega) (by omega)
  refine ⟨⟨by omega, by omega⟩, ⟨by omega, by omega⟩⟩
/-! ### gains, totals, tables -/
def at' (xs : List Int) (p : Int) : Int := xs.getD p.toNat 0
def gainV (gs xs : List Int) : Int := (xs.map (at' gs)).sum
def stepV (ps : List (Int × Int)) (gs cs : List Int) (g : List Int) (p : Int) : Int := gainV gs (comeV ps g p) - at' cs p
def totalV (ps : List (Int × Int)) (gs cs : List Int) : List Int → List Int → Int
  | _, [] => 0
  | g, p :: row => stepV ps gs cs g p + totalV ps gs cs (comeV ps g p) row
def stateV (ps : List (Int × Int)) (g : List Int) (row : List Int) : List Int := row.foldl (comeV ps) g
def tabV (n : Nat) (ps : List (Int × Int)) (gs cs : List Int) : Nat → List Int → Int
  | 0, _ => 0
  | t + 1, g => mx ((List.range n).map fun p : Nat => stepV ps gs cs g (p : Int) + tabV n ps gs cs t (comeV ps g (p : Int)))
theorem tabV_succ {n : Nat} {ps : List (Int × Int)} {gs cs : List Int} (t : Nat) (g : List Int) : tabV n ps gs cs (t + 1) g = mx ((List.range n).map fun p : Nat => stepV ps gs cs g (p : Int) + tabV n ps gs cs t (comeV ps g (p : Int))) := rfl
/-- all entries within 0 .. m -/
def inB (m : Int) (xs : List Int) : Bool := xs.all fun x => decide (0 ≤ x) && decide (x ≤ m)
theorem inB_iff {m : Int} {xs : List Int} : inB m xs = true ↔ ∀ x ∈ xs, 0 ≤ x ∧ x ≤ m := by
  unfold inB
  simp only [List.all_eq_true, Bool.and_eq_true, decide_eq_true_eq]
section
variable {n : Nat} {ps : List (Int × Int)} {gs cs : List Int}
theorem state_in (ok : WebOk n ps) : ∀ (row : List Int) {g : List Int}, g ∈ gathV n ps → (∀ x ∈ row, 0 ≤ x ∧ x < n) → stateV ps g row ∈ gathV n ps
  | [], g, h, _ => h
  | p :: row, g, h, hr => state_in ok row (come_in ok h (hr p List.mem_cons_self).1 (hr p List.mem_cons_self).2) fun x hx => hr x (List.mem_cons_of_mem _ hx)
theorem tab_up (t : Nat) (g : List Int) {p : Nat} (hp : p < n) : stepV ps gs cs g (p : Int) + tabV n ps gs cs t (comeV ps g (p : Int)) ≤ tabV n ps gs cs (t + 1) g := by
  rw [tabV_succ]
  have h := mx_spec ((List.range n).map fun p : Nat => stepV ps gs cs g (p : Int) + tabV n ps gs cs t (comeV ps g (p : Int))) (by simp; omega)
  exact h.2 _ (List.mem_map.mpr ⟨p, List.mem_range.mpr hp, rfl⟩)
theorem tab_at (hn : 1 ≤ n) (t : Nat) (g : List Int) : ∃ p, p < n ∧ stepV ps gs cs g ((p : Nat) : Int) + tabV n ps gs cs t (comeV ps g (p : Int)) = tabV n ps gs cs (t + 1) g := by
  have h := mx_spec ((List.range n).map fun p : Nat => stepV ps gs cs g (p : Int) + tabV n ps gs cs t (comeV ps g (p : Int))) (by simp; omega)
  obtain ⟨p, hp, e⟩ := List.mem_map.mp h.1
  refine ⟨p, List.mem_range.mp hp, ?_⟩
  rw [e]
  rfl
/-- no row gets more -/
theorem total_le : ∀ (row : List Int) (g : List Int), (∀ x ∈ row, 0 ≤ x ∧ x < n) → totalV ps gs cs g row ≤ tabV n ps gs cs row.length g
  | [], g, _ => by simp [totalV, tabV]
  | p :: row, g, h => by
    have hp := h p List.mem_cons_self
    have ih := total_le row (comeV ps g p) fun x hx => h x (List.mem_cons_of_mem _ hx)
    have e : ((p.toNat : Nat) : Int) = p := by omega
    have up := tab_up (ps := ps) (gs := gs) (cs := cs) row.length g (p := p.toNat) (n := n) (by omega)
    rw [e] at up
    unfold totalV
    rw [List.length_cons]
    omega
/-- one row gets it -/
theorem total_get (hn : 1 ≤ n) : ∀ (t : Nat) (g : List Int), ∃ row : List Int, row.length = t ∧ (∀ x ∈ row, 0 ≤ x ∧ x < n) ∧ totalV ps gs cs g row = tabV n ps gs cs t g
  | 0, g => ⟨[], rfl, fun x hx => absurd hx (by simp), rfl⟩
  | t + 1, g => by
    obtain ⟨p, hp, e⟩ := tab_at (ps := ps) (gs := gs) (cs := cs) hn t g
    obtain ⟨row, h1, h2, h3⟩ := total_get hn t (comeV ps g (p : Int))
    refine ⟨(p : Int) :: row, by rw [List.length_cons, h1], fun x hx => ?_, ?_⟩
    · rcases List.mem_cons.mp hx with m | m
      · rw [m]; omega
      · exact h2 x m
    · unfold totalV
      rw [h3, e]
theorem state_snoc (g : List Int) (row : List Int) (p : Int) : stateV ps g (row ++ [p]) = comeV ps (stateV ps g row) p := by
  unfold stateV
  rw [List.foldl_append]
  rfl
theorem total_snoc (p : Int) : ∀ (row : List Int) (g : List Int), totalV ps gs cs g (row ++ [p]) = totalV ps gs cs g row + stepV ps gs cs (stateV ps g row) p
  | [], g => by simp [totalV, stateV]
  | q :: row, g => by
    have ih := total_snoc p row (comeV ps g q)
    show stepV ps gs cs g q + totalV ps gs cs (comeV ps g q) (row ++ [p]) = stepV ps gs cs g q + totalV ps gs cs (comeV ps g q) row + _
    rw [ih]
    show _ = _ + _ + stepV ps gs cs (stateV ps (comeV ps g q) row) p
    omega
/-- the total as a sum over the row's turns -/
theorem total_sum (g : List Int) : ∀ (k : Nat) (row : List Int), k ≤ row.length → totalV ps gs cs g (row.take k) = preSum (fun j => stepV ps gs cs (stateV ps g (row.take j)) (row.getD j 0)) k
  | 0, row, _ => by simp [totalV, preSum]
  | k + 1, row, h => by
    have hk : k < row.length := by omega
    have e : row.take (k + 1) = row.take k ++ [row.getD k 0] := by
      rw [List.take_succ, List.getD_eq_getElem?_getD, List.getElem?_eq_getElem hk]
      rfl
    rw [e, total_snoc, total_sum g k row (by omega)]
    rfl
theorem total_all (g row : List Int) : totalV ps gs cs g row = preSum (fun j => stepV ps gs cs (stateV ps g (row.take j)) (row.getD j 0)) row.length := by
  have := total_sum (ps := ps) (gs := gs) (cs := cs) g row.length row (Nat.le_refl _)
  rw [List.take_of_length_le (Nat.le_refl _)] at this
  exact this
theorem at_bd {xs : List Int} (h : ∀ x ∈ xs, 0 ≤ x ∧ x ≤ 1000) (p : Int) : 0 ≤ at' xs p ∧ at' xs p ≤ 1000 := by
  unfold at'
  rw [List.getD_eq_getElem?_getD]
  cases e : xs[p.toNat]? with
  | none => simp
  | some x => exact h x (List.mem_of_getElem? e)
theorem gain_pre (gs xs : List Int) : gainV gs xs = preSum (fun i => at' gs (xs.getD i 0)) xs.length := by
  rw [preSum_list]
  unfold gainV
  congr 1
  refine List.ext_getElem (by simp) fun i h1 h2 => ?_
  have : i < xs.length := by simpa using h1
  simp [List.getD_eq_getElem?_getD, this]
theorem gain_bd {gs xs : List Int} (h : ∀ x ∈ gs, 0 ≤ x ∧ x ≤ 1000) (hl : xs.length ≤ 60) : -60000 ≤ gainV gs xs ∧ gainV gs xs ≤ 60000 := by
  rw [gain_pre]
  have := preSum_bd (f := fun i => at' gs (xs.getD i 0)) (B := 1000) (n := xs.length) (fun j _ => by have := at_bd h (xs.getD j 0); omega) xs.length (Nat.le_refl _)
  omega
theorem come_len (xs : List Int) (p : Int) : (comeV ps xs p).length ≤ xs.length + 1 := by
  unfold comeV
  rw [(isort_perm _).length_eq, List.length_append, List.length_singleton]
  have := List.length_filter_le (stays ps p) xs
  omega
end
end Fo
set_option maxHeartbeats 2000000
/-! FoE: is_row, trace, need_gains, need_row_costs, gain_of, need_stay. -/
namespace Fo
open PySem PySem.Spec PyProof.Rows L2 GxR
local macro_rules | `(tactic| walk_at "hp") => `(tactic| first
  | assumption
  | exact upd_same
  | (refine' upd_old ?n ?h; (case n => assumption); (case h => walk_at "hp"))
  | (refine' Kp.get ?k ?h rfl; (case k => assumption); (case h => walk_at "hp")))
local macro_rules | `(tactic| walk_at "kp") => `(tactic| first
  | exact Kp.refl _
  | assumption
  | exact Kp.new (by assumption)
  | (refine' Kp.trans ?a ?b; (case b => first | assumption | exact Kp.new (by assumption)); (case a => walk_at "kp")))
local macro_rules | `(tactic| walk_at "rd") => `(tactic| first
  | ((with_reducible show tVar _ _ _ _); refine ⟨_, rfl, ?_⟩)
  | ((with_reducible show tC _ _ _ _); refine rd_c ?_)
  | ((with_reducible show tSeq _ _ _ _ _); refine rd_seq ?_)
  | ((with_reducible show tAsg _ _ _ _ _); refine rd_asg ?_)
  | ((with_reducible show gName _ _ _ _ _); refine rd_name ?_)
  | ((with_reducible show tRet _ _ _ _); refine rd_ret ?_)
  | ((with_reducible show tOp _ _ _ _ _ _); refine rd_op ?_)
  | ((with_reducible show tCons _ _ _ _ _); refine rd_cons ?_)
  | ((with_reducible show tNil _ _ _); refine rd_nil ?_)
  | ((with_reducible show tCal _ _ _ _ _); refine rd_cal ?_)
  | ((with_reducible show tCB _ _ _ _ _); refine rd_cb ?_)
  | ((with_reducible show tTest _ _ _ _); refine rd_test ?_)
  | ((with_reducible show tB _ _ _ _); refine rd_B ?_)
  | ((with_reducible show tNot _ _ _ _); refine rd_not ?_)
  | ((with_reducible show tAnd _ _ _ _ _); refine rd_and ?_)
  | ((with_reducible show tOr _ _ _ _ _); refine rd_or ?_)
  | ((with_reducible show tAndV _ _ _ _ _); refine rd_andV ?_)
  | ((with_reducible show tNotV _ _ _ _); refine rd_notV ?_)
  | ((with_reducible show tChain _ _ _ _ _ _ _ _); refine rd_chain ?_)
  | ((with_reducible show tIfS _ _ _ _ _ _); refine rd_ifs ?_)
  | ((with_reducible show tDrop _ _ _ _); refine rd_drop ?_)
  | ((with_reducible show tFor _ _ _ _ _ _); refine rd_forG ?_)
  | ((with_reducible show iTup _ _ _ _ _); refine rd_itup ?_)
  | ((with_reducible show iList _ _ _ _ _); refine rd_ilist ?_)
  | ((with_reducible show rI0 _ _ _ _ _); refine ⟨_, _, rfl, rfl, ?_⟩)
  | ((with_reducible show rAdd _ _ _ _); refine ⟨_, _, rfl, rfl, ?_⟩)
  | ((with_reducible show rSub _ _ _ _); refine ⟨_, _, rfl, rfl, ?_⟩)
  | ((with_reducible show rIxT _ _ _ _ _); refine' rd_ix ?h ?a ?_; (case h => walk_at "hp"); (case a => first | rfl | assumption))
  | ((with_reducible show rIxL _ _ _ _ _); refine' rd_ixL ?h ?a ?_; (case h => walk_at "hp"); (case a => first | rfl | assumption))
  | ((with_reducible show tTup _ _ _ _); refine rd_tup ?_)
  | ((with_reducible show tLst _ _ _ _); refine rd_lst ?_)
  | ((with_reducible show tAllG _ _ _ _ _ _ _ _); refine rd_allG ?_)
  | ((with_reducible show tAnyG _ _ _ _ _ _ _ _); refine rd_anyG ?_)
  | ((with_reducible show tSumG _ _ _ _ _ _ _ _); refine rd_sumG ?_)
  | ((with_reducible show tLc _ _ _ _ _ _ _ _); refine rd_lc ?_)
  | ((with_reducible show tNext _ _ _); refine rd_next ?_)
  | ((with_reducible show tBreak _ _ _); refine rd_break ?_)
  | ((with_reducible show tDGet _ _ _ _ _); refine rd_dget ?_)
  | ((with_reducible show tDNewT _ _ _); refine rd_dnew ?_)
  | ((with_reducible show StX.tStar _ _ _ _ _ _); refine rd_star ?_)
  | ((with_reducible show tSl _ _ _ _ _ _ _); refine rd_sl ?_)
  | ((with_reducible show sDPut _ _ _ _ _ _); refine rd_dput ?_)
  | ((with_reducible show tBM _ _ _ _ _ _ _ _); refine rd_bm ?_)
  | ((with_reducible show tPar _ _ _ _ _ _); refine rd_par ?_)
  | ((with_reducible show tPar3 _ _ _ _ _ _ _); refine rd_par3 ?_)
  | ((with_reducible show iRng1 _ _ _ _); refine rd_rng1 ?_)
  | ((with_reducible show tUn _ _ _ _ _); refine rd_un ?_)
  | ((with_reducible show rU _ _ _ _); refine ⟨_, rfl, ?_⟩)
  | ((with_reducible show tPart _ _ _ _); refine rd_part ?_)
  | ((with_reducible show tNoPart _ _ _); refine rd_nopart ?_)
  | ((with_reducible show iRng2 _ _ _ _); refine rd_rng2 ?_)
  | ((with_reducible show iRng3 _ _ _ _); refine rd_rng3 ?_)
  | ((with_reducible show gSub _ _ _ _ _ _ _); refine rd_gsub ?_)
  | ((with_reducible show tDcT _ _ _ _ _ _ _ _); refine rd_dcT ?_)
  | ((with_reducible show tYes _ _ _); refine rd_yes ?_)
  | ((with_reducible show rLenS _ _ _ _); refine' rd_len ?h ?_; (case h => first | (refine' Or.inr (SqT.of ?z); (case z => walk_at "hp")) | (refine' Or.inl (SqL.of ?z); (case z => walk_at "hp"))))
  | ((with_reducible show gTup _ _ _ _ _ _ _); refine' rd_gtup ?h ?l ?_; (case h => refine' SqT.of ?z; (case z => walk_at "hp")); (case l => rfl))
  | ((with_reducible show gCons _ _ _ _ _ _); refine ⟨_, _, rfl, ?_⟩)
  | ((with_reducible show gNil _ _ _ _); refine ⟨rfl, ?_⟩))

section
variable {J : It} {n : Nat} {G : Hp → Prop} {Y : Nat → Hp → V → Hp → Prop} {P : Addr} {g : TG} {te : TE} {vs : List Nat} {σ : L2.St} {H1 : Hp} {Q : VK}
/-- all over a genexp -/
theorem g_allB (w : Walk J n G Y) (tab : TabG H1 P) (hG : ∀ H, Kp H1 H → G H) (val : Nat → Bool)
    (body : ∀ (R : VK) i x H H', i < n → Kp H1 H → Y i H x H' → (∀ H4, Kp H1 H4 → R (.bl (val i)) H4) → g x (wipe σ vs) H' fun σ2 H3 => wipe σ2 vs = wipe σ vs ∧ te σ2 H3 R)
    (q : ∀ b, (b = true ↔ ∀ i, i < n → val i = true) → ∀ H, Kp H1 H → Q (.bl b) H) : AllGo P g te vs σ Q J H1 := by
  refine ⟨tab, fun H2 t => ⟨n, fun i H => Kp H1 H ∧ ∀ j, j < i → val j = true, ⟨Kp.tabbed tab t, fun j h => absurd h (Nat.not_lt_zero _)⟩, fun H ⟨k, hv⟩ => ⟨w.stops H (hG H k), q true ⟨(fun _ => hv), (fun _ => rfl)⟩ H k⟩, fun i H hi ⟨k, hv⟩ => ⟨w.goes i H hi (hG H k), fun x H' y => ?_⟩⟩⟩
  refine body _ i x H H' hi k (w.yields i H x H' hi (hG H k) y) fun H4 k4 => ⟨val i, rfl, ?_⟩
  by_cases e : val i = true
  · rw [if_pos e]
    refine ⟨k4, fun j hj => ?_⟩
    by_cases ej : j = i
    · rw [ej]; exact e
    · exact hv j (by omega)
  · rw [if_neg e]
    exact q false ⟨(fun z => Bool.noConfusion z), (fun h => absurd (h i hi) e)⟩ H4 k4
end
section
variable {P : Program} {w : World} {K : PySem.W.Frag} {mg : Str → Option Value} {base : Heap}
/-! ### is_row -/
abbrev s_is_row : Stmt := topS 19
abbrev N_is_row : List Str := ["web", "value", "one"]
abbrev P_is_row : List Str := ["web", "value"]
theorem sc_is_row : FnScope N_is_row P_is_row (defScope s_is_row) := ⟨rfl, rfl, rfl, by decide +kernel, rfl, by decide +kernel, by decide +kernel⟩
def sp_is_row (T : List Addr) : Sp := fun vs H Q _ => ∃ (a b : Addr) (n : Nat) (ps : List (Int × Int)), vs = [.ref a, .ref b] ∧ Tb T H ∧ Web H a n ps ∧
  ((∃ ys, H b = some (.lst ys) ∧ ∀ H', Kp H H' → Q (.bl false) H') ∨ (∃ xs : List Int, H b = some (iv xs) ∧ xs.length ≤ 30 ∧ ∀ H', Kp H H' → Q (.bl (inB (n - 1) xs)) H'))
theorem ok_is_row {f c Pt : Addr} {fd : FuncData} {T : List Addr} (F : FunT K "is_row" "is_row" s_is_row f fd c) (nm : Nm mg) (TB : LamX.TabB base mg c Pt) (hT : Pt ∈ T) (C_is_in : Cal P w K mg base "is_in" 1 P_is_in sp_is_in) : FnOk P w K mg base CX0 3 f fd P_is_row (sp_is_row T) := by
  refine F.ok sc_is_row (fun vs H Q E h => ?_) (fun A outer s H vs Q E hr h => ?_)
  · obtain ⟨a, b, n, ps, rfl, _⟩ := h
    rfl
  · obtain ⟨a, b, n, ps, rfl, tb, ⟨b', L, w1, w2, w3, w4⟩, h⟩ := h
    have hcode : (cxOf CX0 P w K mg base N_is_row "is_row" (defScope s_is_row) f (.ref c) A outer s H E).nox.env.code = .ref c := rfl
    refine ⟨_, (pss_one (ps_ret (pe_and (pe_callB (k_isi (K := K)) (by rfl) nm.m_isinstance (by decide +kernel) (pa_cons (pv 1) (pa_cons (pe_ty "tuple" (by rfl) nm.m_tuple (by decide +kernel)) pa_nil))) (pe_and (pe_cmpR op_le (pe_callB (k_len (K := K)) (by rfl) nm.m_len (by decide +kernel) (pa_cons (pv 1) pa_nil)) (pe_cst (by rfl) nm.c_MOST_ROW) (nomark _)) (pe_one (pe_allG (k := 1) (own := [("one", 2)]) (hr.mono (by decide)) rfl sc_is_row.nd (by rfl) nm.m_all TB hcode (gok_by (N := N_is_row) (sc := defScope s_is_row) (own := [("one", 2)]) (by decide +kernel) rfl (by decide +kernel) rfl) (k_piT (K := K) (pv 1)) (fun _ _ _ _ _ _ _ hR => (pg_name (i := 2) sc_is_row.nd rfl (Or.inl rfl))) (fun _ _ _ _ _ _ _ hR => (pe_cal C_is_in (hR.mono (by decide)) (by rfl) (pa_cons (pv 2) (pa_cons pe_int (pa_cons (pe_op op_sub (pe_ix (k_ixT (K := K)) (pv 0) pe_int (fun _ _ => rfl)) pe_int) pa_nil))))))))))), ?_⟩
    repeat walk_at "rd"
    rcases h with ⟨ys, hb, q⟩ | ⟨xs, hb, hl, q⟩
    · refine rd_isi (ty_lst hb) (b := false) (by decide +kernel) ⟨_, rfl, no rfl ?_⟩
      exact q _ (Kp.refl _)
    · refine rd_isi (ty_tup hb) (b := true) (by decide +kernel) ⟨_, rfl, yes rfl ?_⟩
      repeat walk_at "rd"
      refine ⟨_, rfl, yes (dt (by rw [List.length_map]; omega)) ?_⟩
      repeat walk_at "rd"
      refine ⟨_, rfl, ⟨_, SqT.of hb⟩, ?_⟩
      refine g_allB walk_tup (tb _ hT) (fun H' k => SqT.of (k.get hb)) (fun i => match xs[i]? with | some x => decide (0 ≤ x) && decide (x ≤ (n : Int) - 1) | none => true) (fun R i x H1 H' hi k y hR => ?_) (fun z hz H1 k => ?_)
      · obtain ⟨rfl, hx'⟩ := y
        obtain ⟨x', e1, rfl⟩ := ints_get hx'
        rw [e1] at hR
        have ha : H' a = _ := k.get w1
        repeat walk_at "rd"
        refine ⟨rfl, ?_⟩
        repeat walk_at "rd"
        exact ⟨x', 0, n - 1, rfl, hR _ k⟩
      · have e : z = inB (n - 1) xs := by
          unfold inB
          rw [Bool.eq_iff_iff, hz, List.all_eq_true]
          constructor
          · intro h x hx
            obtain ⟨i, hi, e⟩ := List.getElem_of_mem hx
            have := h i (by rw [List.length_map]; exact hi)
            rw [List.getElem?_eq_getElem hi, e] at this
            exact this
          · intro h i hi
            rw [List.length_map] at hi
            rw [List.getElem?_eq_getElem hi]
            exact h _ (List.getElem_mem hi)
        rw [e]
        exact q _ k
/-! ### need_gains, need_row_costs -/
abbrev s_need_gains : Stmt := topS 23
abbrev N_need_gains : List Str := ["web", "gains", "one"]
abbrev P_need_gains : List Str := ["web", "gains"]
theorem sc_need_gains : FnScope N_need_gains P_need_gains (defScope s_need_gains) := ⟨rfl, rfl, rfl, by decide +kernel, rfl, by decide +kernel, by decide +kernel⟩
abbrev s_need_row_costs : Stmt := topS 27
abbrev N_need_row_costs : List Str := ["web", "costs", "one"]
abbrev P_need_row_costs : List Str := ["web", "costs"]
theorem sc_need_row_costs : FnScope N_need_row_costs P_need_row_costs (defScope s_need_row_costs) := ⟨rfl, rfl, rfl, by decide +kernel, rfl, by decide +kernel, by decide +kernel⟩
def sp_need (T : List Addr) : Sp := fun vs H Q _ => ∃ (a b : Addr) (n : Nat) (ps : List (Int × Int)) (xs : List Int), vs = [.ref a, .ref b] ∧ Tb T H ∧ Web H a n ps ∧ H b = some (iv xs) ∧ xs.length = n ∧ (∀ x ∈ xs, 0 ≤ x ∧ x ≤ 1000) ∧ ∀ H', Kp H H' → Q .non H'
theorem ok_need_gains {f c Pt : Addr} {fd : FuncData} {T : List Addr} (F : FunT K "need_gains" "need_gains" s_need_gains f fd c) (nm : Nm mg) (TB : LamX.TabB base mg c Pt) (hT : Pt ∈ T) (C_is_in : Cal P w K mg base "is_in" 1 P_is_in sp_is_in) : FnOk P w K mg base CX0 3 f fd P_need_gains (sp_need T) := by
  refine F.ok sc_need_gains (fun vs H Q E h => ?_) (fun A outer s H vs Q E hr h => ?_)
  · obtain ⟨a, b, n, ps, xs, rfl, _⟩ := h
    rfl
  · obtain ⟨a, b, n, ps, xs, rfl, tb, ⟨b', L, w1, w2, w3, w4⟩, hb, hl, hx, q⟩ := h
    have hcode : (cxOf CX0 P w K mg base N_need_gains "need_gains" (defScope s_need_gains) f (.ref c) A outer s H E).nox.env.code = .ref c := rfl
    refine ⟨_, (pss_one (ps_if (PW.pt (pw_or (pt_not (pt_val (pe_callB (k_isi (K := K)) (by rfl) nm.m_isinstance (by decide +kernel) (pa_cons (pv 1) (pa_cons (pe_ty "tuple" (by rfl) nm.m_tuple (by decide +kernel)) pa_nil))))) (pw_or (pt_cmpR op_ne (pe_callB (k_len (K := K)) (by rfl) nm.m_len (by decide +kernel) (pa_cons (pv 1) pa_nil)) (pe_ix (k_ixT (K := K)) (pv 0) pe_int (fun _ _ => rfl)) (nomark _)) (pw_or1 (pt_not (pt_val (pe_allG (k := 1) (own := [("one", 2)]) (hr.mono (by decide)) rfl sc_need_gains.nd (by rfl) nm.m_all TB hcode (gok_by (N := N_need_gains) (sc := defScope s_need_gains) (own := [("one", 2)]) (by decide +kernel) rfl (by decide +kernel) rfl) (k_piT (K := K) (pv 1)) (fun _ _ _ _ _ _ _ hR => (pg_name (i := 2) sc_need_gains.nd rfl (Or.inl rfl))) (fun _ _ _ _ _ _ _ hR => (pe_cal C_is_in (hR.mono (by decide)) (by rfl) (pa_cons (pv 2) (pa_cons pe_int (pa_cons (pe_cst (by rfl) nm.c_MOST_GAIN) pa_nil))))))))))))
        (pss_one ps_never)
        pss_nil)), ?_⟩
    repeat walk_at "rd"
    refine rd_isi (ty_tup hb) (b := true) (by decide +kernel) ⟨_, rfl, no rfl ?_⟩
    repeat walk_at "rd"
    refine rd_neI (b := false) (by rw [List.length_map, hl]; simp) ⟨_, rfl, no rfl ?_⟩
    repeat walk_at "rd"
    refine ⟨_, rfl, ⟨_, SqT.of hb⟩, ?_⟩
    refine g_all walk_tup (tb _ hT) (fun H' k => SqT.of (k.get hb)) (fun R i x H1 H' hi k y hR => ?_) (fun H1 k => ?_)
    · obtain ⟨rfl, hx'⟩ := y
      obtain ⟨x', e1, rfl⟩ := ints_get hx'
      have m := List.mem_of_getElem? e1
      repeat walk_at "rd"
      refine ⟨rfl, ?_⟩
      repeat walk_at "rd"
      refine ⟨x', 0, 1000, rfl, ?_⟩
      rw [dt (hx _ m).1, dt (hx _ m).2]
      exact hR _ k
    · refine ⟨_, rfl, no rfl ?_⟩
      repeat walk_at "rd"
      exact q _ k
theorem ok_need_row_costs {f c Pt : Addr} {fd : FuncData} {T : List Addr} (F : FunT K "need_row_costs" "need_row_costs" s_need_row_costs f fd c) (nm : Nm mg) (TB : LamX.TabB base mg c Pt) (hT : Pt ∈ T) (C_is_in : Cal P w K mg base "is_in" 1 P_is_in sp_is_in) : FnOk P w K mg base CX0 3 f fd P_need_row_costs (sp_need T) := by
  refine F.ok sc_need_row_costs (fun vs H Q E h => ?_) (fun A outer s H vs Q E hr h => ?_)
  · obtain ⟨a, b, n, ps, xs, rfl, _⟩ := h
    rfl
  · obtain ⟨a, b, n, ps, xs, rfl, tb, ⟨b', L, w1, w2, w3, w4⟩, hb, hl, hx, q⟩ := h
    have hcode : (cxOf CX0 P w K mg base N_need_row_costs "need_row_costs" (defScope s_need_row_costs) f (.ref c) A outer s H E).nox.env.code = .ref c := rfl
    refine ⟨_, (pss_one (ps_if (PW.pt (pw_or (pt_not (pt_val (pe_callB (k_isi (K := K)) (by rfl) nm.m_isinstance (by decide +kernel) (pa_cons (pv 1) (pa_cons (pe_ty "tuple" (by rfl) nm.m_tuple (by decide +kernel)) pa_nil))))) (pw_or (pt_cmpR op_ne (pe_callB (k_len (K := K)) (by rfl) nm.m_len (by decide +kernel) (pa_cons (pv 1) pa_nil)) (pe_ix (k_ixT (K := K)) (pv 0) pe_int (fun _ _ => rfl)) (nomark _)) (pw_or1 (pt_not (pt_val (pe_allG (k := 1) (own := [("one", 2)]) (hr.mono (by decide)) rfl sc_need_row_costs.nd (by rfl) nm.m_all TB hcode (gok_by (N := N_need_row_costs) (sc := defScope s_need_row_costs) (own := [("one", 2)]) (by decide +kernel) rfl (by decide +kernel) rfl) (k_piT (K := K) (pv 1)) (fun _ _ _ _ _ _ _ hR => (pg_name (i := 2) sc_need_row_costs.nd rfl (Or.inl rfl))) (fun _ _ _ _ _ _ _ hR => (pe_cal C_is_in (hR.mono (by decide)) (by rfl) (pa_cons (pv 2) (pa_cons pe_int (pa_cons (pe_cst (by rfl) nm.c_MOST_COST) pa_nil))))))))))))
        (pss_one ps_never)
        pss_nil)), ?_⟩
    repeat walk_at "rd"
    refine rd_isi (ty_tup hb) (b := true) (by decide +kernel) ⟨_, rfl, no rfl ?_⟩
    repeat walk_at "rd"
    refine rd_neI (b := false) (by rw [List.length_map, hl]; simp) ⟨_, rfl, no rfl ?_⟩
    repeat walk_at "rd"
    refine ⟨_, rfl, ⟨_, SqT.of hb⟩, ?_⟩
    refine g_all walk_tup (tb _ hT) (fun H' k => SqT.of (k.get hb)) (fun R i x H1 H' hi k y hR => ?_) (fun H1 k => ?_)
    · obtain ⟨rfl, hx'⟩ := y
      obtain ⟨x', e1, rfl⟩ := ints_get hx'
      have m := List.mem_of_getElem? e1
      repeat walk_at "rd"
      refine ⟨rfl, ?_⟩
      repeat walk_at "rd"
      refine ⟨x', 0, 1000, rfl, ?_⟩
      rw [dt (hx _ m).1, dt (hx _ m).2]
      exact hR _ k
    · refine ⟨_, rfl, no rfl ?_⟩
      repeat walk_at "rd"
      exact q _ k
/-! ### need_stay -/
abbrev s_need_stay : Stmt := topS 31
abbrev N_need_stay : List Str := ["web", "gains", "costs", "many"]
abbrev P_need_stay : List Str := ["web", "gains", "costs", "many"]
theorem sc_need_stay : FnScope N_need_stay P_need_stay (defScope s_need_stay) := ⟨rfl, rfl, rfl, by decide +kernel, rfl, by decide +kernel, by decide +kernel⟩
def sp_need_stay (T : List Addr) : Sp := fun vs H Q _ => ∃ (a b d : Addr) (n : Nat) (ps : List (Int × Int)) (gs cs : List Int) (many : Nat), vs = [.ref a, .ref b, .ref d, .int many] ∧ Tb T H ∧ Web H a n ps ∧ H b = some (iv gs) ∧ gs.length = n ∧ (∀ x ∈ gs, 0 ≤ x ∧ x ≤ 1000) ∧
  H d = some (iv cs) ∧ cs.length = n ∧ (∀ x ∈ cs, 0 ≤ x ∧ x ≤ 1000) ∧ 1 ≤ many ∧ many ≤ 8 ∧ ∀ H', Kp H H' → Q .non H'
theorem ok_need_stay {f : Addr} {fd : FuncData} {T : List Addr} (F : Fun K "need_stay" "need_stay" s_need_stay f fd) (nm : Nm mg) (C_need_gains : Cal P w K mg base "need_gains" 3 P_need_gains (sp_need T)) (C_need_row_costs : Cal P w K mg base "need_row_costs" 3 P_need_row_costs (sp_need T))
    (C_is_in : Cal P w K mg base "is_in" 1 P_is_in sp_is_in) : FnOk P w K mg base CX0 4 f fd P_need_stay (sp_need_stay T) := by
  refine F.ok sc_need_stay (fun vs H Q E h => ?_) (fun cdv A outer s H vs Q E hr h => ?_)
  · obtain ⟨a, b, d, n, ps, gs, cs, many, rfl, _⟩ := h
    rfl
  · obtain ⟨a, b, d, n, ps, gs, cs, many, rfl, tb, web, hb, gl, gx, hd, cl, cx, m1, m8, q⟩ := h
    refine ⟨_, (pss_cons (ps_expr (pe_cal C_need_gains (hr.mono (by decide)) (by rfl) (pa_cons (pv 0) (pa_cons (pv 1) pa_nil))))
      (pss_cons (ps_expr (pe_cal C_need_row_costs (hr.mono (by decide)) (by rfl) (pa_cons (pv 0) (pa_cons (pv 2) pa_nil))))
      (pss_one (ps_if (pt_not (pt_val (pe_cal C_is_in (hr.mono (by decide)) (by rfl) (pa_cons (pv 3) (pa_cons pe_int (pa_cons (pe_cst (by rfl) nm.c_MOST_TURNS) pa_nil))))))
        (pss_one ps_never)
        pss_nil)))), ?_⟩
    repeat walk_at "rd"
    refine ⟨a, b, n, ps, gs, rfl, tb, web, hb, gl, gx, fun H1 k1 => ?_⟩
    repeat walk_at "rd"
    refine ⟨a, d, n, ps, cs, rfl, tb.kp k1, web.kp k1, k1.get hd, cl, cx, fun H2 k2 => ?_⟩
    repeat walk_at "rd"
    refine ⟨many, 1, 8, rfl, ⟨_, rfl, ?_⟩⟩
    rw [dt (show (1 : Int) ≤ many by omega), dt (show (many : Int) ≤ 8 by omega)]
    refine no rfl ?_
    repeat walk_at "rd"
    exact q _ (k1.trans k2)
end
end Fo
set_option maxHeartbeats 4000000
/-! FoZip: zip of a list and a tuple; the two sides by what their iterators do. -/
namespace Fo
open PySem PySem.Spec PyProof.Rows L2 GxR RZ
/-- an iterator at `it` over the thing at `l` with the items xs: st says where it stands -/
structure Side (it l : Addr) (xs : Array Value) (st : Heap → Nat → Prop) (src : Heap → Prop) : Prop where
  item : ∀ (prog : Program) (w : World) (A : Around) (E : Value → Shared → Prop) (s : Shared) (k : Nat) (x : Value) (Q : Value → Shared → Prop), st s.heap k → src s.heap → xs[k]? = some x →
    (∀ h', st h' (k + 1) → Heap.SameBut it s.heap h' → Q x { s with heap := h' }) → wpAny (model prog w) A (Builtin.SmallTypes.nextOf (.ref it)) Q E s
  fin : ∀ (prog : Program) (w : World) (A : Around) (E : Value → Shared → Prop) (s : Shared) (k : Nat) (Q : Value → Shared → Prop), A.handled = none → st s.heap k → src s.heap → xs[k]? = none →
    (∀ h' e, Heap.ExtBut it s.heap h' → (∃ o, h'.get? e = some o ∧ o.cls = .type "StopIteration") → E (.ref e) { s with heap := h' }) → wpAny (model prog w) A (Builtin.SmallTypes.nextOf (.ref it)) Q E s
  keepS : ∀ (h h' : Heap) (b : Addr) (k : Nat), st h k → Heap.ExtBut b h h' → it ≠ b → st h' k
  keepX : ∀ (h h' : Heap) (b : Addr), src h → Heap.ExtBut b h h' → l ≠ b → src h'
  get : ∀ (h : Heap) (k : Nat), st h k → it < h.objs.size
  at_ : ∀ (h h' : Heap) (k : Nat), st h k → (∀ o, h.get? it = some o → h'.get? it = some o) → st h' k
theorem side_list (it l : Addr) (xs : Array Value) : Side it l xs (fun h k => h.IsListIter it l k) (fun h => h.IsList l xs) where
  item := fun prog w A E s k x Q h1 h2 h3 h => wpAny_nextOf_list_item h1 h2 h3 h
  fin := fun prog w A E s k Q hh h1 h2 h3 h => wpAny_nextOf_list_end hh h1 h2 h3 h
  keepS := fun h h' b k x e n => x.extBut e n
  keepX := fun h h' b x e n => x.extBut e n
  get := fun h k x => by obtain ⟨_, e, _⟩ := x; exact Heap.lt_size e
  at_ := fun h h' k x f => x.at f
theorem side_tup (it l : Addr) (xs : Array Value) : Side it l xs (fun h k => h.IsTupleIter it l k) (fun h => h.IsTuple l xs) where
  item := fun prog w A E s k x Q h1 h2 h3 h => nextOf_tuple_item h1 h2 h3 h
  fin := fun prog w A E s k Q hh h1 h2 h3 h => nextOf_tuple_end hh h1 h2 h3 h
  keepS := fun h h' b k x e n => x.extBut e n
  keepX := fun h h' b x e n => x.extBut e n
  get := fun h k x => by obtain ⟨_, e, _⟩ := x; exact Heap.lt_size e
  at_ := fun h h' k x f => x.at f
section
variable {prog : Program} {w : World} {A : Around} {E : Value → Shared → Prop} {s : Shared} {z TI TO i1 i2 l1 l2 : Addr} {k1 k2 : Nat} {xs ys : Array Value} {x y a b : Value} {S1 S2 : Heap → Nat → Prop} {C1 C2 : Heap → Prop}
theorem side_next_item {Q : Value → Shared → Prop} (D : ZipApart z TI TO i1 i2 l1 l2) (W1 : Side i1 l1 xs S1 C1) (W2 : Side i2 l2 ys S2 C2)
    (hz : IsZip s.heap z TI TO .none) (hTI : IsPair s.heap TI (.ref i1) (.ref i2)) (hTO : IsPair s.heap TO a b)
    (h1 : S1 s.heap k1) (h2 : S2 s.heap k2) (hl1 : C1 s.heap) (hl2 : C2 s.heap) (hx : xs[k1]? = some x) (hy : ys[k2]? = some y)
    (hQ : ∀ h', IsZip h' z TI TO (rawInt s.heap.objs.size) → IsPair h' TO x y → S1 h' (k1 + 1) → S2 h' (k2 + 1) → IsPair h' s.heap.objs.size x y → h'.objs.size = s.heap.objs.size + 1 →
      (∀ c o, c ≠ z → c ≠ TO → c ≠ i1 → c ≠ i2 → s.heap.get? c = some o → h'.get? c = some o) → Q (.ref s.heap.objs.size) { s with heap := h' }) :
    wpAny (model prog w) A (Builtin.«zip.__next__» ⟨[.ref z], []⟩) (fun fin s' => ∃ v, fin = .done (.ret v) ∧ Q v s') E s := by
  show wpAny _ _ (field (.ref z) 2 >>= _) _ _ _
  refine wpAny_bind (wpAny_field hz rfl (x := .bool false) rfl ?_)
  show wpAny _ _ (field (.ref z) 3 >>= _) _ _ _
  refine wpAny_bind (wpAny_field hz rfl (x := .ref TI) rfl ?_)
  refine wpAny_bind (wpAny_seqItems hTI rfl ?_)
  show wpAny _ _ (Builtin.SmallTypes.ownedTupleIsFree (.ref z) >>= _) _ _ _
  refine wpAny_bind ?_
  unfold Builtin.SmallTypes.ownedTupleIsFree
  refine wpAny_bind (wpAny_field hz rfl (x := .none) rfl (wpAny_pure ?_))
  simp only [if_true]
  refine wpAny_bind (wpAny_rule ?_)
  refine wpAny_bind (wpAny_field hz rfl (x := .ref TO) rfl ?_)
  refine wpAny_bind (wpAny_setField_rec hz (by simp) fun h₁ hz₁ hs₁ => ?_)
  replace hz₁ : IsZip h₁ z TI TO .ellipsis := hz₁
  refine wpAny_bind ?_
  simp only [List.zipIdx_cons, List.zipIdx_nil, List.forIn_cons, List.forIn_nil]
  refine wpAny_bind (wpAny_bind (wpAny_onRaise ?_))
  show wpAny _ _ (Builtin.SmallTypes.nextOf (.ref i1) >>= _) _ _ _
  refine wpAny_bind (W1.item _ _ _ _ { s with heap := h₁ } k1 x _ (W1.keepS _ _ _ _ h1 hs₁.extBut D.i1z) (W1.keepX _ _ _ hl1 hs₁.extBut D.l1z) hx fun h₂ h1₂ hs₂ => wpAny_pure ?_)
  have hTO₂ : IsPair h₂ TO a b := hs₂.extBut _ _ D.TOi1 (hs₁.extBut _ _ D.TOz hTO)
  refine wpAny_bind (wpAny_seqItems hTO₂ rfl ?_)
  refine wpAny_bind (wpAny_updateSeq_pair hTO₂ fun h₃ hTO₃ hs₃ => ?_)
  replace hTO₃ : IsPair h₃ TO x b := hTO₃
  refine wpAny_bind (wpAny_letGo (wpAny_pure ?_))
  refine wpAny_bind (wpAny_bind (wpAny_onRaise ?_))
  show wpAny _ _ (Builtin.SmallTypes.nextOf (.ref i2) >>= _) _ _ _
  have s2 : S2 h₃ k2 := W2.keepS _ _ _ _ (W2.keepS _ _ _ _ (W2.keepS _ _ _ _ h2 hs₁.extBut D.i2z) hs₂.extBut D.i12.symm) hs₃.extBut D.TOi2.symm
  have c2 : C2 h₃ := W2.keepX _ _ _ (W2.keepX _ _ _ (W2.keepX _ _ _ hl2 hs₁.extBut D.l2z) hs₂.extBut D.l2i1) hs₃.extBut D.l2TO
  refine wpAny_bind (W2.item _ _ _ _ { s with heap := h₃ } k2 y _ s2 c2 hy fun h₄ h2₄ hs₄ => wpAny_pure ?_)
  have hTO₄ : IsPair h₄ TO x b := hs₄.extBut _ _ D.TOi2 hTO₃
  refine wpAny_bind (wpAny_seqItems hTO₄ rfl ?_)
  refine wpAny_bind (wpAny_updateSeq_pair hTO₄ fun h₅ hTO₅ hs₅ => ?_)
  replace hTO₅ : IsPair h₅ TO x y := hTO₅
  refine wpAny_bind (wpAny_letGo (wpAny_pure (wpAny_pure ?_)))
  refine wpAny_bind (wpAny_seqItems hTO₅ rfl ?_)
  refine wpAny_bind (wpAny_newTuple ?_)
  have hsz : h₅.objs.size = s.heap.objs.size := by rw [hs₅.1, hs₄.1, hs₃.1, hs₂.1, hs₁.1]
  have hz₅ : IsZip h₅ z TI TO .ellipsis := hs₅.extBut _ _ D.TOz.symm (hs₄.extBut _ _ D.i2z.symm (hs₃.extBut _ _ D.TOz.symm (hs₂.extBut _ _ D.i1z.symm hz₁)))
  have hk₅ : ∀ c o, c ≠ z → c ≠ TO → c ≠ i1 → c ≠ i2 → s.heap.get? c = some o → h₅.get? c = some o := fun c o c1 c2 c3 c4 e =>
    hs₅.extBut _ _ c2 (hs₄.extBut _ _ c4 (hs₃.extBut _ _ c2 (hs₂.extBut _ _ c3 (hs₁.extBut _ _ c1 e))))
  have h1₅ : S1 h₅ (k1 + 1) := W1.keepS _ _ _ _ (W1.keepS _ _ _ _ (W1.keepS _ _ _ _ h1₂ hs₃.extBut D.TOi1.symm) hs₄.extBut D.i12) hs₅.extBut D.TOi1.symm
  have h2₅ : S2 h₅ (k2 + 1) := W2.keepS _ _ _ _ h2₄ hs₅.extBut D.TOi2.symm
  have hzlt : z < h₅.objs.size := Heap.lt_size hz₅
  show wpAny _ _ (Builtin.SmallTypes.ownedTupleHandOut (.ref z) (.ref h₅.objs.size) >>= _) _ _ _
  refine wpAny_bind ?_
  unfold Builtin.SmallTypes.ownedTupleHandOut
  have hz₆ : IsZip (h₅.push { cls := .type "tuple", data := .seq #[x, y] }) z TI TO .ellipsis := Heap.get?_push_of_some _ hz₅
  refine wpAny_bind (wpAny_setField_rec hz₆ (by simp) fun h₇ hz₇ hs₇ => ?_)
  replace hz₇ : IsZip h₇ z TI TO (rawInt h₅.objs.size) := hz₇
  refine wpAny_setField_rec hz₇ (by simp) fun h₈ hz₈ hs₈ => ?_
  replace hz₈ : IsZip h₈ z TI TO (rawInt h₅.objs.size) := hz₈
  have up : ∀ c o, c ≠ z → h₅.get? c = some o → h₈.get? c = some o := fun c o c1 e => hs₈.extBut _ _ c1 (hs₇.extBut _ _ c1 (Heap.get?_push_of_some _ e))
  have hT₈ : IsPair h₈ h₅.objs.size x y := hs₈.extBut _ _ (Nat.ne_of_gt hzlt) (hs₇.extBut _ _ (Nat.ne_of_gt hzlt) (Heap.get?_push_size _ rfl))
  have hz8 : h₈.objs.size = h₅.objs.size + 1 := by rw [hs₈.1, hs₇.1, Heap.size_push]
  rw [hsz] at hz₈ hT₈ hz8
  refine wpAny_pure ⟨_, rfl, ?_⟩
  show Q (.ref h₅.objs.size) _
  rw [hsz]
  exact hQ h₈ hz₈ (up _ _ D.TOz hTO₅) (W1.at_ _ _ _ h1₅ fun o e => up _ o D.i1z e) (W2.at_ _ _ _ h2₅ fun o e => up _ o D.i2z e) hT₈ hz8 fun c o c1 c2 c3 c4 e => up c o c1 (hk₅ c o c1 c2 c3 c4 e)
theorem side_next_end {Q : Fin → Shared → Prop} (hh : A.handled = none) (D : ZipApart z TI TO i1 i2 l1 l2) (W1 : Side i1 l1 xs S1 C1) (W2 : Side i2 l2 ys S2 C2)
    (hz : IsZip s.heap z TI TO .none) (hTI : IsPair s.heap TI (.ref i1) (.ref i2)) (hTO : IsPair s.heap TO a b)
    (h1 : S1 s.heap k1) (h2 : S2 s.heap k2) (hl1 : C1 s.heap) (hl2 : C2 s.heap) (hend : xs[k1]? = none ∨ ys[k2]? = none)
    (hE : ∀ h' e, (∀ c o, c ≠ z → c ≠ TO → c ≠ i1 → c ≠ i2 → s.heap.get? c = some o → h'.get? c = some o) → (∃ o, h'.get? e = some o ∧ o.cls = .type "StopIteration") → E (.ref e) { s with heap := h' }) :
    wpAny (model prog w) A (Builtin.«zip.__next__» ⟨[.ref z], []⟩) Q E s := by
  show wpAny _ _ (field (.ref z) 2 >>= _) _ _ _
  refine wpAny_bind (wpAny_field hz rfl (x := .bool false) rfl ?_)
  show wpAny _ _ (field (.ref z) 3 >>= _) _ _ _
  refine wpAny_bind (wpAny_field hz rfl (x := .ref TI) rfl ?_)
  refine wpAny_bind (wpAny_seqItems hTI rfl ?_)
  show wpAny _ _ (Builtin.SmallTypes.ownedTupleIsFree (.ref z) >>= _) _ _ _
  refine wpAny_bind ?_
  unfold Builtin.SmallTypes.ownedTupleIsFree
  refine wpAny_bind (wpAny_field hz rfl (x := .none) rfl (wpAny_pure ?_))
  simp only [if_true]
  refine wpAny_bind (wpAny_rule ?_)
  refine wpAny_bind (wpAny_field hz rfl (x := .ref TO) rfl ?_)
  refine wpAny_bind (wpAny_setField_rec hz (by simp) fun h₁ hz₁ hs₁ => ?_)
  replace hz₁ : IsZip h₁ z TI TO .ellipsis := hz₁
  refine wpAny_bind ?_
  simp only [List.zipIdx_cons, List.zipIdx_nil, List.forIn_cons, List.forIn_nil]
  refine wpAny_bind (wpAny_bind (wpAny_onRaise ?_))
  show wpAny _ _ (Builtin.SmallTypes.nextOf (.ref i1) >>= _) _ _ _
  have s1 : S1 h₁ k1 := W1.keepS _ _ _ _ h1 hs₁.extBut D.i1z
  have c1 : C1 h₁ := W1.keepX _ _ _ hl1 hs₁.extBut D.l1z
  cases hx : xs[k1]? with
  | none =>
    refine wpAny_bind (W1.fin _ _ _ _ { s with heap := h₁ } k1 _ hh s1 c1 hx fun h₂ e hs₂ he => ?_)
    obtain ⟨oe, hoe, hce⟩ := he
    have hz₂ : IsZip h₂ z TI TO .ellipsis := hs₂ _ _ D.i1z.symm hz₁
    have hez : e ≠ z := fun x => by subst x; rw [hz₂] at hoe; cases hoe; simp at hce
    refine wpAny_setField_rec hz₂ (by simp) fun h₃ _ hs₃ => hE h₃ e (fun c o c1 _ c3 _ x => hs₃.extBut _ _ c1 (hs₂ _ _ c3 (hs₁.extBut _ _ c1 x))) ⟨oe, hs₃.extBut _ _ hez hoe, hce⟩
  | some x =>
    have hy : ys[k2]? = none := by rcases hend with h | h; rw [hx] at h; cases h; exact h
    refine wpAny_bind (W1.item _ _ _ _ { s with heap := h₁ } k1 x _ s1 c1 hx fun h₂ h1₂ hs₂ => wpAny_pure ?_)
    have hTO₂ : IsPair h₂ TO a b := hs₂.extBut _ _ D.TOi1 (hs₁.extBut _ _ D.TOz hTO)
    refine wpAny_bind (wpAny_seqItems hTO₂ rfl ?_)
    refine wpAny_bind (wpAny_updateSeq_pair hTO₂ fun h₃ hTO₃ hs₃ => ?_)
    refine wpAny_bind (wpAny_letGo (wpAny_pure ?_))
    refine wpAny_bind (wpAny_bind (wpAny_onRaise ?_))
    show wpAny _ _ (Builtin.SmallTypes.nextOf (.ref i2) >>= _) _ _ _
    have s2 : S2 h₃ k2 := W2.keepS _ _ _ _ (W2.keepS _ _ _ _ (W2.keepS _ _ _ _ h2 hs₁.extBut D.i2z) hs₂.extBut D.i12.symm) hs₃.extBut D.TOi2.symm
    have c2 : C2 h₃ := W2.keepX _ _ _ (W2.keepX _ _ _ (W2.keepX _ _ _ hl2 hs₁.extBut D.l2z) hs₂.extBut D.l2i1) hs₃.extBut D.l2TO
    refine wpAny_bind (W2.fin _ _ _ _ { s with heap := h₃ } k2 _ hh s2 c2 hy fun h₄ e hs₄ he => ?_)
    obtain ⟨oe, hoe, hce⟩ := he
    have hz₄ : IsZip h₄ z TI TO .ellipsis := hs₄ _ _ D.i2z.symm (hs₃.extBut _ _ D.TOz.symm (hs₂.extBut _ _ D.i1z.symm hz₁))
    have hez : e ≠ z := fun x => by subst x; rw [hz₄] at hoe; cases hoe; simp at hce
    refine wpAny_setField_rec hz₄ (by simp) fun h₅ _ hs₅ => hE h₅ e (fun c o c1 c2 c3 c4 x => hs₅.extBut _ _ c1 (hs₄ _ _ c4 (hs₃.extBut _ _ c2 (hs₂.extBut _ _ c3 (hs₁.extBut _ _ c1 x))))) ⟨oe, hs₅.extBut _ _ hez hoe, hce⟩
theorem side_pyNext_item {Q : Option Value → Shared → Prop} (D : ZipApart z TI TO i1 i2 l1 l2) (W1 : Side i1 l1 xs S1 C1) (W2 : Side i2 l2 ys S2 C2)
    (hz : IsZip s.heap z TI TO .none) (hTI : IsPair s.heap TI (.ref i1) (.ref i2)) (hTO : IsPair s.heap TO a b)
    (h1 : S1 s.heap k1) (h2 : S2 s.heap k2) (hl1 : C1 s.heap) (hl2 : C2 s.heap) (hx : xs[k1]? = some x) (hy : ys[k2]? = some y)
    (hQ : ∀ h', IsZip h' z TI TO (rawInt s.heap.objs.size) → IsPair h' TO x y → S1 h' (k1 + 1) → S2 h' (k2 + 1) → IsPair h' s.heap.objs.size x y → h'.objs.size = s.heap.objs.size + 1 →
      (∀ c o, c ≠ z → c ≠ TO → c ≠ i1 → c ≠ i2 → s.heap.get? c = some o → h'.get? c = some o) → Q (some (.ref s.heap.objs.size)) { s with heap := h' }) : wpAny (model prog w) A (pyNext (.ref z)) Q E s := by
  have hT : s.TypeIs (.ref z) "zip" := ⟨_, hz, rfl⟩
  unfold pyNext
  exact wpAny_bind (wpAny_attempt (wpAny_callSpecial?_slot (name := Str.ofString "__next__") hT F.slot_zip_next
    (wpAny_call_entry F.slot_zip_next hT F.entry_zip_next
      (side_next_item D W1 W2 hz hTI hTO h1 h2 hl1 hl2 hx hy fun h' a1 a2 a3 a4 a5 a6 a7 => wpAny_pure (hQ h' a1 a2 a3 a4 a5 a6 a7)) (F.args_zip_next_1 _))))
theorem side_pyNext_end {Q : Option Value → Shared → Prop} (hh : A.handled = none) (D : ZipApart z TI TO i1 i2 l1 l2) (W1 : Side i1 l1 xs S1 C1) (W2 : Side i2 l2 ys S2 C2)
    (hz : IsZip s.heap z TI TO .none) (hTI : IsPair s.heap TI (.ref i1) (.ref i2)) (hTO : IsPair s.heap TO a b)
    (h1 : S1 s.heap k1) (h2 : S2 s.heap k2) (hl1 : C1 s.heap) (hl2 : C2 s.heap) (hend : xs[k1]? = none ∨ ys[k2]? = none)
    (hQ : ∀ h', (∀ c o, c ≠ z → c ≠ TO → c ≠ i1 → c ≠ i2 → s.heap.get? c = some o → h'.get? c = some o) → Q none { s with heap := h' }) : wpAny (model prog w) A (pyNext (.ref z)) Q E s := by
  have hT : s.TypeIs (.ref z) "zip" := ⟨_, hz, rfl⟩
  unfold pyNext
  refine wpAny_bind (wpAny_attempt (wpAny_callSpecial?_slot (name := Str.ofString "__next__") hT F.slot_zip_next
    (wpAny_call_entry F.slot_zip_next hT F.entry_zip_next (side_next_end hh D W1 W2 hz hTI hTO h1 h2 hl1 hl2 hend fun h' e hk he => ?_) (F.args_zip_next_1 _))))
  obtain ⟨o, ho, hc⟩ := he
  refine wpAny_bind (wpAny_isInstance (T := "StopIteration") (b := true) ⟨o, ho, hc⟩ isSubtype_stop ?_)
  exact wpAny_pure (hQ _ hk)
end
/-! ### zip(list, tuple) is made -/
abbrev mzH1 (h : Heap) (l1 : Addr) : Heap := h.push { cls := .type "list_iterator", data := .fields #[.ref l1, .int 0 0] }
abbrev mzH2 (h : Heap) (l1 l2 : Addr) : Heap := (mzH1 h l1).push { cls := .type "tuple_iterator", data := .fields #[.ref l2, .int 0 0] }
abbrev mzH3 (h : Heap) (l1 l2 : Addr) : Heap := (mzH2 h l1 l2).push { cls := .type "tuple", data := .seq #[.ref h.objs.size, .ref (mzH1 h l1).objs.size] }
abbrev mzH4 (h : Heap) (l1 l2 : Addr) : Heap := (mzH3 h l1 l2).push { cls := .type "tuple", data := .seq #[.none, .none] }
abbrev mzH5 (h : Heap) (l1 l2 : Addr) : Heap := (mzH4 h l1 l2).push { cls := .type "zip", data := .fields #[.none, .bool false, .bool false, .ref (mzH2 h l1 l2).objs.size, .ref (mzH3 h l1 l2).objs.size] }
theorem mz_new (l1 l2 : Addr) (xs ys : Array Value) :
    Meets (Builtin.«zip.__new__» ⟨[.type "zip", .ref l1, .ref l2], []⟩) (fun _ R s => s.heap.IsList l1 xs ∧ s.heap.IsTuple l2 ys ∧
      R (.ok (.ret (.ref (mzH4 s.heap l1 l2).objs.size))) { s with heap := mzH5 s.heap l1 l2 }) :=
  .of_wp fun prog w A R s h => by
    obtain ⟨hp, g, d, tk, os⟩ := s; obtain ⟨hl1, hl2, h⟩ := h
    have hsub := sub_zip
    have hL1 : Heap.IsList (Shared.heap ⟨hp, g, d, tk, os⟩) l1 xs := hl1
    have hL2 : Heap.IsTuple (Shared.heap ⟨hp.push { cls := .type "list_iterator", data := .fields #[.ref l1, .int 0 0] }, g, d, tk, os⟩) l2 ys := Heap.IsTuple.push hl2 _
    wp_walk using wpAny_pyIter_list hL1, wpAny_pyIter_tuple hL2
    exact ⟨_, rfl, h⟩
theorem mz_call {prog : Program} {w : World} {A : Around} {E : Value → Shared → Prop} {s : Shared} {l1 l2 : Addr} {xs ys : Array Value} {Q : Value → Shared → Prop} (hl1 : s.heap.IsList l1 xs) (hl2 : s.heap.IsTuple l2 ys)
    (h : ∀ h', IsZip h' (s.heap.objs.size + 4) (s.heap.objs.size + 2) (s.heap.objs.size + 3) .none → IsPair h' (s.heap.objs.size + 2) (.ref s.heap.objs.size) (.ref (s.heap.objs.size + 1)) →
      IsPair h' (s.heap.objs.size + 3) .none .none → h'.IsListIter s.heap.objs.size l1 0 → h'.IsTupleIter (s.heap.objs.size + 1) l2 0 →
      (∀ c o, s.heap.get? c = some o → h'.get? c = some o) → Q (.ref (s.heap.objs.size + 4)) { s with heap := h' }) :
    wpAny (model prog w) A (call (.type "zip") [.ref l1, .ref l2]) Q E s := by
  refine callType_new F.called_zip (by decide) (F.typeCall_zip_2 _ _) (F.newCall_zip_2 _ _) (fun obj => F.args_object_init_3 obj _ _) F.entry_zip_new
    (mz_new l1 l2 xs ys) ⟨hl1, hl2, ?_⟩
  have z1 : (mzH1 s.heap l1).objs.size = s.heap.objs.size + 1 := Heap.size_push ..
  have z2 : (mzH2 s.heap l1 l2).objs.size = s.heap.objs.size + 2 := by rw [Heap.size_push, z1]
  have z3 : (mzH3 s.heap l1 l2).objs.size = s.heap.objs.size + 3 := by rw [Heap.size_push, z2]
  have z4 : (mzH4 s.heap l1 l2).objs.size = s.heap.objs.size + 4 := by rw [Heap.size_push, z3]
  have g5 : (mzH5 s.heap l1 l2).get? (mzH4 s.heap l1 l2).objs.size = some _ := Heap.get?_push_size _ rfl
  have g4 : (mzH5 s.heap l1 l2).get? (mzH3 s.heap l1 l2).objs.size = some _ := Heap.get?_push_of_some _ (Heap.get?_push_size _ rfl)
  have g3 : (mzH5 s.heap l1 l2).get? (mzH2 s.heap l1 l2).objs.size = some _ := Heap.get?_push_of_some _ (Heap.get?_push_of_some _ (Heap.get?_push_size _ rfl))
  have g2 : (mzH5 s.heap l1 l2).get? (mzH1 s.heap l1).objs.size = some _ := Heap.get?_push_of_some _ (Heap.get?_push_of_some _ (Heap.get?_push_of_some _ (Heap.get?_push_size _ rfl)))
  have g1 : (mzH5 s.heap l1 l2).get? s.heap.objs.size = some _ := Heap.get?_push_of_some _ (Heap.get?_push_of_some _ (Heap.get?_push_of_some _ (Heap.get?_push_of_some _ (Heap.get?_push_size _ rfl))))
  show _ ∧ _
  rw [z2, z3, z4] at g5
  rw [z1, z2] at g3
  rw [z3] at g4
  rw [z1] at g2
  rw [z4]
  exact ⟨⟨_, g5, rfl⟩, h _ g5 g3 g4 ⟨_, g1, rfl, rfl⟩ ⟨_, g2, rfl, rfl⟩ fun c o x =>
    Heap.get?_push_of_some _ (Heap.get?_push_of_some _ (Heap.get?_push_of_some _ (Heap.get?_push_of_some _ (Heap.get?_push_of_some _ x))))⟩
/-! ### its turns -/
/-- the list at a and the tuple at b as they stand at each turn, the items in new pairs -/
def ItzM (K : PySem.W.Frag) (a b : Addr) : It :=
  ⟨fun i H => ∃ (xs ys : List V) (x y : V), SqL K H a xs ∧ SqT K H b ys ∧ xs[i]? = some x ∧ ys[i]? = some y,
    fun i H v H' => ∃ T x y, v = .ref T ∧ H T = none ∧ H' = upd H T (.tup [x, y]) ∧ (∀ xs, SqL K H a xs → xs[i]? = some x) ∧ ∀ ys, SqT K H b ys → ys[i]? = some y,
    fun i H => ∃ xs ys : List V, SqL K H a xs ∧ SqT K H b ys ∧ (xs.length ≤ i ∨ ys.length ≤ i)⟩
theorem mz_turn {P : Program} {w : World} {K : PySem.W.Frag} {elts : List Expr} {kk : Nat} {tpos : Pos} {a b z TI TO i1 i2 : Addr} (D : ZipApart z TI TO i1 i2 a b) :
    Turn P w K (.Tuple elts kk tpos) (ItzM K a b) [z, TI, TO, i1, i2] z (fun i h => IsZip h z TI TO .none ∧ IsPair h TI (.ref i1) (.ref i2) ∧ (∃ x y, IsPair h TO x y) ∧ h.IsListIter i1 a i ∧ h.IsTupleIter i2 b i) where
  mem := by simp
  obj := fun i h st c hc => by
    obtain ⟨hz, hTI, ⟨x, y, hTO⟩, ⟨o1, e1, _, d1⟩, ⟨o2, e2, _, d2⟩⟩ := st
    have e' : c = z ∨ c = TI ∨ c = TO ∨ c = i1 ∨ c = i2 := by simpa using hc
    rcases e' with q | q | q | q | q
    · rw [q]; exact ⟨_, hz, fun v q => nomatch q⟩
    · rw [q]; exact ⟨_, hTI, fun v q => nomatch q⟩
    · rw [q]; exact ⟨_, hTO, fun v q => nomatch q⟩
    · rw [q]; exact ⟨o1, e1, fun v q => by rw [d1] at q; cases q⟩
    · rw [q]; exact ⟨o2, e2, fun v q => by rw [d2] at q; cases q⟩
  keep := fun i h h' st k => by
    obtain ⟨hz, hTI, ⟨x, y, hTO⟩, h1, h2⟩ := st
    exact ⟨k z (by simp) _ hz, k TI (by simp) _ hTI, ⟨x, y, k TO (by simp) _ hTO⟩, h1.at fun o q => k i1 (by simp) o q, h2.at fun o q => k i2 (by simp) o q⟩
  item := by
    intro X hP hw hK hc i pins s σ H E I hf st hg
    subst hP hw hK
    obtain ⟨hz, hTI, ⟨x0, y0, hTO⟩, h1, h2⟩ := st
    obtain ⟨xs, ys, x, y, hqx, hqy, hx, hy⟩ := hg
    obtain ⟨its, rv, p, _⟩ := I.list hqx
    obtain ⟨its2, rv2, p2, _⟩ := I.tuple hqy
    obtain ⟨u, hu, ru⟩ := rv.get hx
    obtain ⟨u2, hu2, ru2⟩ := rv2.get hy
    have hzl : z < s.heap.objs.size := Heap.lt_size hz
    refine side_pyNext_item D (side_list i1 a its.toArray) (side_tup i2 b its2.toArray) hz hTI hTO h1 h2 p.isList p2 (x := u) (y := u2) (by simpa using hu) (by simpa using hu2) fun h' z' TO' h1' h2' hT hsz hk => ?_
    refine ⟨_, rfl, wpAny_letOwnedTupleGo_zip (s := { s with heap := h' }) z' fun h'' z'' sb => ?_⟩
    have hT2 : h''.get? s.heap.objs.size = some { cls := .type "tuple", data := .seq #[u, u2] } := (sb.2 _ (Nat.ne_of_gt hzl)).trans hT
    have new : ObjOk X.prog X.w (upd H s.heap.objs.size (.tup [x, y])) h'' s.heap.objs.size (.tup [x, y]) :=
      ⟨by show 2 ≤ sizeLine; decide, [u, u2], .cons ru (.cons ru2 .nil), ⟨_, hT2, rfl, _, rfl⟩⟩
    have I1 : Inv X pins σ (upd H s.heap.objs.size (.tup [x, y])) { s with heap := h'' } :=
      I.turnedNew (t' := s.toks) (ch := [z, TI, TO, i1, i2]) (fun c o hb q => (sb.2 c (fun q' => hb (by simp [q']))).trans (hk c o (fun q' => hb (by simp [q'])) (fun q' => hb (by simp [q'])) (fun q' => hb (by simp [q'])) (fun q' => hb (by simp [q'])) q)) hf (Nat.le_refl _) new
    refine ⟨.ref s.heap.objs.size, _, I1, rfl, ⟨_, x, y, rfl, I.hok.fresh (Nat.le_refl _), rfl, fun l hl => by rw [I.list_inj hl hqx]; exact hx, fun l hl => by rw [I.tuple_inj hl hqy]; exact hy⟩, ⟨z'', ?_, ⟨u, u2, ?_⟩, ?_, ?_⟩, fun c hcm => ?_⟩
    · exact (sb.2 _ D.TIz).trans (hk _ _ D.TIz D.TITO D.TIi1 D.TIi2 hTI)
    · exact (sb.2 _ D.TOz).trans TO'
    · exact h1'.at fun o q => (sb.2 _ D.i1z).trans q
    · exact h2'.at fun o q => (sb.2 _ D.i2z).trans q
    · have hlt : c < s.heap.objs.size := by
        have e' : c = z ∨ c = TI ∨ c = TO ∨ c = i1 ∨ c = i2 := by simpa using hcm
        rcases e' with q | q | q | q | q
        · rw [q]; exact hzl
        · rw [q]; exact Heap.lt_size hTI
        · rw [q]; exact Heap.lt_size hTO
        · rw [q]; obtain ⟨_, e1, _⟩ := h1; exact Heap.lt_size e1
        · rw [q]; obtain ⟨_, e2, _⟩ := h2; exact Heap.lt_size e2
      rw [upd_ne (Nat.ne_of_lt hlt)]
      exact (hf c hcm).1
  done := by
    intro X hP hw hK hc i pins s σ H E I hf st hg
    subst hP hw hK
    obtain ⟨hz, hTI, ⟨x0, y0, hTO⟩, h1, h2⟩ := st
    obtain ⟨xs, ys, hqx, hqy, hend⟩ := hg
    obtain ⟨its, rv, p, _⟩ := I.list hqx
    obtain ⟨its2, rv2, p2, _⟩ := I.tuple hqy
    have l1 := rv.length
    have l2 := rv2.length
    have he : its.toArray[i]? = none ∨ its2.toArray[i]? = none := by
      rcases hend with q | q
      · exact .inl (by simp; omega)
      · exact .inr (by simp; omega)
    exact side_pyNext_end (I.ok.hd hc) D (side_list i1 a its.toArray) (side_tup i2 b its2.toArray) hz hTI hTO h1 h2 p.isList p2 he fun h' hk => ⟨rfl, I.turnedL (t' := s.toks) (ch := [z, TI, TO, i1, i2]) (fun c o hb q =>
      hk c o (fun q' => hb (by simp [q'])) (fun q' => hb (by simp [q'])) (fun q' => hb (by simp [q'])) (fun q' => hb (by simp [q'])) q) hf⟩
  self := fun A i s Q E st h => wpAny_pyIter_zip st.1 h
def iZipM (K : PySem.W.Frag) (ta : TA) : TI := fun σ H R => ta σ H fun vs H1 => ∃ a b xs ys, vs = [.ref a, .ref b] ∧ SqL K H1 a xs ∧ SqT K H1 b ys ∧ R (ItzM K a b) H1
theorem pi_zipLT {X : Cx} {K : PySem.W.Frag} {e e2 : Expr} {ta : TA} {p pos tpos : Pos} {elts : List Expr} {kk : Nat} (hg : Gl X "zip") (hm : X.mg "zip" = none) (ha : PA X [e, e2] ta) (hK : X.K = K := by rfl)
    (hs : starEach [e, e2] X.env = (false, eval e X.env) :: starEach [e2] X.env := by rfl) (hpl : (backTo pos (starEach [e2] X.env)).any (·.1) = false := by rfl) :
    PI X (.Tuple elts kk tpos) (.Call (.Name "zip" p) [e, e2] [] pos) (iZipM K ta) := by
  subst hK
  refine ⟨fun pins s σ H R I h => ?_⟩
  refine Call_ (ld_blt I hg hm PyProof.Rows.boot_zip (PyProof.Rows.callWith_type1 (thn (ha.run pos pins s σ H _ I h) fun us s1 ⟨vs, H1, I1, r1, q1⟩ => ?_) hs hpl))
  obtain ⟨a, b, xs, ys, ex, hqx, hqy, q⟩ := q1
  subst ex
  cases r1 with
  | cons r rr =>
    cases rr with
    | cons r' rr =>
      cases rr
      cases r
      cases r'
      have fresh5 : ∀ c, c ∈ [s1.heap.objs.size + 4, s1.heap.objs.size + 2, s1.heap.objs.size + 3, s1.heap.objs.size, s1.heap.objs.size + 1] → FpOk X pins H1 c := fun c hcm => by
        have e' : c = s1.heap.objs.size + 4 ∨ c = s1.heap.objs.size + 2 ∨ c = s1.heap.objs.size + 3 ∨ c = s1.heap.objs.size ∨ c = s1.heap.objs.size + 1 := by simpa using hcm
        have hle : s1.heap.objs.size ≤ c := by omega
        exact I1.fpOk hle (I1.hok.fresh hle)
      obtain ⟨its, rv, p1, _⟩ := I1.list hqx
      obtain ⟨its2, rv2, p2, _⟩ := I1.tuple hqy
      obtain ⟨o2, ho2, _⟩ := id p2
      refine mz_call p1.isList (show s1.heap.IsTuple b its2.toArray from p2) fun h' hz hTI hTO h1 h2 hk => wpAny_pyIter_zip hz ?_
      have I2 : Inv X pins σ H1 { s1 with heap := h' } := I1.kept (t' := s1.toks) hk
      exact ⟨s1.heap.objs.size + 4, [s1.heap.objs.size + 4, s1.heap.objs.size + 2, s1.heap.objs.size + 3, s1.heap.objs.size, s1.heap.objs.size + 1], _, _, H1, rfl, I2, mz_turn (PySem.W.ktu_apart s1.heap.objs.size a b p1.lt (Heap.lt_size ho2)), ⟨hz, hTI, ⟨_, _, hTO⟩, h1, h2⟩, fresh5, q⟩
theorem walk_zipM {K : PySem.W.Frag} {a b : Addr} {xs ys : List V} {n : Nat} (hn : n = min xs.length ys.length) : Walk (ItzM K a b) n (fun H => SqL K H a xs ∧ SqT K H b ys) (YPair (fun i => xs[i]?) (fun i => ys[i]?)) := by
  subst hn
  refine ⟨fun i _ hi q => ?_, fun _ q => ⟨xs, ys, q.1, q.2, by omega⟩, fun i H v H' _ q y => ?_⟩
  · have h1 : i < xs.length := by omega
    have h2 : i < ys.length := by omega
    exact ⟨xs, ys, xs[i], ys[i], q.1, q.2, by simp [h1], by simp [h2]⟩
  · obtain ⟨T, x, z, h1, h2, h3, h4, h5⟩ := y
    exact ⟨T, x, z, h1, h2, h3, h4 xs q.1, h5 ys q.2⟩
end Fo
set_option maxHeartbeats 2000000
/-! FoF: trace, gain_of, total_of. -/
namespace Fo
open PySem PySem.Spec PyProof.Rows L2 GxR
local macro_rules | `(tactic| walk_at "hp") => `(tactic| first
  | assumption
  | exact upd_same
  | (refine' upd_old ?n ?h; (case n => assumption); (case h => walk_at "hp"))
  | (refine' Kp.get ?k ?h rfl; (case k => assumption); (case h => walk_at "hp")))
local macro_rules | `(tactic| walk_at "kp") => `(tactic| first
  | exact Kp.refl _
  | assumption
  | exact Kp.new (by assumption)
  | (refine' Kp.trans ?a ?b; (case b => first | assumption | exact Kp.new (by assumption)); (case a => walk_at "kp")))
local macro_rules | `(tactic| walk_at "rd") => `(tactic| first
  | ((with_reducible show tVar _ _ _ _); refine ⟨_, rfl, ?_⟩)
  | ((with_reducible show tC _ _ _ _); refine rd_c ?_)
  | ((with_reducible show tSeq _ _ _ _ _); refine rd_seq ?_)
  | ((with_reducible show tAsg _ _ _ _ _); refine rd_asg ?_)
  | ((with_reducible show gName _ _ _ _ _); refine rd_name ?_)
  | ((with_reducible show tRet _ _ _ _); refine rd_ret ?_)
  | ((with_reducible show tOp _ _ _ _ _ _); refine rd_op ?_)
  | ((with_reducible show tCons _ _ _ _ _); refine rd_cons ?_)
  | ((with_reducible show tNil _ _ _); refine rd_nil ?_)
  | ((with_reducible show tCal _ _ _ _ _); refine rd_cal ?_)
  | ((with_reducible show tCB _ _ _ _ _); refine rd_cb ?_)
  | ((with_reducible show tTest _ _ _ _); refine rd_test ?_)
  | ((with_reducible show tB _ _ _ _); refine rd_B ?_)
  | ((with_reducible show tNot _ _ _ _); refine rd_not ?_)
  | ((with_reducible show tAnd _ _ _ _ _); refine rd_and ?_)
  | ((with_reducible show tOr _ _ _ _ _); refine rd_or ?_)
  | ((with_reducible show tAndV _ _ _ _ _); refine rd_andV ?_)
  | ((with_reducible show tNotV _ _ _ _); refine rd_notV ?_)
  | ((with_reducible show tChain _ _ _ _ _ _ _ _); refine rd_chain ?_)
  | ((with_reducible show tIfS _ _ _ _ _ _); refine rd_ifs ?_)
  | ((with_reducible show tDrop _ _ _ _); refine rd_drop ?_)
  | ((with_reducible show tFor _ _ _ _ _ _); refine rd_forG ?_)
  | ((with_reducible show iTup _ _ _ _ _); refine rd_itup ?_)
  | ((with_reducible show iList _ _ _ _ _); refine rd_ilist ?_)
  | ((with_reducible show rI0 _ _ _ _ _); refine ⟨_, _, rfl, rfl, ?_⟩)
  | ((with_reducible show rAdd _ _ _ _); refine ⟨_, _, rfl, rfl, ?_⟩)
  | ((with_reducible show rSub _ _ _ _); refine ⟨_, _, rfl, rfl, ?_⟩)
  | ((with_reducible show rIxT _ _ _ _ _); refine' rd_ix ?h ?a ?_; (case h => walk_at "hp"); (case a => first | rfl | assumption))
  | ((with_reducible show rIxL _ _ _ _ _); refine' rd_ixL ?h ?a ?_; (case h => walk_at "hp"); (case a => first | rfl | assumption))
  | ((with_reducible show tTup _ _ _ _); refine rd_tup ?_)
  | ((with_reducible show tLst _ _ _ _); refine rd_lst ?_)
  | ((with_reducible show tAllG _ _ _ _ _ _ _ _); refine rd_allG ?_)
  | ((with_reducible show tAnyG _ _ _ _ _ _ _ _); refine rd_anyG ?_)
  | ((with_reducible show tSumG _ _ _ _ _ _ _ _); refine rd_sumG ?_)
  | ((with_reducible show tLc _ _ _ _ _ _ _ _); refine rd_lc ?_)
  | ((with_reducible show tNext _ _ _); refine rd_next ?_)
  | ((with_reducible show tBreak _ _ _); refine rd_break ?_)
  | ((with_reducible show tDGet _ _ _ _ _); refine rd_dget ?_)
  | ((with_reducible show tDNewT _ _ _); refine rd_dnew ?_)
  | ((with_reducible show StX.tStar _ _ _ _ _ _); refine rd_star ?_)
  | ((with_reducible show tSl _ _ _ _ _ _ _); refine rd_sl ?_)
  | ((with_reducible show sDPut _ _ _ _ _ _); refine rd_dput ?_)
  | ((with_reducible show tBM _ _ _ _ _ _ _ _); refine rd_bm ?_)
  | ((with_reducible show tPar _ _ _ _ _ _); refine rd_par ?_)
  | ((with_reducible show tPar3 _ _ _ _ _ _ _); refine rd_par3 ?_)
  | ((with_reducible show iRng1 _ _ _ _); refine rd_rng1 ?_)
  | ((with_reducible show tUn _ _ _ _ _); refine rd_un ?_)
  | ((with_reducible show rU _ _ _ _); refine ⟨_, rfl, ?_⟩)
  | ((with_reducible show tPart _ _ _ _); refine rd_part ?_)
  | ((with_reducible show tNoPart _ _ _); refine rd_nopart ?_)
  | ((with_reducible show iRng2 _ _ _ _); refine rd_rng2 ?_)
  | ((with_reducible show iRng3 _ _ _ _); refine rd_rng3 ?_)
  | ((with_reducible show gSub _ _ _ _ _ _ _); refine rd_gsub ?_)
  | ((with_reducible show tDcT _ _ _ _ _ _ _ _); refine rd_dcT ?_)
  | ((with_reducible show tYes _ _ _); refine rd_yes ?_)
  | ((with_reducible show rLenS _ _ _ _); refine' rd_len ?h ?_; (case h => first | (refine' Or.inr (SqT.of ?z); (case z => walk_at "hp")) | (refine' Or.inl (SqL.of ?z); (case z => walk_at "hp"))))
  | ((with_reducible show gTup _ _ _ _ _ _ _); refine' rd_gtup ?h ?l ?_; (case h => refine' SqT.of ?z; (case z => walk_at "hp")); (case l => rfl))
  | ((with_reducible show gCons _ _ _ _ _ _); refine ⟨_, _, rfl, ?_⟩)
  | ((with_reducible show gNil _ _ _ _); refine ⟨rfl, ?_⟩))

theorem rd_zipM {σ : L2.St} {H : Hp} {K : PySem.W.Frag} {t : TA} {R : It → Hp → Prop} (q : t σ H fun vs H1 => ∃ a b xs ys, vs = [.ref a, .ref b] ∧ SqL K H1 a xs ∧ SqT K H1 b ys ∧ R (ItzM K a b) H1) : iZipM K t σ H R := q
section
variable {P : Program} {w : World} {K : PySem.W.Frag} {mg : Str → Option Value} {base : Heap}
/-! ### trace -/
abbrev s_trace : Stmt := topS 20
abbrev N_trace : List Str := ["web", "gathering", "row", "found", "person"]
abbrev P_trace : List Str := ["web", "gathering", "row"]
theorem sc_trace : FnScope N_trace P_trace (defScope s_trace) := ⟨rfl, rfl, rfl, by decide +kernel, rfl, by decide +kernel, by decide +kernel⟩
def tracesV (ps : List (Int × Int)) (g row : List Int) (k : Nat) : List (List Int) := (List.range k).map fun j => stateV ps g (row.take j)
def sp_trace : Sp := fun vs H Q _ => ∃ (a b r : Addr) (n : Nat) (ps : List (Int × Int)) (g row : List Int), vs = [.ref a, .ref b, .ref r] ∧ Web H a n ps ∧ WebOk n ps ∧ H b = some (iv g) ∧ g ∈ gathV n ps ∧ H r = some (iv row) ∧ (∀ x ∈ row, 0 ≤ x ∧ x < n) ∧ row.length ≤ 30 ∧
  ∀ d H' L, Kp H H' → H' d = some (.lst (refs L)) → Its H' L → L.map (·.2) = tracesV ps g row (row.length + 1) → Q (.ref d) H'
theorem ok_trace {f : Addr} {fd : FuncData} (F : Fun K "trace" "trace" s_trace f fd) (nm : Nm mg) (C_came : Cal P w K mg base "came" 2 P_came sp_came) : FnOk P w K mg base CX0 3 f fd P_trace sp_trace := by
  refine F.ok sc_trace (fun vs H Q E h => ?_) (fun cdv A outer s H vs Q E hr h => ?_)
  · obtain ⟨a, b, r, n, ps, g, row, rfl, _⟩ := h
    rfl
  · obtain ⟨a, b, r, n, ps, g, row, rfl, web, ok, hb, hg, hrow, hx, hl, q⟩ := h
    refine ⟨_, (pss_cons (ps_set (i := 3) sc_trace.nd rfl (Or.inl rfl) (pe_lst (pa_cons (pv 1) pa_nil)))
      (pss_cons (ps_for PassesOwn.never rfl (k_piT (K := K) (pv 2)) (pg_name (i := 4) sc_trace.nd rfl (Or.inl rfl))
        (pss_one (ps_expr (pe_bm PySem.F.plainAttrs_list PySem.F.slot_list_append PySem.F.type_list_append mt_append (pv 3) (pa_cons (pe_cal C_came (hr.mono (by decide)) (by rfl) (pa_cons (pv 0) (pa_cons (pe_ix (k_ixL (K := K)) (pv 3) (pe_un un_neg pe_int) (fun _ _ => rfl)) (pa_cons (pv 4) pa_nil)))) pa_nil)))))
      (pss_one (ps_ret (pv 3))))), ?_⟩
    repeat walk_at "rd"
    refine ⟨sz (show (1 : Nat) ≤ 1000 by decide), fun D nD => ?_⟩
    repeat walk_at "rd"
    refine ⟨_, rfl, ⟨_, SqT.of (upd_old nD hrow)⟩, ?_⟩
    refine g_for walk_tup (fun i σ H' => ∃ (o : Option V) (L : LP), σ = [some (.ref a), some (.ref b), some (.ref r), some (.ref D), o] ∧ Kp H H' ∧ H' D = some (.lst (refs L)) ∧ Its H' L ∧ L.map (·.2) = tracesV ps g row (i + 1))
      ⟨none, [(b, g)], rfl, Kp.new nD, upd_same, Its.cons (upd_old nD hb) Its.nil, rfl⟩ (fun i σ H' _ pv => by obtain ⟨_, _, _, k, _⟩ := pv; exact SqT.of (k.get hrow)) (fun i x σ H1 H2 hi pv y => ?_) (fun σ H1 pv => ?_)
    · obtain ⟨o, L, rfl, k, hD, hL, hm⟩ := pv
      obtain ⟨rfl, hx'⟩ := y
      obtain ⟨x', e1, rfl⟩ := ints_get hx'
      rw [List.length_map] at hi
      repeat walk_at "rd"
      refine ⟨.inl ⟨rfl, _, SqL.of hD⟩, ?_⟩
      have hi1 : i < row.length := by simpa using hi
      have ll : L.length = i + 1 := by
        have := congrArg List.length hm
        unfold tracesV at this
        rw [List.length_map, List.length_map, List.length_range] at this
        exact this
      obtain ⟨M, z, rfl⟩ : ∃ M z, L = M ++ [z] := by
        rcases List.eq_nil_or_concat L with e | ⟨M, z, e⟩
        · rw [e] at ll; cases ll
        · exact ⟨M, z, by rw [e, List.concat_eq_append]⟩
      have ez : z.2 = stateV ps g (row.take i) := by
        unfold tracesV at hm
        rw [List.range_succ, List.map_append, List.map_append] at hm
        have := (List.append_inj' hm rfl).2
        simpa using this
      have zin : stateV ps g (row.take i) ∈ gathV n ps := state_in ok _ hg fun x hx2 => hx x (List.mem_of_mem_take hx2)
      have zl : z.2.length ≤ 60 := by
        rw [ez]
        have := (gathV_mem.mp zin).1.len
        have := ok.hi
        omega
      have a1 : atI (refs (M ++ [z])) (-1) = some (.ref z.1) := by rw [refs_app]; exact atI_last _ _
      repeat walk_at "rd"
      refine ⟨a, z.1, n, ps, z.2, x', rfl, web.kp k, hL z (by simp), zl, fun d H3 k3 hd => ?_⟩
      repeat walk_at "rd"
      have hD3 := k3.get hD
      refine rd_app hD3 (by rw [refs_len, ll]; omega) ?_
      refine ⟨_, M ++ [z] ++ [(d, comeV ps z.2 x')], rfl, (k.trans k3).mutL nD hD3, ?_, ?_, ?_⟩
      · rw [upd_same, refs_app (M ++ [z])]
        rfl
      · intro q0 hq0
        have h3 : H3 q0.1 = some (iv q0.2) := ((hL.kp k3).snoc hd) q0 hq0
        rw [upd_ne (fun e => by rw [e, hD3] at h3; cases h3)]
        exact h3
      · rw [List.map_append, hm]
        unfold tracesV
        rw [List.range_succ (n := i + 1), List.map_append]
        congr 1
        have et : row.take (i + 1) = row.take i ++ [x'] := by
          rw [List.take_succ, e1]
          rfl
        show [comeV ps z.2 x'] = [stateV ps g (row.take (i + 1))]
        rw [et, state_snoc, ez]
    · obtain ⟨o, L, rfl, k, hD, hL, hm⟩ := pv
      repeat walk_at "rd"
      rw [List.length_map] at hm
      exact q D _ L k hD hL hm
/-! ### gain_of -/
abbrev s_gain_of : Stmt := topS 24
abbrev N_gain_of : List Str := ["gains", "gathering", "person"]
abbrev P_gain_of : List Str := ["gains", "gathering"]
theorem sc_gain_of : FnScope N_gain_of P_gain_of (defScope s_gain_of) := ⟨rfl, rfl, rfl, by decide +kernel, rfl, by decide +kernel, by decide +kernel⟩
def sp_gain_of (T : List Addr) : Sp := fun vs H Q _ => ∃ (b e : Addr) (gs xs : List Int), vs = [.ref b, .ref e] ∧ Tb T H ∧ H b = some (iv gs) ∧ H e = some (iv xs) ∧ (∀ x ∈ gs, 0 ≤ x ∧ x ≤ 1000) ∧ (∀ x ∈ xs, 0 ≤ x ∧ x < gs.length) ∧ xs.length ≤ 60 ∧ ∀ H', Kp H H' → Q (.int (gainV gs xs)) H'
theorem at_get {xs : List Int} {p : Int} (h0 : 0 ≤ p) (h1 : p < xs.length) : atI (xs.map V.int) p = some (.int (at' xs p)) := by
  have e : p = ((p.toNat : Nat) : Int) := by omega
  rw [e]
  refine atI_nat ?_
  unfold at'
  have h2 : p.toNat < xs.length := by omega
  rw [List.getElem?_map, Int.toNat_natCast, List.getD_eq_getElem?_getD, List.getElem?_eq_getElem h2]
  rfl
theorem ok_gain_of {f c Pt : Addr} {fd : FuncData} {T : List Addr} (F : FunT K "gain_of" "gain_of" s_gain_of f fd c) (nm : Nm mg) (TB : LamX.TabB base mg c Pt) (hT : Pt ∈ T) : FnOk P w K mg base CX0 2 f fd P_gain_of (sp_gain_of T) := by
  refine F.ok sc_gain_of (fun vs H Q E h => ?_) (fun A outer s H vs Q E hr h => ?_)
  · obtain ⟨b, e, gs, xs, rfl, _⟩ := h
    rfl
  · obtain ⟨b, e, gs, xs, rfl, tb, hb, he, hg, hx, hl, q⟩ := h
    have hcode : (cxOf CX0 P w K mg base N_gain_of "gain_of" (defScope s_gain_of) f (.ref c) A outer s H E).nox.env.code = .ref c := rfl
    refine ⟨_, (pss_one (ps_ret (pe_sumG (k := 0) (own := [("person", 2)]) (hr.mono (by decide)) rfl sc_gain_of.nd (by rfl) nm.m_sum TB hcode (gok_by (N := N_gain_of) (sc := defScope s_gain_of) (own := [("person", 2)]) (by decide +kernel) rfl (by decide +kernel) rfl) (k_piT (K := K) (pv 1)) (fun _ _ _ _ _ _ _ hR => (pg_name (i := 2) sc_gain_of.nd rfl (Or.inl rfl))) (fun _ _ _ _ _ _ _ hR => (pe_ix (k_ixT (K := K)) (pv 0) (pv 2) (fun _ _ => rfl)))))), ?_⟩
    repeat walk_at "rd"
    refine ⟨_, rfl, ⟨_, SqT.of he⟩, ?_⟩
    refine g_sum walk_tup (tb _ hT) (fun H' k => SqT.of (k.get he)) (fun i => at' gs (xs.getD i 0)) (preSum_fit (B := 1000) (fun j _ => by have := at_bd hg (xs.getD j 0); omega) (by decide) (by decide) (by rw [List.length_map]; omega)) (fun R i x H1 H' hi k y hR => ?_) (fun H1 k => ?_)
    · obtain ⟨rfl, hx'⟩ := y
      obtain ⟨x', e1, rfl⟩ := ints_get hx'
      have m := hx x' (List.mem_of_getElem? e1)
      have hb1 : H' b = _ := k.get hb
      have a1 := at_get (xs := gs) m.1 m.2
      repeat walk_at "rd"
      refine ⟨rfl, ?_⟩
      repeat walk_at "rd"
      have := hR H' k
      rw [List.getD_eq_getElem?_getD, e1] at this
      exact this
    · rw [List.length_map, ← gain_pre]
      exact q _ k
/-! ### total_of -/
abbrev s_total_of : Stmt := topS 33
abbrev N_total_of : List Str := ["web", "start", "gains", "costs", "row", "some", "there", "person"]
abbrev P_total_of : List Str := ["web", "start", "gains", "costs", "row"]
theorem sc_total_of : FnScope N_total_of P_total_of (defScope s_total_of) := ⟨rfl, rfl, rfl, by decide +kernel, rfl, by decide +kernel, by decide +kernel⟩
def sp_total_of (T : List Addr) : Sp := fun vs H Q _ => ∃ (a b gg cc r : Addr) (n : Nat) (ps : List (Int × Int)) (g gs cs row : List Int), vs = [.ref a, .ref b, .ref gg, .ref cc, .ref r] ∧ Tb T H ∧ Web H a n ps ∧ WebOk n ps ∧ H b = some (iv g) ∧ g ∈ gathV n ps ∧
  H gg = some (iv gs) ∧ gs.length = n ∧ (∀ x ∈ gs, 0 ≤ x ∧ x ≤ 1000) ∧ H cc = some (iv cs) ∧ cs.length = n ∧ (∀ x ∈ cs, 0 ≤ x ∧ x ≤ 1000) ∧ H r = some (iv row) ∧ (∀ x ∈ row, 0 ≤ x ∧ x < n) ∧ row.length ≤ 30 ∧ ∀ H', Kp H H' → Q (.int (totalV ps gs cs g row)) H'
theorem ok_total_of {f c Pt : Addr} {fd : FuncData} {T : List Addr} (F : FunT K "total_of" "total_of" s_total_of f fd c) (nm : Nm mg) (TB : LamX.TabB base mg c Pt) (hT : Pt ∈ T) (C_trace : Cal P w K mg base "trace" 3 P_trace sp_trace)
    (C_gain_of : Cal P w K mg base "gain_of" 2 P_gain_of (sp_gain_of T)) : FnOk P w K mg base CX0 4 f fd P_total_of (sp_total_of T) := by
  refine F.ok sc_total_of (fun vs H Q E h => ?_) (fun A outer s H vs Q E hr h => ?_)
  · obtain ⟨a, b, gg, cc, r, n, ps, g, gs, cs, row, rfl, _⟩ := h
    rfl
  · obtain ⟨a, b, gg, cc, r, n, ps, g, gs, cs, row, rfl, tb, web, ok, hb, hg, hgs, gl, gx, hcs, cl, cx, hrow, rx, rl, q⟩ := h
    have hcode : (cxOf CX0 P w K mg base N_total_of "total_of" (defScope s_total_of) f (.ref c) A outer s H E).nox.env.code = .ref c := rfl
    refine ⟨_, (pss_cons (ps_set (i := 5) sc_total_of.nd rfl (Or.inl rfl) (pe_slice (k_slL (K := K)) (pe_cal C_trace (hr.mono (by decide)) (by rfl) (pa_cons (pv 0) (pa_cons (pv 1) (pa_cons (pv 4) pa_nil)))) (po_some pe_int) po_none))
      (pss_one (ps_ret (pe_sumG (k := 2) (own := [("there", 6), ("person", 7)]) (hr.mono (by decide)) rfl sc_total_of.nd (by rfl) nm.m_sum TB hcode (gok_by (N := N_total_of) (sc := defScope s_total_of) (own := [("there", 6), ("person", 7)]) (by decide +kernel) rfl (by decide +kernel) rfl) (pi_zipLT (by rfl) nm.m_zip (pa_cons (pv 5) (pa_cons (pv 4) pa_nil))) (fun _ _ _ _ _ _ _ hR => (k_pgT (K := K) (n := 2) rfl (pgs_cons (pg_name (i := 6) sc_total_of.nd rfl (Or.inl rfl)) (pgs_cons (pg_name (i := 7) sc_total_of.nd rfl (Or.inl rfl)) pgs_nil)))) (fun _ _ _ _ _ _ _ hR => (pe_op op_sub (pe_cal C_gain_of (hR.mono (by decide)) (by rfl) (pa_cons (pv 2) (pa_cons (pv 6) pa_nil))) (pe_ix (k_ixT (K := K)) (pv 3) (pv 7) (fun _ _ => rfl)))))))), ?_⟩
    repeat walk_at "rd"
    refine ⟨a, b, r, n, ps, g, row, rfl, web, ok, hb, hg, hrow, rx, rl, fun D H1 L k1 hD hL hm => ?_⟩
    repeat walk_at "rd"
    refine ⟨_, rfl, ?_⟩
    repeat walk_at "rd"
    have ll : L.length = row.length + 1 := by
      have := congrArg List.length hm
      unfold tracesV at this
      rw [List.length_map, List.length_map, List.length_range] at this
      exact this
    refine ⟨D, _, rfl, SqL.of hD, fun D2 nD2 => ?_⟩
    have ec : cutV (refs L) (some 1) none = refs (L.drop 1) := by
      have e1 : HT.sIx (refs L).length 0 (some ((1 : Nat) : Int)) = 1 := by rw [HT.sIx_nat, refs_len, ll]; omega
      have e1' : HT.sIx (refs L).length 0 (some 1) = 1 := e1
      have e2 : HT.sIx (refs L).length (refs L).length none = row.length + 1 := by rw [HT.sIx_none, refs_len, ll]
      unfold cutV
      rw [e1', e2]
      unfold refs
      rw [← List.map_drop, List.take_of_length_le (by rw [List.length_map, List.length_drop]; omega)]
    rw [ec]
    repeat walk_at "rd"
    have hD2 : (upd H1 D2 (.lst (refs (L.drop 1)))) D2 = some (.lst (refs (L.drop 1))) := upd_same
    have k2 : Kp H (upd H1 D2 (.lst (refs (L.drop 1)))) := k1.trans (Kp.new nD2)
    have hL2 := hL.kp (Kp.new (o := .lst (refs (L.drop 1))) nD2)
    generalize upd H1 D2 (.lst (refs (L.drop 1))) = H2 at *
    refine rd_zipM ?_
    repeat walk_at "rd"
    refine ⟨D2, r, _, _, rfl, SqL.of hD2, SqT.of (k2.get hrow), ?_⟩
    have n2 := ok.hi
    have st : ∀ j, j ≤ row.length → stateV ps g (row.take j) ∈ gathV n ps := fun j _ => state_in ok _ hg fun x hx2 => rx x (List.mem_of_mem_take hx2)
    have bd : ∀ j, j < row.length → -61000 ≤ stepV ps gs cs (stateV ps g (row.take j)) (row.getD j 0) ∧ stepV ps gs cs (stateV ps g (row.take j)) (row.getD j 0) ≤ 61000 := fun j hj => by
      have h1 := gain_bd (gs := gs) (xs := comeV ps (stateV ps g (row.take j)) (row.getD j 0)) gx (by
        have h2 := come_len (ps := ps) (stateV ps g (row.take j)) (row.getD j 0)
        have h3 := (gathV_mem.mp (st j (by omega))).1.len
        omega)
      have h4 := at_bd cx (row.getD j 0)
      unfold stepV
      omega
    have lm : min (refs (L.drop 1)).length (row.map V.int).length = row.length := by rw [refs_len, List.length_drop, List.length_map, ll]; omega
    refine g_sum (walk_zipM (xs := refs (L.drop 1)) (ys := row.map V.int) rfl) (tb.kp k2 _ hT) (fun H' k => ⟨SqL.of (k.get hD2), SqT.of (k.get (k2.get hrow))⟩) (fun j => stepV ps gs cs (stateV ps g (row.take j)) (row.getD j 0)) ?_ (fun R i x H3 H4 hi k y hR => ?_) (fun H3 k => ?_)
    · rw [lm]
      exact preSum_fit (B := 61000) bd (by decide) (by decide) (by omega)
    · rw [lm] at hi
      obtain ⟨Tp, x1, y1, rfl, nT, rfl, hx1, hy1⟩ := y
      obtain ⟨q0, e0, rfl, m0⟩ := refs_get hx1
      obtain ⟨p, ep, rfl⟩ := ints_get hy1
      have k3 : Kp H2 (upd H3 Tp (.tup [V.ref q0.1, V.int p])) := k.trans (Kp.new nT)
      have k4 := k2.trans k3
      have mq : q0 ∈ L := List.mem_of_mem_drop m0
      have hp : row.getD i 0 = p := by rw [List.getD_eq_getElem?_getD, ep]; rfl
      have e5 : q0.2 = stateV ps g (row.take (i + 1)) := by
        have : (L.map (·.2))[i + 1]? = some q0.2 := by
          rw [List.getElem?_drop] at e0
          rw [List.getElem?_map, show i + 1 = 1 + i by omega, e0]
          rfl
        rw [hm] at this
        unfold tracesV at this
        rw [List.getElem?_map, List.getElem?_range (by omega)] at this
        exact (Option.some.inj this).symm
      have e6 : stateV ps g (row.take (i + 1)) = comeV ps (stateV ps g (row.take i)) p := by
        rw [← state_snoc, List.take_succ, ep]
        rfl
      have pin := rx p (List.mem_of_getElem? ep)
      have hcc : (upd H3 Tp (.tup [V.ref q0.1, V.int p])) cc = some (iv cs) := k4.get hcs
      have hgg : (upd H3 Tp (.tup [V.ref q0.1, V.int p])) gg = some (iv gs) := k4.get hgs
      have hqq := k3.get (hL2 q0 mq)
      have hT0 : (upd H3 Tp (.tup [V.ref q0.1, V.int p])) Tp = some (.tup [V.ref q0.1, V.int p]) := upd_same
      generalize upd H3 Tp (.tup [V.ref q0.1, V.int p]) = H5 at *
      have sin := gathV_mem.mp (st (i + 1) (by omega))
      rw [← e5] at sin
      repeat walk_at "rd"
      refine ⟨rfl, ?_⟩
      repeat walk_at "rd"
      refine ⟨gg, q0.1, gs, q0.2, rfl, tb.kp k4, hgg, hqq, gx, fun x hx2 => by have := sin.1.1 x hx2; omega, by have := sin.1.len; omega, fun H6 k6 => ?_⟩
      have hcc6 := k6.get hcc
      have a1 := at_get (xs := cs) pin.1 (by omega)
      repeat walk_at "rd"
      have := hR H6 (k3.trans k6)
      rw [hp] at this
      unfold stepV at this
      rw [← e6, ← e5] at this
      exact this
    · rw [lm, ← total_all]
      exact q _ (k2.trans k)
end
end Fo
set_option maxHeartbeats 2000000
/-! FoG: tables. -/
namespace Fo
open PySem PySem.Spec PyProof.Rows L2 GxR
local macro_rules | `(tactic| walk_at "hp") => `(tactic| first
  | assumption
  | exact upd_same
  | (refine' upd_old ?n ?h; (case n => assumption); (case h => walk_at "hp"))
  | (refine' Kp.get ?k ?h rfl; (case k => assumption); (case h => walk_at "hp")))
local macro_rules | `(tactic| walk_at "kp") => `(tactic| first
  | exact Kp.refl _
  | assumption
  | exact Kp.new (by assumption)
  | (refine' Kp.trans ?a ?b; (case b => first | assumption | exact Kp.new (by assumption)); (case a => walk_at "kp")))
local macro_rules | `(tactic| walk_at "rd") => `(tactic| first
  | ((with_reducible show tVar _ _ _ _); refine ⟨_, rfl, ?_⟩)
  | ((with_reducible show tC _ _ _ _); refine rd_c ?_)
  | ((with_reducible show tSeq _ _ _ _ _); refine rd_seq ?_)
  | ((with_reducible show tAsg _ _ _ _ _); refine rd_asg ?_)
  | ((with_reducible show gName _ _ _ _ _); refine rd_name ?_)
  | ((with_reducible show tRet _ _ _ _); refine rd_ret ?_)
  | ((with_reducible show tOp _ _ _ _ _ _); refine rd_op ?_)
  | ((with_reducible show tCons _ _ _ _ _); refine rd_cons ?_)
  | ((with_reducible show tNil _ _ _); refine rd_nil ?_)
  | ((with_reducible show tCal _ _ _ _ _); refine rd_cal ?_)
  | ((with_reducible show tCB _ _ _ _ _); refine rd_cb ?_)
  | ((with_reducible show tTest _ _ _ _); refine rd_test ?_)
  | ((with_reducible show tB _ _ _ _); refine rd_B ?_)
  | ((with_reducible show tNot _ _ _ _); refine rd_not ?_)
  | ((with_reducible show tAnd _ _ _ _ _); refine rd_and ?_)
  | ((with_reducible show tOr _ _ _ _ _); refine rd_or ?_)
  | ((with_reducible show tAndV _ _ _ _ _); refine rd_andV ?_)
  | ((with_reducible show tNotV _ _ _ _); refine rd_notV ?_)
  | ((with_reducible show tChain _ _ _ _ _ _ _ _); refine rd_chain ?_)
  | ((with_reducible show tIfS _ _ _ _ _ _); refine rd_ifs ?_)
  | ((with_reducible show tDrop _ _ _ _); refine rd_drop ?_)
  | ((with_reducible show tFor _ _ _ _ _ _); refine rd_forG ?_)
  | ((with_reducible show iTup _ _ _ _ _); refine rd_itup ?_)
  | ((with_reducible show iList _ _ _ _ _); refine rd_ilist ?_)
  | ((with_reducible show rI0 _ _ _ _ _); refine ⟨_, _, rfl, rfl, ?_⟩)
  | ((with_reducible show rAdd _ _ _ _); refine ⟨_, _, rfl, rfl, ?_⟩)
  | ((with_reducible show rSub _ _ _ _); refine ⟨_, _, rfl, rfl, ?_⟩)
  | ((with_reducible show rIxT _ _ _ _ _); refine' rd_ix ?h ?a ?_; (case h => walk_at "hp"); (case a => first | rfl | assumption))
  | ((with_reducible show rIxL _ _ _ _ _); refine' rd_ixL ?h ?a ?_; (case h => walk_at "hp"); (case a => first | rfl | assumption))
  | ((with_reducible show tTup _ _ _ _); refine rd_tup ?_)
  | ((with_reducible show tLst _ _ _ _); refine rd_lst ?_)
  | ((with_reducible show tAllG _ _ _ _ _ _ _ _); refine rd_allG ?_)
  | ((with_reducible show tAnyG _ _ _ _ _ _ _ _); refine rd_anyG ?_)
  | ((with_reducible show tSumG _ _ _ _ _ _ _ _); refine rd_sumG ?_)
  | ((with_reducible show tLc _ _ _ _ _ _ _ _); refine rd_lc ?_)
  | ((with_reducible show tNext _ _ _); refine rd_next ?_)
  | ((with_reducible show tBreak _ _ _); refine rd_break ?_)
  | ((with_reducible show tDGet _ _ _ _ _); refine rd_dget ?_)
  | ((with_reducible show tDNewT _ _ _); refine rd_dnew ?_)
  | ((with_reducible show StX.tStar _ _ _ _ _ _); refine rd_star ?_)
  | ((with_reducible show tSl _ _ _ _ _ _ _); refine rd_sl ?_)
  | ((with_reducible show sDPut _ _ _ _ _ _); refine rd_dput ?_)
  | ((with_reducible show tBM _ _ _ _ _ _ _ _); refine rd_bm ?_)
  | ((with_reducible show tPar _ _ _ _ _ _); refine rd_par ?_)
  | ((with_reducible show tPar3 _ _ _ _ _ _ _); refine rd_par3 ?_)
  | ((with_reducible show iRng1 _ _ _ _); refine rd_rng1 ?_)
  | ((with_reducible show tUn _ _ _ _ _); refine rd_un ?_)
  | ((with_reducible show rU _ _ _ _); refine ⟨_, rfl, ?_⟩)
  | ((with_reducible show tPart _ _ _ _); refine rd_part ?_)
  | ((with_reducible show tNoPart _ _ _); refine rd_nopart ?_)
  | ((with_reducible show iRng2 _ _ _ _); refine rd_rng2 ?_)
  | ((with_reducible show iRng3 _ _ _ _); refine rd_rng3 ?_)
  | ((with_reducible show gSub _ _ _ _ _ _ _); refine rd_gsub ?_)
  | ((with_reducible show tDcT _ _ _ _ _ _ _ _); refine rd_dcT ?_)
  | ((with_reducible show tYes _ _ _); refine rd_yes ?_)
  | ((with_reducible show rLenS _ _ _ _); refine' rd_len ?h ?_; (case h => first | (refine' Or.inr (SqT.of ?z); (case z => walk_at "hp")) | (refine' Or.inl (SqL.of ?z); (case z => walk_at "hp"))))
  | ((with_reducible show gTup _ _ _ _ _ _ _); refine' rd_gtup ?h ?l ?_; (case h => refine' SqT.of ?z; (case z => walk_at "hp")); (case l => rfl))
  | ((with_reducible show gCons _ _ _ _ _ _); refine ⟨_, _, rfl, ?_⟩)
  | ((with_reducible show gNil _ _ _ _); refine ⟨rfl, ?_⟩))

section
variable {J : It} {G : Hp → Prop} {g : TG} {tk tv : TE} {vs : List Nat} {σ : L2.St} {H1 : Hp} {Q : VK}
/-- a dict comprehension over tuples -/
theorem g_dc {L : LP} (w : Walk J (refs L).length G (YAt (refs L))) (hG : ∀ H, Kp H1 H → G H) (hL : Its H1 L) (nd : (L.map (·.2)).Nodup) (hl : L.length ≤ 1000) (f : List Int → V)
    (body : ∀ (R : V → V → Hp → Prop) q H, q ∈ L → Kp H1 H → (∀ H4, Kp H H4 → R (.ref q.1) (f q.2) H4) → g (.ref q.1) (wipe σ vs) H fun σ2 H2 => wipe σ2 vs = wipe σ vs ∧ tk σ2 H2 fun y H3 => tv σ2 H3 fun z H4 => R y z H4)
    (q : ∀ D H, H1 D = none → Kp H1 H → H D = some (.dT (tblV (L.map (·.2)) f)) → Q (.ref D) H) : DcGo g tk tv vs σ Q J H1 := by
  intro D nD
  refine ⟨(refs L).length, fun i H => Kp H1 H ∧ H D = some (.dT (tblV ((L.take i).map (·.2)) f)), ⟨Kp.new nD, upd_same⟩, fun H ⟨k, hd⟩ => ⟨w.stops H (hG H k), ?_⟩, fun i H hi ⟨k, hd⟩ => ⟨w.goes i H hi (hG H k), fun x H' y => ?_⟩⟩
  · refine q D H nD k ?_
    rw [hd, List.take_of_length_le (by rw [refs_len]; exact Nat.le_refl _)]
  · obtain ⟨rfl, hx⟩ := w.yields i H x H' hi (hG H k) y
    obtain ⟨p, e1, rfl, m⟩ := refs_get hx
    rw [refs_len] at hi
    have et : L.take (i + 1) = L.take i ++ [p] := by rw [List.take_succ, e1]; rfl
    refine body _ p H' m k fun H4 k4 => ?_
    have hd4 := k4.get hd
    have hp : H4 p.1 = some (iv p.2) := (k.trans k4).get (hL p m)
    have nm : p.2 ∉ (L.take i).map (·.2) := by
      have h2 : ((L.take (i + 1)).map (·.2)).Nodup := by
        rw [List.map_take]
        exact nd.sublist (List.take_sublist _ _)
      rw [et, List.map_append] at h2
      intro z
      exact (List.nodup_append.mp h2).2.2 _ z _ (by simp) rfl
    refine ⟨_, kI p.2, p.1, rfl, by rw [kI_kV]; exact hp, hd4, small1000 (by rw [tblV_len, List.length_map, List.length_take]; omega), (k.trans k4).mutD nD hd4, ?_⟩
    rw [upd_same, tblV_put nm, et, List.map_append]
    rfl
end
section
variable {P : Program} {w : World} {K : PySem.W.Frag} {mg : Str → Option Value} {base : Heap}
theorem tabV_succ_list : True := trivial
abbrev s_tables : Stmt := topS 30
abbrev N_tables : List Str := ["web", "gains", "costs", "many", "some", "one", "found", "turn", "here", "totals", "person", "there"]
abbrev P_tables : List Str := ["web", "gains", "costs", "many"]
theorem sc_tables : FnScope N_tables P_tables (defScope s_tables) := ⟨rfl, rfl, rfl, by decide +kernel, rfl, by decide +kernel, by decide +kernel⟩
/-- the tables of the turns -/
def Tbs (H : Hp) (n : Nat) (ps : List (Int × Int)) (gs cs : List Int) (ds : List Addr) : Prop := ∀ t e, ds[t]? = some e → H e = some (.dT (tblV (gathV n ps) fun g => .int (tabV n ps gs cs t g)))
theorem Tbs.kp {H H' : Hp} {n : Nat} {ps : List (Int × Int)} {gs cs : List Int} {ds : List Addr} (h : Tbs H n ps gs cs ds) (k : Kp H H') : Tbs H' n ps gs cs ds := fun t e q => k.get (h t e q)
def sp_tables (T : List Addr) : Sp := fun vs H Q _ => ∃ (a gg cc : Addr) (n : Nat) (ps : List (Int × Int)) (gs cs : List Int) (many : Nat), vs = [.ref a, .ref gg, .ref cc, .int many] ∧ Tb T H ∧ Web H a n ps ∧ WebOk n ps ∧
  H gg = some (iv gs) ∧ gs.length = n ∧ (∀ x ∈ gs, 0 ≤ x ∧ x ≤ 1000) ∧ H cc = some (iv cs) ∧ cs.length = n ∧ (∀ x ∈ cs, 0 ≤ x ∧ x ≤ 1000) ∧ many ≤ 8 ∧
  ∀ d H' ds, Kp H H' → H' d = some (.lst (ds.map V.ref)) → ds.length = many + 1 → Tbs H' n ps gs cs ds → Q (.ref d) H'
theorem ok_tables {f : Addr} {fd : FuncData} {T : List Addr} (F : Fun K "tables" "tables" s_tables f fd) (nm : Nm mg) (C_all_gatherings : Cal P w K mg base "all_gatherings" 6 P_all_gatherings (sp_all_gatherings T)) (C_came : Cal P w K mg base "came" 2 P_came sp_came)
    (C_gain_of : Cal P w K mg base "gain_of" 2 P_gain_of (sp_gain_of T)) : FnOk P w K mg base CX0 7 f fd P_tables (sp_tables T) := by
  refine F.ok sc_tables (fun vs H Q E h => ?_) (fun cdv A outer s H vs Q E hr h => ?_)
  · obtain ⟨a, gg, cc, n, ps, gs, cs, many, rfl, _⟩ := h
    rfl
  · obtain ⟨a, gg, cc, n, ps, gs, cs, many, rfl, tb, web, ok, hgs, gl, gx, hcs, cl, cx, hmany, q⟩ := h
    refine ⟨_, (pss_cons (ps_set (i := 4) sc_tables.nd rfl (Or.inl rfl) (pe_cal C_all_gatherings (hr.mono (by decide)) (by rfl) (pa_cons (pv 0) pa_nil)))
      (pss_cons (ps_set (i := 6) sc_tables.nd rfl (Or.inl rfl) (pe_lst (pa_cons (pe_dcT (own := [("one", 5)]) (hu0 hr) rfl sc_tables.nd (k_piL (K := K) (pv 4)) (blkOk_by (N := N_tables) (sc := defScope s_tables) (own := [("one", 5)]) (by decide +kernel)) (fun _ _ _ _ _ => (pg_name (i := 5) sc_tables.nd rfl (Or.inl rfl))) (fun _ _ _ _ _ => (pv 5)) (fun _ _ _ _ _ => pe_int)) pa_nil)))
      (pss_cons (ps_for PassesOwn.never rfl (pi_range1 (by rfl) nm.m_range (pa_cons (pv 3) pa_nil)) (pg_name (i := 7) sc_tables.nd rfl (Or.inl rfl))
        (pss_cons (ps_set (i := 8) sc_tables.nd rfl (Or.inl rfl) pe_dnewT)
        (pss_cons (ps_for PassesOwn.never rfl (k_piL (K := K) (pv 4)) (pg_name (i := 5) sc_tables.nd rfl (Or.inl rfl))
          (pss_cons (ps_set (i := 9) sc_tables.nd rfl (Or.inl rfl) (pe_lst pa_nil))
          (pss_cons (ps_for PassesOwn.never rfl (pi_range1 (by rfl) nm.m_range (pa_cons (pe_ix (k_ixT (K := K)) (pv 0) pe_int (fun _ _ => rfl)) pa_nil)) (pg_name (i := 10) sc_tables.nd rfl (Or.inl rfl))
            (pss_cons (ps_set (i := 11) sc_tables.nd rfl (Or.inl rfl) (pe_cal C_came (hr.mono (by decide)) (by rfl) (pa_cons (pv 0) (pa_cons (pv 5) (pa_cons (pv 10) pa_nil)))))
            (pss_one (ps_expr (pe_bm PySem.F.plainAttrs_list PySem.F.slot_list_append PySem.F.type_list_append mt_append (pv 9) (pa_cons (pe_op op_add (pe_op op_sub (pe_cal C_gain_of (hr.mono (by decide)) (by rfl) (pa_cons (pv 1) (pa_cons (pv 11) pa_nil))) (pe_ix (k_ixT (K := K)) (pv 2) (pv 10) (fun _ _ => rfl))) (pe_dget (hu1 hr) (pe_ix (k_ixL (K := K)) (pv 6) (pe_un un_neg pe_int) (fun _ _ => rfl)) (pv 11) (fun _ _ => rfl))) pa_nil))))))
          (pss_one (ps_dput (hu1 hr) (pv 8) (pv 5) (pe_callB (k_max (K := K) rfl) (by rfl) nm.m_max (by decide +kernel) (pa_cons (pv 9) pa_nil)) rfl)))))
        (pss_one (ps_expr (pe_bm PySem.F.plainAttrs_list PySem.F.slot_list_append PySem.F.type_list_append mt_append (pv 6) (pa_cons (pv 8) pa_nil)))))))
      (pss_one (ps_ret (pv 6)))))), ?_⟩
    repeat walk_at "rd"
    have hi4 := ok.hi
    have lo1 := ok.lo
    refine ⟨a, n, ps, rfl, tb, web, ok.hi, fun S H1 L k1 hS hL hm => ?_⟩
    have ll : L.length ≤ 16 := by
      have := gathV_len (n := n) ps ok.hi
      rw [← hm, List.length_map] at this
      exact this
    repeat walk_at "rd"
    refine ⟨_, rfl, ⟨_, SqL.of hS⟩, ?_⟩
    refine g_dc walk_list (fun H' k => SqL.of (k.get hS)) hL (by rw [hm]; exact gathV_nodup n ps) (by omega) (fun _ => .int 0) (fun R q0 H2 m k hR => ?_) (fun D H2 nD k2 hD => ?_)
    · repeat walk_at "rd"
      refine ⟨rfl, ?_⟩
      repeat walk_at "rd"
      exact hR _ (Kp.refl _)
    · repeat walk_at "rd"
      refine ⟨sz (show (1 : Nat) ≤ 1000 by decide), fun F0 nF => ?_⟩
      repeat walk_at "rd"
      refine ⟨many, rfl, by omega, by omega, ?_⟩
      have k2F : Kp H1 (upd H2 F0 (.lst [V.ref D])) := k2.trans (Kp.new nF)
      have nF1 : H1 F0 = none := k2.dom _ nF
      refine g_for walk_range (fun t σ H' => ∃ (o5 o7 o8 o9 o10 o11 : Option V) (ds : List Addr), σ = [some (.ref a), some (.ref gg), some (.ref cc), some (.int many), some (.ref S), o5, some (.ref F0), o7, o8, o9, o10, o11] ∧ Kp H1 H' ∧ H' F0 = some (.lst (ds.map V.ref)) ∧ ds.length = t + 1 ∧ Tbs H' n ps gs cs ds)
        ⟨_, _, _, _, _, _, [D], rfl, k2F, upd_same, rfl, ?_⟩ (fun _ _ _ _ _ => trivial) (fun t x σ H3 H4 ht pv y => ?_) (fun σ H3 pv => ?_)
      · intro t e he
        cases t with
        | zero =>
          cases he
          rw [upd_old nF hD, hm]
          rfl
        | succ t => cases he
      · obtain ⟨o5, o7, o8, o9, o10, o11, ds, rfl, k3, hF, dl, hT⟩ := pv
        obtain ⟨rfl, rfl⟩ := y
        have hlast : atI (ds.map V.ref) (-1) = some (.ref (ds.getD t 0)) := by
          obtain ⟨M, z, rfl⟩ : ∃ M z, ds = M ++ [z] := by
            rcases List.eq_nil_or_concat ds with e | ⟨M, z, e⟩
            · rw [e] at dl; cases dl
            · exact ⟨M, z, by rw [e, List.concat_eq_append]⟩
          rw [List.map_append]
          have ml : M.length = t := by simpa using dl
          rw [show List.map V.ref [z] = [V.ref z] from rfl, atI_last, List.getD_eq_getElem?_getD, ← ml]
          simp
        have hdt : H4 (ds.getD t 0) = some (.dT (tblV (gathV n ps) fun g => .int (tabV n ps gs cs t g))) := hT t _ (by
          rw [List.getD_eq_getElem?_getD, List.getElem?_eq_getElem (show t < ds.length by omega)]
          rfl)
        generalize ds.getD t 0 = dt0 at hlast hdt
        repeat walk_at "rd"
        intro p8 n8
        repeat walk_at "rd"
        have k5 : Kp H4 (upd H4 p8 (.dT [])) := Kp.new n8
        refine ⟨_, rfl, ⟨_, SqL.of (k5.get (k3.get hS))⟩, ?_⟩
        refine g_for walk_list (fun i σ H' => ∃ (o5 o9 o10 o11 : Option V), σ = [some (.ref a), some (.ref gg), some (.ref cc), some (.int many), some (.ref S), o5, some (.ref F0), some (.int (0 + (t : Int))), some (.ref p8), o9, o10, o11] ∧ Kp H4 H' ∧
            H' p8 = some (.dT (tblV ((L.take i).map (·.2)) fun g => .int (tabV n ps gs cs (t + 1) g))))
          ⟨_, _, _, _, rfl, k5, upd_same⟩ (fun i σ H' _ pv => by obtain ⟨_, _, _, _, _, k, _⟩ := pv; exact SqL.of (k.get (k3.get hS))) (fun i x σ H6 H7 hi pv y => ?_) (fun σ H6 pv => ?_)
        · obtain ⟨o5, o9, o10, o11, rfl, k6, h8⟩ := pv
          obtain ⟨rfl, hx'⟩ := y
          obtain ⟨q0, e0, rfl, m0⟩ := refs_get hx'
          have gin : q0.2 ∈ gathV n ps := by rw [← hm]; exact List.mem_map_of_mem m0
          repeat walk_at "rd"
          refine ⟨sz (show (0 : Nat) ≤ 1000 by decide), fun p9 n9 => ?_⟩
          have w7 : Web H7 a n ps := web.kp (k1.trans (k3.trans k6))
          have w7' := w7
          obtain ⟨b', L', w1, w2, w3, w4⟩ := w7'
          have hq7 : H7 q0.1 = some (iv q0.2) := (k3.trans k6).get (hL q0 m0)
          have k7 : Kp H7 (upd H7 p9 (.lst [])) := Kp.new n9
          have w8 := k7.get w1
          repeat walk_at "rd"
          refine ⟨n, rfl, by omega, by omega, ?_⟩
          refine g_for walk_range (fun j σ H' => ∃ (o10 o11 : Option V), σ = [some (.ref a), some (.ref gg), some (.ref cc), some (.int many), some (.ref S), some (.ref q0.1), some (.ref F0), some (.int (0 + (t : Int))), some (.ref p8), some (.ref p9), o10, o11] ∧ Kp H7 H' ∧
              H' p9 = some (.lst (((List.range j).map fun p : Nat => stepV ps gs cs q0.2 (p : Int) + tabV n ps gs cs t (comeV ps q0.2 (p : Int))).map V.int)))
            ⟨_, _, rfl, k7, upd_same⟩ (fun _ _ _ _ _ => trivial) (fun j x σ H9 H10 hj pv y => ?_) (fun σ H9 pv => ?_)
          · obtain ⟨o10, o11, rfl, k9, h9⟩ := pv
            obtain ⟨rfl, rfl⟩ := y
            rw [Int.toNat_natCast] at hj
            repeat walk_at "rd"
            have len0 := (gathV_mem.mp gin).1.len
            refine ⟨a, q0.1, n, ps, q0.2, 0 + (j : Int), rfl, w7.kp k9, k9.get hq7, by omega, fun d H11 k11 hd => ?_⟩
            rw [Int.zero_add] at hd ⊢
            have cin := come_in ok gin (show (0 : Int) ≤ j by omega) (by omega)
            have h9' := k11.get h9
            have ka := (k9.trans k11)
            repeat walk_at "rd"
            refine ⟨.inl ⟨rfl, _, SqL.of h9'⟩, ?_⟩
            repeat walk_at "rd"
            have kb := k1.trans (k3.trans (k6.trans ka))
            have clot := (gathV_mem.mp cin).1
            refine ⟨gg, d, gs, comeV ps q0.2 j, rfl, tb.kp kb, kb.get hgs, hd, gx, fun x hx => by have := clot.1 x hx; omega, by have := clot.len; omega, fun H12 k12 => ?_⟩
            have hcs12 : H12 cc = _ := (kb.trans k12).get hcs
            have hF12 : H12 F0 = _ := ((k6.trans ka).trans k12).get hF
            have hdt12 : H12 dt0 = _ := ((k6.trans ka).trans k12).get hdt
            have hd12 : H12 d = _ := k12.get hd
            have h9_12 := k12.get h9'
            have a1 : atI (cs.map V.int) (0 + (j : Int)) = some (.int (at' cs j)) := by rw [Int.zero_add]; exact at_get (by omega) (by omega)
            repeat walk_at "rd"
            refine ⟨dt0, _, rfl, dget_t hdt12 hd12 cin, ?_⟩
            repeat walk_at "rd"
            refine rd_app h9_12 (by rw [List.length_map, List.length_map, List.length_range]; omega) ?_
            refine ⟨_, _, rfl, ((ka.trans k12).mutL n9 h9_12), ?_⟩
            rw [upd_same, List.range_succ, List.map_append, List.map_append]
            rfl
          · obtain ⟨o10, o11, rfl, k9, h9⟩ := pv
            rw [Int.toNat_natCast] at h9
            repeat walk_at "rd"
            refine ⟨p9, _, rfl, SqL.of h9, by rw [List.length_map, List.length_range]; omega, fun m hm1 hm2 => ?_⟩
            rw [mx_eq hm1 hm2, ← tabV_succ]
            have h8' := k9.get h8
            have hq9 := k9.get hq7
            have hi' : i < L.length := by rw [refs_len] at hi; exact hi
            have et : L.take (i + 1) = L.take i ++ [q0] := by rw [List.take_succ, e0]; rfl
            have nm0 : q0.2 ∉ (L.take i).map (·.2) := by
              have h2 : ((L.take (i + 1)).map (·.2)).Nodup := by
                rw [List.map_take, hm]
                exact (gathV_nodup n ps).sublist (List.take_sublist _ _)
              rw [et, List.map_append] at h2
              intro z
              exact (List.nodup_append.mp h2).2.2 _ z _ (by simp) rfl
            repeat walk_at "rd"
            refine ⟨p8, _, rfl, dput_t (f := fun g => V.int (tabV n ps gs cs (t + 1) g)) h8' hq9 nm0 (by rw [List.length_map, List.length_take]; omega), ?_⟩
            refine ⟨_, _, _, _, rfl, ?_, ?_⟩
            · exact (k6.trans k9).mutD n8 h8'
            · rw [upd_same, et, List.map_append]
              rfl
        · obtain ⟨o5, o9, o10, o11, rfl, k6, h8⟩ := pv
          rw [List.take_of_length_le (by rw [refs_len]; exact Nat.le_refl _), hm] at h8
          repeat walk_at "rd"
          refine ⟨.inl ⟨rfl, _, SqL.of (k6.get hF)⟩, ?_⟩
          repeat walk_at "rd"
          have hF6 := k6.get hF
          refine rd_app hF6 (by rw [List.length_map, dl]; omega) ?_
          refine ⟨_, _, _, _, _, _, ds ++ [p8], rfl, (k3.trans k6).mutL nF1 hF6, ?_, by rw [List.length_append, dl]; rfl, ?_⟩
          · rw [upd_same, List.map_append]
            rfl
          · intro t' e he
            have ne : ∀ (H' : Hp) x, H' e = some (.dT x) → e = F0 → H' F0 = some (.dT x) := fun H' x h z => by rw [← z]; exact h
            by_cases hlt : t' < ds.length
            · rw [List.getElem?_append_left hlt] at he
              have h6 := k6.get (hT t' e he)
              rw [upd_ne (fun z => by have := ne _ _ h6 z; rw [hF6] at this; cases this)]
              exact h6
            · have : t' = t + 1 := by
                have := (List.getElem?_eq_some_iff.mp he).1
                rw [List.length_append, dl] at this
                simp at this
                omega
              subst this
              rw [List.getElem?_append_right (by omega), dl] at he
              simp at he
              subst he
              rw [upd_ne (fun z => by rw [z, hF6] at h8; cases h8)]
              exact h8
      · obtain ⟨o5, o7, o8, o9, o10, o11, ds, rfl, k3, hF, dl, hT⟩ := pv
        repeat walk_at "rd"
        rw [Int.toNat_natCast] at dl
        exact q F0 _ ds (k1.trans k3) hF dl hT
end
end Fo
set_option maxHeartbeats 2000000
/-! FoH: best_stay. -/
namespace Fo
open PySem PySem.Spec PyProof.Rows L2 GxR
local macro_rules | `(tactic| walk_at "hp") => `(tactic| first
  | assumption
  | exact upd_same
  | (refine' upd_old ?n ?h; (case n => assumption); (case h => walk_at "hp"))
  | (refine' Kp.get ?k ?h rfl; (case k => assumption); (case h => walk_at "hp")))
local macro_rules | `(tactic| walk_at "kp") => `(tactic| first
  | exact Kp.refl _
  | assumption
  | exact Kp.new (by assumption)
  | (refine' Kp.trans ?a ?b; (case b => first | assumption | exact Kp.new (by assumption)); (case a => walk_at "kp")))
local macro_rules | `(tactic| walk_at "rd") => `(tactic| first
  | ((with_reducible show tVar _ _ _ _); refine ⟨_, rfl, ?_⟩)
  | ((with_reducible show tC _ _ _ _); refine rd_c ?_)
  | ((with_reducible show tSeq _ _ _ _ _); refine rd_seq ?_)
  | ((with_reducible show tAsg _ _ _ _ _); refine rd_asg ?_)
  | ((with_reducible show gName _ _ _ _ _); refine rd_name ?_)
  | ((with_reducible show tRet _ _ _ _); refine rd_ret ?_)
  | ((with_reducible show tOp _ _ _ _ _ _); refine rd_op ?_)
  | ((with_reducible show tCons _ _ _ _ _); refine rd_cons ?_)
  | ((with_reducible show tNil _ _ _); refine rd_nil ?_)
  | ((with_reducible show tCal _ _ _ _ _); refine rd_cal ?_)
  | ((with_reducible show tCB _ _ _ _ _); refine rd_cb ?_)
  | ((with_reducible show tTest _ _ _ _); refine rd_test ?_)
  | ((with_reducible show tB _ _ _ _); refine rd_B ?_)
  | ((with_reducible show tNot _ _ _ _); refine rd_not ?_)
  | ((with_reducible show tAnd _ _ _ _ _); refine rd_and ?_)
  | ((with_reducible show tOr _ _ _ _ _); refine rd_or ?_)
  | ((with_reducible show tAndV _ _ _ _ _); refine rd_andV ?_)
  | ((with_reducible show tNotV _ _ _ _); refine rd_notV ?_)
  | ((with_reducible show tChain _ _ _ _ _ _ _ _); refine rd_chain ?_)
  | ((with_reducible show tIfS _ _ _ _ _ _); refine rd_ifs ?_)
  | ((with_reducible show tDrop _ _ _ _); refine rd_drop ?_)
  | ((with_reducible show tFor _ _ _ _ _ _); refine rd_forG ?_)
  | ((with_reducible show iTup _ _ _ _ _); refine rd_itup ?_)
  | ((with_reducible show iList _ _ _ _ _); refine rd_ilist ?_)
  | ((with_reducible show rI0 _ _ _ _ _); refine ⟨_, _, rfl, rfl, ?_⟩)
  | ((with_reducible show rAdd _ _ _ _); refine ⟨_, _, rfl, rfl, ?_⟩)
  | ((with_reducible show rSub _ _ _ _); refine ⟨_, _, rfl, rfl, ?_⟩)
  | ((with_reducible show rIxT _ _ _ _ _); refine' rd_ix ?h ?a ?_; (case h => walk_at "hp"); (case a => first | rfl | assumption))
  | ((with_reducible show rIxL _ _ _ _ _); refine' rd_ixL ?h ?a ?_; (case h => walk_at "hp"); (case a => first | rfl | assumption))
  | ((with_reducible show tTup _ _ _ _); refine rd_tup ?_)
  | ((with_reducible show tLst _ _ _ _); refine rd_lst ?_)
  | ((with_reducible show tAllG _ _ _ _ _ _ _ _); refine rd_allG ?_)
  | ((with_reducible show tAnyG _ _ _ _ _ _ _ _); refine rd_anyG ?_)
  | ((with_reducible show tSumG _ _ _ _ _ _ _ _); refine rd_sumG ?_)
  | ((with_reducible show tLc _ _ _ _ _ _ _ _); refine rd_lc ?_)
  | ((with_reducible show tNext _ _ _); refine rd_next ?_)
  | ((with_reducible show tBreak _ _ _); refine rd_break ?_)
  | ((with_reducible show tDGet _ _ _ _ _); refine rd_dget ?_)
  | ((with_reducible show tDNewT _ _ _); refine rd_dnew ?_)
  | ((with_reducible show StX.tStar _ _ _ _ _ _); refine rd_star ?_)
  | ((with_reducible show tSl _ _ _ _ _ _ _); refine rd_sl ?_)
  | ((with_reducible show sDPut _ _ _ _ _ _); refine rd_dput ?_)
  | ((with_reducible show tBM _ _ _ _ _ _ _ _); refine rd_bm ?_)
  | ((with_reducible show tPar _ _ _ _ _ _); refine rd_par ?_)
  | ((with_reducible show tPar3 _ _ _ _ _ _ _); refine rd_par3 ?_)
  | ((with_reducible show iRng1 _ _ _ _); refine rd_rng1 ?_)
  | ((with_reducible show tUn _ _ _ _ _); refine rd_un ?_)
  | ((with_reducible show rU _ _ _ _); refine ⟨_, rfl, ?_⟩)
  | ((with_reducible show tPart _ _ _ _); refine rd_part ?_)
  | ((with_reducible show tNoPart _ _ _); refine rd_nopart ?_)
  | ((with_reducible show iRng2 _ _ _ _); refine rd_rng2 ?_)
  | ((with_reducible show iRng3 _ _ _ _); refine rd_rng3 ?_)
  | ((with_reducible show gSub _ _ _ _ _ _ _); refine rd_gsub ?_)
  | ((with_reducible show tDcT _ _ _ _ _ _ _ _); refine rd_dcT ?_)
  | ((with_reducible show tYes _ _ _); refine rd_yes ?_)
  | ((with_reducible show rLenS _ _ _ _); refine' rd_len ?h ?_; (case h => first | (refine' Or.inr (SqT.of ?z); (case z => walk_at "hp")) | (refine' Or.inl (SqL.of ?z); (case z => walk_at "hp"))))
  | ((with_reducible show gTup _ _ _ _ _ _ _); refine' rd_gtup ?h ?l ?_; (case h => refine' SqT.of ?z; (case z => walk_at "hp")); (case l => rfl))
  | ((with_reducible show gCons _ _ _ _ _ _); refine ⟨_, _, rfl, ?_⟩)
  | ((with_reducible show gNil _ _ _ _); refine ⟨rfl, ?_⟩))

section
variable {P : Program} {w : World} {K : PySem.W.Frag} {mg : Str → Option Value} {base : Heap}
/-- what every def of this part is given: a web, gains, costs -/
structure Given (T : List Addr) (H : Hp) (a gg cc : Addr) (n : Nat) (ps : List (Int × Int)) (gs cs : List Int) : Prop where
  tb : Tb T H
  web : Web H a n ps
  ok : WebOk n ps
  hgs : H gg = some (iv gs)
  gl : gs.length = n
  gx : ∀ x ∈ gs, 0 ≤ x ∧ x ≤ 1000
  hcs : H cc = some (iv cs)
  cl : cs.length = n
  cx : ∀ x ∈ cs, 0 ≤ x ∧ x ≤ 1000
theorem Given.kp {T : List Addr} {H H' : Hp} {a gg cc : Addr} {n : Nat} {ps : List (Int × Int)} {gs cs : List Int} (h : Given T H a gg cc n ps gs cs) (k : Kp H H') : Given T H' a gg cc n ps gs cs :=
  ⟨h.tb.kp k, h.web.kp k, h.ok, k.get h.hgs, h.gl, h.gx, k.get h.hcs, h.cl, h.cx⟩
abbrev s_best_stay : Stmt := topS 32
abbrev N_best_stay : List Str := ["web", "start", "gains", "costs", "many", "some", "row", "here", "left", "person", "there"]
abbrev P_best_stay : List Str := ["web", "start", "gains", "costs", "many"]
theorem sc_best_stay : FnScope N_best_stay P_best_stay (defScope s_best_stay) := ⟨rfl, rfl, rfl, by decide +kernel, rfl, by decide +kernel, by decide +kernel⟩
def sp_best_stay (T : List Addr) : Sp := fun vs H Q _ => ∃ (a b gg cc : Addr) (n : Nat) (ps : List (Int × Int)) (gs cs g : List Int) (many : Nat), vs = [.ref a, .ref b, .ref gg, .ref cc, .int many] ∧ Given T H a gg cc n ps gs cs ∧ H b = some (iv g) ∧ g ∈ gathV n ps ∧ 1 ≤ many ∧ many ≤ 8 ∧
  ∀ d r H' row, Kp H H' → H' d = some (.tup [.int (tabV n ps gs cs many g), .ref r]) → H' r = some (iv row) → row.length = many → (∀ x ∈ row, 0 ≤ x ∧ x < n) → totalV ps gs cs g row = tabV n ps gs cs many g → Q (.ref d) H'
theorem ds_at {ds : List Addr} {t : Nat} (h : t < ds.length) : ∃ e, ds[t]? = some e ∧ atI (ds.map V.ref) (t : Int) = some (.ref e) := by
  refine ⟨ds[t], List.getElem?_eq_getElem h, atI_nat ?_⟩
  rw [List.getElem?_map, List.getElem?_eq_getElem h]
  rfl
theorem ok_best_stay {f : Addr} {fd : FuncData} {T : List Addr} (F : Fun K "best_stay" "best_stay" s_best_stay f fd) (nm : Nm mg) (C_need_gathering : Cal P w K mg base "need_gathering" 6 P_need_gathering (sp_need_gathering T)) (C_need_stay : Cal P w K mg base "need_stay" 4 P_need_stay (sp_need_stay T))
    (C_tables : Cal P w K mg base "tables" 7 P_tables (sp_tables T)) (C_came : Cal P w K mg base "came" 2 P_came sp_came) (C_gain_of : Cal P w K mg base "gain_of" 2 P_gain_of (sp_gain_of T)) : FnOk P w K mg base CX0 8 f fd P_best_stay (sp_best_stay T) := by
  refine F.ok sc_best_stay (fun vs H Q E h => ?_) (fun cdv A outer s H vs Q E hr h => ?_)
  · obtain ⟨a, b, gg, cc, n, ps, gs, cs, g, many, rfl, _⟩ := h
    rfl
  · obtain ⟨a, b, gg, cc, n, ps, gs, cs, g, many, rfl, gv, hb, hg, m1, m8, q⟩ := h
    refine ⟨_, (pss_cons (ps_expr (pe_cal C_need_gathering (hr.mono (by decide)) (by rfl) (pa_cons (pv 0) (pa_cons (pv 1) pa_nil))))
      (pss_cons (ps_expr (pe_cal C_need_stay (hr.mono (by decide)) (by rfl) (pa_cons (pv 0) (pa_cons (pv 2) (pa_cons (pv 3) (pa_cons (pv 4) pa_nil))))))
      (pss_cons (ps_par3 (i := 5) (j := 6) (l := 7) rfl sc_best_stay.nd rfl rfl rfl (by decide) (by decide) (by decide) rfl rfl rfl (pa_cons (pe_cal C_tables (hr.mono (by decide)) (by rfl) (pa_cons (pv 0) (pa_cons (pv 2) (pa_cons (pv 3) (pa_cons (pv 4) pa_nil))))) (pa_cons (pe_lst pa_nil) (pa_cons (pv 1) pa_nil))) (by rfl))
      (pss_cons (ps_for PassesOwn.never rfl (pi_range3 (by rfl) nm.m_range (pa_cons (pv 4) (pa_cons pe_int (pa_cons (pe_un un_neg pe_int) pa_nil)))) (pg_name (i := 8) sc_best_stay.nd rfl (Or.inl rfl))
        (pss_cons (ps_for PassesOwn.never rfl (pi_range1 (by rfl) nm.m_range (pa_cons (pe_ix (k_ixT (K := K)) (pv 0) pe_int (fun _ _ => rfl)) pa_nil)) (pg_name (i := 9) sc_best_stay.nd rfl (Or.inl rfl))
          (pss_cons (ps_set (i := 10) sc_best_stay.nd rfl (Or.inl rfl) (pe_cal C_came (hr.mono (by decide)) (by rfl) (pa_cons (pv 0) (pa_cons (pv 7) (pa_cons (pv 9) pa_nil)))))
          (pss_one (ps_if (pt_cmpR op_eq (pe_op op_add (pe_op op_sub (pe_cal C_gain_of (hr.mono (by decide)) (by rfl) (pa_cons (pv 2) (pa_cons (pv 10) pa_nil))) (pe_ix (k_ixT (K := K)) (pv 3) (pv 9) (fun _ _ => rfl))) (pe_dget (hu1 hr) (pe_ix (k_ixL (K := K)) (pv 5) (pe_op op_sub (pv 8) pe_int) (fun _ _ => rfl)) (pv 10) (fun _ _ => rfl))) (pe_dget (hu1 hr) (pe_ix (k_ixL (K := K)) (pv 5) (pv 8) (fun _ _ => rfl)) (pv 7) (fun _ _ => rfl)) (nomark _))
            (pss_one ps_break)
            pss_nil))))
        (pss_cons (ps_expr (pe_bm PySem.F.plainAttrs_list PySem.F.slot_list_append PySem.F.type_list_append mt_append (pv 6) (pa_cons (pv 9) pa_nil)))
        (pss_one (ps_set (i := 7) sc_best_stay.nd rfl (Or.inl rfl) (pv 10))))))
      (pss_one (ps_ret (pe_tup (pa_cons (pe_dget (hu1 hr) (pe_ix (k_ixL (K := K)) (pv 5) (pv 4) (fun _ _ => rfl)) (pv 1) (fun _ _ => rfl)) (pa_cons (pe_callTy (k_tupOf (K := K)) (by rfl) nm.m_tuple (by decide +kernel) (pa_cons (pv 6) pa_nil)) pa_nil))))))))), ?_⟩
    have ok := gv.ok
    have hi4 := ok.hi
    have lo1 := ok.lo
    have gl := gv.gl
    have cl := gv.cl
    have lot := (gathV_mem.mp hg).1
    have ll := lot.len
    repeat walk_at "rd"
    refine ⟨a, b, n, ps, g, rfl, gv.tb, gv.web, ok, hb, lot, by omega, (gathV_mem.mp hg).2, fun H0 k0 => ?_⟩
    have gv0 := gv.kp k0
    repeat walk_at "rd"
    refine ⟨a, gg, cc, n, ps, gs, cs, many, rfl, gv0.tb, gv0.web, gv0.hgs, gv0.gl, gv0.gx, gv0.hcs, gv0.cl, gv0.cx, m1, m8, fun H2 k2 => ?_⟩
    have gv2 := gv0.kp k2
    repeat walk_at "rd"
    refine ⟨a, gg, cc, n, ps, gs, cs, many, rfl, gv2.tb, gv2.web, ok, gv2.hgs, gv2.gl, gv2.gx, gv2.hcs, gv2.cl, gv2.cx, m8, fun F0 H1 ds k1 hF dl hT => ?_⟩
    have gv1 := gv2.kp k1
    have kk := k0.trans (k2.trans k1)
    have hb1 : H1 b = some (iv g) := kk.get hb
    repeat walk_at "rd"
    refine ⟨sz (show (0 : Nat) ≤ 1000 by decide), fun R nR => ?_⟩
    repeat walk_at "rd"
    refine ⟨_, _, _, rfl, ?_⟩
    repeat walk_at "rd"
    refine ⟨many, 0, -1, many, rfl, ?_, ?_⟩
    · have h := RgC.neg (i := (many : Int)) (j := 0) (by omega) (by omega) (by omega) (by omega)
      rw [show ((many : Int) - 0).toNat = many by omega] at h
      exact h
    refine g_for walk_rangeC (fun i σ H' => ∃ (h : Addr) (o8 o9 o10 : Option V) (row : List Int), σ = [some (.ref a), some (.ref b), some (.ref gg), some (.ref cc), some (.int many), some (.ref F0), some (.ref R), some (.ref h), o8, o9, o10] ∧ Kp H1 H' ∧
        H' R = some (.lst (row.map V.int)) ∧ row.length = i ∧ (∀ x ∈ row, 0 ≤ x ∧ x < n) ∧ H' h = some (iv (stateV ps g row)) ∧ totalV ps gs cs g row + tabV n ps gs cs (many - i) (stateV ps g row) = tabV n ps gs cs many g)
      ⟨b, _, _, _, [], rfl, Kp.new nR, upd_same, rfl, fun x hx => absurd hx (by simp), upd_old nR hb1, by simp [totalV, stateV]⟩ (fun _ _ _ _ _ => trivial) (fun i x σ H3 H4 hi pv y => ?_) (fun σ H3 pv => ?_)
    · obtain ⟨h, o8, o9, o10, row, rfl, k3, hR, rl, rx, hh, ht⟩ := pv
      obtain ⟨rfl, rfl⟩ := y
      have gv4 := gv1.kp k3
      have gv4' := gv4
      obtain ⟨tb4, ⟨b', L', w1, w2, w3, w4⟩, _, _, _, _, _, _, _⟩ := gv4'
      have sin : stateV ps g row ∈ gathV n ps := state_in ok row hg rx
      obtain ⟨t, et⟩ : ∃ t, many - i = t + 1 := ⟨many - i - 1, by omega⟩
      have eleft : (many : Int) + (i : Nat) * (-1) = ((t + 1 : Nat) : Int) := by omega
      show gName 8 (V.int ((many : Int) + (i : Nat) * (-1))) _ _ _
      rw [eleft]
      rw [et] at ht
      generalize hgi : stateV ps g row = gi at *
      repeat walk_at "rd"
      refine ⟨n, rfl, by omega, by omega, ?_⟩
      refine g_for walk_range (fun j σ H' => (∃ (o9 o10 : Option V), σ = [some (.ref a), some (.ref b), some (.ref gg), some (.ref cc), some (.int many), some (.ref F0), some (.ref R), some (.ref h), some (.int ((t + 1 : Nat) : Int)), o9, o10]) ∧ Kp H4 H' ∧
          ∀ j', j' < j → stepV ps gs cs gi ((j' : Nat) : Int) + tabV n ps gs cs t (comeV ps gi (j' : Int)) ≠ tabV n ps gs cs (t + 1) gi)
        ⟨⟨_, _, rfl⟩, Kp.refl _, fun j' hj' => absurd hj' (Nat.not_lt_zero _)⟩ (fun _ _ _ _ _ => trivial) (fun j x σ H5 H6 hj pv y => ?_) (fun σ H5 pv => ?_)
      · obtain ⟨⟨o9, o10, rfl⟩, k5, hne⟩ := pv
        obtain ⟨rfl, rfl⟩ := y
        rw [Int.toNat_natCast] at hj
        have lgi := (gathV_mem.mp sin).1.len
        have cin := come_in ok sin (show (0 : Int) ≤ j by omega) (by omega)
        have clot := (gathV_mem.mp cin).1
        repeat walk_at "rd"
        have gv6 := gv4.kp k5
        refine ⟨a, h, n, ps, gi, 0 + (j : Int), rfl, gv6.web, k5.get hh, by omega, fun d H7 k7 hd => ?_⟩
        rw [Int.zero_add] at hd
        have gv7 := gv6.kp k7
        repeat walk_at "rd"
        refine ⟨gg, d, gs, comeV ps gi j, rfl, gv7.tb, gv7.hgs, hd, gv7.gx, fun x hx => by have := clot.1 x hx; omega, by have := clot.len; omega, fun H8 k8 => ?_⟩
        have k48 := k5.trans (k7.trans k8)
        have k18 := k3.trans k48
        have gv8 := gv7.kp k8
        have hcs8 := gv8.hcs
        have hF8 := k18.get hF
        have hd8 := k8.get hd
        have hh8 := k48.get hh
        have a1 : atI (cs.map V.int) (0 + (j : Int)) = some (.int (at' cs j)) := by rw [Int.zero_add]; exact at_get (by omega) (by omega)
        obtain ⟨e0, de0, a2⟩ := ds_at (show t < ds.length by omega)
        obtain ⟨e1, de1, a3⟩ := ds_at (show t + 1 < ds.length by omega)
        have a2' : atI (ds.map V.ref) (((t + 1 : Nat) : Int) - 1) = some (.ref e0) := by
          rw [show ((t + 1 : Nat) : Int) - 1 = (t : Int) by omega]
          exact a2
        have t0 := k18.get (hT t e0 de0)
        have t1 := k18.get (hT (t + 1) e1 de1)
        repeat walk_at "rd"
        refine ⟨e0, _, rfl, dget_t t0 hd8 cin, ?_⟩
        repeat walk_at "rd"
        refine ⟨e1, _, rfl, dget_t t1 hh8 sin, ?_⟩
        by_cases eq : stepV ps gs cs gi ((j : Nat) : Int) + tabV n ps gs cs t (comeV ps gi (j : Int)) = tabV n ps gs cs (t + 1) gi
        · refine rd_eqI (b := true) (dt eq) ⟨_, rfl, yes rfl ?_⟩
          repeat walk_at "rd"
          have hR8 := k48.get hR
          refine ⟨.inl ⟨rfl, _, SqL.of hR8⟩, ?_⟩
          repeat walk_at "rd"
          refine rd_app hR8 (by rw [List.length_map]; omega) ?_
          have n9 : ∀ (c : Addr) (o : HO), H8 c = some o → (∀ xs, o ≠ .lst xs) → (upd H8 R (.lst (row.map V.int ++ [V.int (0 + (j : Int))]))) c = some o := fun c o h1 h2 => by
            rw [upd_ne (fun z => by rw [z, hR8] at h1; exact h2 _ (Option.some.inj h1).symm)]
            exact h1
          repeat walk_at "rd"
          refine ⟨d, _, _, _, row ++ [(j : Int)], rfl, k18.mutL nR hR8, ?_, by rw [List.length_append, rl]; rfl, fun x hx => ?_, ?_, ?_⟩
          · show _ = some (HO.lst ((row ++ [(j : Int)]).map V.int))
            rw [upd_same, List.map_append]
            show some (HO.lst (row.map V.int ++ [V.int (0 + (j : Int))])) = _
            rw [Int.zero_add]
            rfl
          · rcases List.mem_append.mp hx with m | m
            · exact rx x m
            · rw [List.mem_singleton.mp m]; omega
          · rw [state_snoc, hgi]
            exact n9 d _ hd8 fun xs z => by cases z
          · rw [total_snoc, state_snoc, hgi, show many - (i + 1) = t by omega]
            omega
        · refine rd_eqI (b := false) (df eq) ⟨_, rfl, no rfl ?_⟩
          repeat walk_at "rd"
          refine ⟨⟨_, _, rfl⟩, k48, fun j' hj' => ?_⟩
          by_cases ej : j' = j
          · rw [ej]; exact eq
          · exact hne j' (by omega)
      · obtain ⟨_, k5, hne⟩ := pv
        rw [Int.toNat_natCast] at hne
        obtain ⟨p, hp, e⟩ := tab_at (ps := ps) (gs := gs) (cs := cs) lo1 t gi
        exact absurd e (hne p hp)
    · obtain ⟨h, o8, o9, o10, row, rfl, k3, hR, rl, rx, hh, ht⟩ := pv
      repeat walk_at "rd"
      obtain ⟨e1, de1, a3⟩ := ds_at (show many < ds.length by omega)
      have hF3 := k3.get hF
      have t1 := k3.get (hT many e1 de1)
      have hb3 := k3.get hb1
      repeat walk_at "rd"
      refine ⟨e1, _, rfl, dget_t t1 hb3 hg, ?_⟩
      repeat walk_at "rd"
      refine rd_tupOfL hR fun r nr => ?_
      repeat walk_at "rd"
      refine ⟨sz (show (2 : Nat) ≤ 1000 by decide), fun d nd => ?_⟩
      refine q d r _ row ((kk.trans k3).trans ((Kp.new nr).trans (Kp.new nd))) upd_same (upd_old nd upd_same) rl rx ?_
      rw [Nat.sub_self] at ht
      have e0 : tabV n ps gs cs 0 (stateV ps g row) = 0 := rfl
      omega
end
end Fo
set_option maxHeartbeats 2000000
/-! FoI: shows_best_stay, stay_worths. -/
namespace Fo
open PySem PySem.Spec PyProof.Rows L2 GxR
local macro_rules | `(tactic| walk_at "hp") => `(tactic| first
  | assumption
  | exact upd_same
  | (refine' upd_old ?n ?h; (case n => assumption); (case h => walk_at "hp"))
  | (refine' Kp.get ?k ?h rfl; (case k => assumption); (case h => walk_at "hp")))
local macro_rules | `(tactic| walk_at "kp") => `(tactic| first
  | exact Kp.refl _
  | assumption
  | exact Kp.new (by assumption)
  | (refine' Kp.trans ?a ?b; (case b => first | assumption | exact Kp.new (by assumption)); (case a => walk_at "kp")))
local macro_rules | `(tactic| walk_at "rd") => `(tactic| first
  | ((with_reducible show tVar _ _ _ _); refine ⟨_, rfl, ?_⟩)
  | ((with_reducible show tC _ _ _ _); refine rd_c ?_)
  | ((with_reducible show tSeq _ _ _ _ _); refine rd_seq ?_)
  | ((with_reducible show tAsg _ _ _ _ _); refine rd_asg ?_)
  | ((with_reducible show gName _ _ _ _ _); refine rd_name ?_)
  | ((with_reducible show tRet _ _ _ _); refine rd_ret ?_)
  | ((with_reducible show tOp _ _ _ _ _ _); refine rd_op ?_)
  | ((with_reducible show tCons _ _ _ _ _); refine rd_cons ?_)
  | ((with_reducible show tNil _ _ _); refine rd_nil ?_)
  | ((with_reducible show tCal _ _ _ _ _); refine rd_cal ?_)
  | ((with_reducible show tCB _ _ _ _ _); refine rd_cb ?_)
  | ((with_reducible show tTest _ _ _ _); refine rd_test ?_)
  | ((with_reducible show tB _ _ _ _); refine rd_B ?_)
  | ((with_reducible show tNot _ _ _ _); refine rd_not ?_)
  | ((with_reducible show tAnd _ _ _ _ _); refine rd_and ?_)
  | ((with_reducible show tOr _ _ _ _ _); refine rd_or ?_)
  | ((with_reducible show tAndV _ _ _ _ _); refine rd_andV ?_)
  | ((with_reducible show tNotV _ _ _ _); refine rd_notV ?_)
  | ((with_reducible show tChain _ _ _ _ _ _ _ _); refine rd_chain ?_)
  | ((with_reducible show tIfS _ _ _ _ _ _); refine rd_ifs ?_)
  | ((with_reducible show tDrop _ _ _ _); refine rd_drop ?_)
  | ((with_reducible show tFor _ _ _ _ _ _); refine rd_forG ?_)
  | ((with_reducible show iTup _ _ _ _ _); refine rd_itup ?_)
  | ((with_reducible show iList _ _ _ _ _); refine rd_ilist ?_)
  | ((with_reducible show rI0 _ _ _ _ _); refine ⟨_, _, rfl, rfl, ?_⟩)
  | ((with_reducible show rAdd _ _ _ _); refine ⟨_, _, rfl, rfl, ?_⟩)
  | ((with_reducible show rSub _ _ _ _); refine ⟨_, _, rfl, rfl, ?_⟩)
  | ((with_reducible show rIxT _ _ _ _ _); refine' rd_ix ?h ?a ?_; (case h => walk_at "hp"); (case a => first | rfl | assumption))
  | ((with_reducible show rIxL _ _ _ _ _); refine' rd_ixL ?h ?a ?_; (case h => walk_at "hp"); (case a => first | rfl | assumption))
  | ((with_reducible show tTup _ _ _ _); refine rd_tup ?_)
  | ((with_reducible show tLst _ _ _ _); refine rd_lst ?_)
  | ((with_reducible show tAllG _ _ _ _ _ _ _ _); refine rd_allG ?_)
  | ((with_reducible show tAnyG _ _ _ _ _ _ _ _); refine rd_anyG ?_)
  | ((with_reducible show tSumG _ _ _ _ _ _ _ _); refine rd_sumG ?_)
  | ((with_reducible show tLc _ _ _ _ _ _ _ _); refine rd_lc ?_)
  | ((with_reducible show tNext _ _ _); refine rd_next ?_)
  | ((with_reducible show tBreak _ _ _); refine rd_break ?_)
  | ((with_reducible show tDGet _ _ _ _ _); refine rd_dget ?_)
  | ((with_reducible show tDNewT _ _ _); refine rd_dnew ?_)
  | ((with_reducible show StX.tStar _ _ _ _ _ _); refine rd_star ?_)
  | ((with_reducible show tSl _ _ _ _ _ _ _); refine rd_sl ?_)
  | ((with_reducible show sDPut _ _ _ _ _ _); refine rd_dput ?_)
  | ((with_reducible show tBM _ _ _ _ _ _ _ _); refine rd_bm ?_)
  | ((with_reducible show tPar _ _ _ _ _ _); refine rd_par ?_)
  | ((with_reducible show tPar3 _ _ _ _ _ _ _); refine rd_par3 ?_)
  | ((with_reducible show iRng1 _ _ _ _); refine rd_rng1 ?_)
  | ((with_reducible show tUn _ _ _ _ _); refine rd_un ?_)
  | ((with_reducible show rU _ _ _ _); refine ⟨_, rfl, ?_⟩)
  | ((with_reducible show tPart _ _ _ _); refine rd_part ?_)
  | ((with_reducible show tNoPart _ _ _); refine rd_nopart ?_)
  | ((with_reducible show iRng2 _ _ _ _); refine rd_rng2 ?_)
  | ((with_reducible show iRng3 _ _ _ _); refine rd_rng3 ?_)
  | ((with_reducible show gSub _ _ _ _ _ _ _); refine rd_gsub ?_)
  | ((with_reducible show tDcT _ _ _ _ _ _ _ _); refine rd_dcT ?_)
  | ((with_reducible show tYes _ _ _); refine rd_yes ?_)
  | ((with_reducible show rLenS _ _ _ _); refine' rd_len ?h ?_; (case h => first | (refine' Or.inr (SqT.of ?z); (case z => walk_at "hp")) | (refine' Or.inl (SqL.of ?z); (case z => walk_at "hp"))))
  | ((with_reducible show gTup _ _ _ _ _ _ _); refine' rd_gtup ?h ?l ?_; (case h => refine' SqT.of ?z; (case z => walk_at "hp")); (case l => rfl))
  | ((with_reducible show gCons _ _ _ _ _ _); refine ⟨_, _, rfl, ?_⟩)
  | ((with_reducible show gNil _ _ _ _); refine ⟨rfl, ?_⟩))

/-- the kinds of values that are shown: no tuple; a pair with a list; a pair with a row -/
def VKind (H : Hp) (x : V) : Option (Int × Option (List Int)) → Prop
  | none => x = .non ∨ (∃ i, x = .int i) ∨ ∃ a ys, x = .ref a ∧ H a = some (.lst ys)
  | some (b, none) => ∃ a r ys, x = .ref a ∧ H a = some (.tup [.int b, .ref r]) ∧ H r = some (.lst ys)
  | some (b, some xs) => ∃ a r, x = .ref a ∧ H a = some (.tup [.int b, .ref r]) ∧ H r = some (iv xs) ∧ xs.length ≤ 30
theorem VKind.kp {H H' : Hp} {x : V} (k : Kp H H') : ∀ {d : Option (Int × Option (List Int))}, VKind H x d → VKind H' x d
  | none, h => by
    rcases h with h | h | ⟨a, ys, e, h⟩
    · exact .inl h
    · exact .inr (.inl h)
    · exact .inr (.inr ⟨a, ys, e, k.get h⟩)
  | some (b, none), ⟨a, r, ys, e, h1, h2⟩ => ⟨a, r, ys, e, k.get h1, k.get h2⟩
  | some (b, some xs), ⟨a, r, e, h1, h2, h3⟩ => ⟨a, r, e, k.get h1, k.get h2, h3⟩
def showsV (n : Nat) (ps : List (Int × Int)) (gs cs : List Int) (many : Nat) (g : List Int) : Option (Int × Option (List Int)) → Bool
  | some (b, some xs) => decide (b = tabV n ps gs cs many g) && (inB (n - 1) xs && decide (xs.length = many) && decide (totalV ps gs cs g xs = tabV n ps gs cs many g))
  | _ => false
section
variable {P : Program} {w : World} {K : PySem.W.Frag} {mg : Str → Option Value} {base : Heap}
abbrev s_shows_best_stay : Stmt := topS 34
abbrev N_shows_best_stay : List Str := ["web", "start", "gains", "costs", "many", "value", "best"]
abbrev P_shows_best_stay : List Str := ["web", "start", "gains", "costs", "many", "value"]
theorem sc_shows_best_stay : FnScope N_shows_best_stay P_shows_best_stay (defScope s_shows_best_stay) := ⟨rfl, rfl, rfl, by decide +kernel, rfl, by decide +kernel, by decide +kernel⟩
def sp_shows (T : List Addr) : Sp := fun vs H Q _ => ∃ (a b gg cc : Addr) (n : Nat) (ps : List (Int × Int)) (gs cs g : List Int) (many : Nat) (x : V) (d : Option (Int × Option (List Int))), vs = [.ref a, .ref b, .ref gg, .ref cc, .int many, x] ∧ Given T H a gg cc n ps gs cs ∧ H b = some (iv g) ∧ g ∈ gathV n ps ∧ 1 ≤ many ∧ many ≤ 8 ∧ VKind H x d ∧
  ∀ H', Kp H H' → Q (.bl (showsV n ps gs cs many g d)) H'
theorem ok_shows_best_stay {f : Addr} {fd : FuncData} {T : List Addr} (F : Fun K "shows_best_stay" "shows_best_stay" s_shows_best_stay f fd) (nm : Nm mg) (C_need_gathering : Cal P w K mg base "need_gathering" 6 P_need_gathering (sp_need_gathering T)) (C_need_stay : Cal P w K mg base "need_stay" 4 P_need_stay (sp_need_stay T))
    (C_tables : Cal P w K mg base "tables" 7 P_tables (sp_tables T)) (C_is_in : Cal P w K mg base "is_in" 1 P_is_in sp_is_in) (C_is_row : Cal P w K mg base "is_row" 3 P_is_row (sp_is_row T)) (C_total_of : Cal P w K mg base "total_of" 4 P_total_of (sp_total_of T)) : FnOk P w K mg base CX0 8 f fd P_shows_best_stay (sp_shows T) := by
  refine F.ok sc_shows_best_stay (fun vs H Q E h => ?_) (fun cdv A outer s H vs Q E hr h => ?_)
  · obtain ⟨a, b, gg, cc, n, ps, gs, cs, g, many, x, d, rfl, _⟩ := h
    rfl
  · obtain ⟨a, b, gg, cc, n, ps, gs, cs, g, many, x, d, rfl, gv, hb, hg, m1, m8, vk, q⟩ := h
    refine ⟨_, (pss_cons (ps_expr (pe_cal C_need_gathering (hr.mono (by decide)) (by rfl) (pa_cons (pv 0) (pa_cons (pv 1) pa_nil))))
      (pss_cons (ps_expr (pe_cal C_need_stay (hr.mono (by decide)) (by rfl) (pa_cons (pv 0) (pa_cons (pv 2) (pa_cons (pv 3) (pa_cons (pv 4) pa_nil))))))
      (pss_cons (ps_set (i := 6) sc_shows_best_stay.nd rfl (Or.inl rfl) (pe_dget (hu1 hr) (pe_ix (k_ixL (K := K)) (pe_cal C_tables (hr.mono (by decide)) (by rfl) (pa_cons (pv 0) (pa_cons (pv 2) (pa_cons (pv 3) (pa_cons (pv 4) pa_nil))))) (pv 4) (fun _ _ => rfl)) (pv 1) (fun _ _ => rfl)))
      (pss_cons (ps_if (PW.pt (pw_or (pt_not (pt_val (pe_callB (k_isi (K := K)) (by rfl) nm.m_isinstance (by decide +kernel) (pa_cons (pv 5) (pa_cons (pe_ty "tuple" (by rfl) nm.m_tuple (by decide +kernel)) pa_nil))))) (pw_or (pt_cmpR op_ne (pe_callB (k_len (K := K)) (by rfl) nm.m_len (by decide +kernel) (pa_cons (pv 5) pa_nil)) pe_int (nomark _)) (pw_or1 (pt_not (pt_val (pe_cal C_is_in (hr.mono (by decide)) (by rfl) (pa_cons (pe_ix (k_ixT (K := K)) (pv 5) pe_int (fun _ _ => rfl)) (pa_cons (pv 6) (pa_cons (pv 6) pa_nil))))))))))
        (pss_one (ps_ret pe_bl))
        pss_nil)
      (pss_cons (ps_if (PW.pt (pw_or (pt_not (pt_val (pe_cal C_is_row (hr.mono (by decide)) (by rfl) (pa_cons (pv 0) (pa_cons (pe_ix (k_ixT (K := K)) (pv 5) pe_int (fun _ _ => rfl)) pa_nil))))) (pw_or1 (pt_cmpR op_ne (pe_callB (k_len (K := K)) (by rfl) nm.m_len (by decide +kernel) (pa_cons (pe_ix (k_ixT (K := K)) (pv 5) pe_int (fun _ _ => rfl)) pa_nil)) (pv 4) (nomark _)))))
        (pss_one (ps_ret pe_bl))
        pss_nil)
      (pss_one (ps_ret (pe_cmpR op_eq (pe_cal C_total_of (hr.mono (by decide)) (by rfl) (pa_cons (pv 0) (pa_cons (pv 1) (pa_cons (pv 2) (pa_cons (pv 3) (pa_cons (pe_ix (k_ixT (K := K)) (pv 5) pe_int (fun _ _ => rfl)) pa_nil)))))) (pv 6) (nomark _))))))))), ?_⟩
    have ok := gv.ok
    have hi4 := ok.hi
    have lo1 := ok.lo
    have gl := gv.gl
    have cl := gv.cl
    have lot := (gathV_mem.mp hg).1
    have ll := lot.len
    repeat walk_at "rd"
    refine ⟨a, b, n, ps, g, rfl, gv.tb, gv.web, ok, hb, lot, by omega, (gathV_mem.mp hg).2, fun H0 k0 => ?_⟩
    have gv0 := gv.kp k0
    repeat walk_at "rd"
    refine ⟨a, gg, cc, n, ps, gs, cs, many, rfl, gv0.tb, gv0.web, gv0.hgs, gv0.gl, gv0.gx, gv0.hcs, gv0.cl, gv0.cx, m1, m8, fun H2 k2 => ?_⟩
    have gv2 := gv0.kp k2
    repeat walk_at "rd"
    refine ⟨a, gg, cc, n, ps, gs, cs, many, rfl, gv2.tb, gv2.web, ok, gv2.hgs, gv2.gl, gv2.gx, gv2.hcs, gv2.cl, gv2.cx, m8, fun F0 H1 ds k1 hF dl hT => ?_⟩
    have gv1 := gv2.kp k1
    have kk := k0.trans (k2.trans k1)
    have hb1 : H1 b = some (iv g) := kk.get hb
    have vk1 := vk.kp kk
    obtain ⟨e1, de1, a3⟩ := ds_at (show many < ds.length by omega)
    have t1 := hT many e1 de1
    repeat walk_at "rd"
    refine ⟨e1, _, rfl, dget_t t1 hb1 hg, ?_⟩
    repeat walk_at "rd"
    match d, vk1, q with
    | none, vk1, q =>
      rcases vk1 with rfl | ⟨i, rfl⟩ | ⟨v, ys, rfl, hv⟩
      · refine rd_isi ty_non (b := false) (by decide +kernel) ⟨_, rfl, yes rfl (yes rfl ?_)⟩
        repeat walk_at "rd"
        exact q _ kk
      · refine rd_isi ty_int (b := false) (by decide +kernel) ⟨_, rfl, yes rfl (yes rfl ?_)⟩
        repeat walk_at "rd"
        exact q _ kk
      · refine rd_isi (ty_lst hv) (b := false) (by decide +kernel) ⟨_, rfl, yes rfl (yes rfl ?_)⟩
        repeat walk_at "rd"
        exact q _ kk
    | some (bv, none), vk1, q =>
      obtain ⟨v, r, ys, rfl, hv, hrr⟩ := vk1
      refine rd_isi (ty_tup hv) (b := true) (by decide +kernel) ⟨_, rfl, no rfl ?_⟩
      repeat walk_at "rd"
      refine rd_neI (b := false) rfl ⟨_, rfl, no rfl ?_⟩
      repeat walk_at "rd"
      refine ⟨bv, _, _, rfl, ⟨_, rfl, ?_⟩⟩
      by_cases e : (decide (tabV n ps gs cs many g ≤ bv) && decide (bv ≤ tabV n ps gs cs many g)) = true
      · refine no (by rw [e]; rfl) ?_
        repeat walk_at "rd"
        refine ⟨a, r, n, ps, rfl, gv1.tb, gv1.web, .inl ⟨ys, hrr, fun H3 k3 => ⟨_, rfl, yes rfl (yes rfl ?_)⟩⟩⟩
        repeat walk_at "rd"
        exact q _ (kk.trans k3)
      · refine yes (by rw [Bool.not_eq_true] at e; rw [e]; rfl) ?_
        repeat walk_at "rd"
        exact q _ kk
    | some (bv, some xs), vk1, q =>
      obtain ⟨v, r, rfl, hv, hrr, xl⟩ := vk1
      have q : ∀ H', Kp H H' → Q (.bl (decide (bv = tabV n ps gs cs many g) && (inB (n - 1) xs && decide (xs.length = many) && decide (totalV ps gs cs g xs = tabV n ps gs cs many g)))) H' := q
      refine rd_isi (ty_tup hv) (b := true) (by decide +kernel) ⟨_, rfl, no rfl ?_⟩
      repeat walk_at "rd"
      refine rd_neI (b := false) rfl ⟨_, rfl, no rfl ?_⟩
      repeat walk_at "rd"
      refine ⟨bv, _, _, rfl, ⟨_, rfl, ?_⟩⟩
      by_cases e : (decide (tabV n ps gs cs many g ≤ bv) && decide (bv ≤ tabV n ps gs cs many g)) = true
      · have eb : bv = tabV n ps gs cs many g := by
          rw [Bool.and_eq_true, decide_eq_true_eq, decide_eq_true_eq] at e
          omega
        refine no (by rw [e]; rfl) ?_
        repeat walk_at "rd"
        refine ⟨a, r, n, ps, rfl, gv1.tb, gv1.web, .inr ⟨xs, hrr, xl, fun H3 k3 => ⟨_, rfl, ?_⟩⟩⟩
        have hr3 := k3.get hrr
        have hv3 := k3.get hv
        by_cases e2 : inB (n - 1) xs = true
        · refine no (by rw [e2]; rfl) ?_
          repeat walk_at "rd"
          by_cases e3 : xs.length = many
          · refine rd_neI (b := false) (by rw [List.length_map, e3]; simp) ⟨_, rfl, no rfl ?_⟩
            have gv3 := gv1.kp k3
            repeat walk_at "rd"
            refine ⟨a, b, gg, cc, r, n, ps, g, gs, cs, xs, rfl, gv3.tb, gv3.web, ok, k3.get hb1, hg, gv3.hgs, gl, gv3.gx, gv3.hcs, cl, gv3.cx, hr3, fun x hx => by have := inB_iff.mp e2 x hx; omega, xl, fun H4 k4 => ?_⟩
            repeat walk_at "rd"
            refine rd_eqI rfl ?_
            have := q H4 (kk.trans (k3.trans k4))
            rw [dt eb, e2, dt e3] at this
            exact this
          · refine rd_neI (b := true) (by rw [List.length_map]; exact df (by omega)) ⟨_, rfl, yes rfl ?_⟩
            repeat walk_at "rd"
            have := q H3 (kk.trans k3)
            rw [df e3, Bool.and_false, Bool.false_and, Bool.and_false] at this
            exact this
        · rw [Bool.not_eq_true] at e2
          refine yes (by rw [e2]; rfl) (yes rfl ?_)
          repeat walk_at "rd"
          have := q H3 (kk.trans k3)
          rw [e2, Bool.false_and, Bool.false_and, Bool.and_false] at this
          exact this
      · rw [Bool.not_eq_true] at e
        refine yes (by rw [e]; rfl) ?_
        repeat walk_at "rd"
        have eb : ¬ bv = tabV n ps gs cs many g := fun z => by rw [z, dt (Int.le_refl _)] at e; cases e
        have := q H1 kk
        rw [df eb, Bool.false_and] at this
        exact this
/-! ### stay_worths -/
abbrev s_stay_worths : Stmt := topS 35
abbrev N_stay_worths : List Str := ["web", "gains", "costs", "many", "some", "one"]
abbrev P_stay_worths : List Str := ["web", "gains", "costs", "many"]
theorem sc_stay_worths : FnScope N_stay_worths P_stay_worths (defScope s_stay_worths) := ⟨rfl, rfl, rfl, by decide +kernel, rfl, by decide +kernel, by decide +kernel⟩
def sp_stay_worths (T : List Addr) : Sp := fun vs H Q _ => ∃ (a gg cc : Addr) (n : Nat) (ps : List (Int × Int)) (gs cs : List Int) (many : Nat), vs = [.ref a, .ref gg, .ref cc, .int many] ∧ Given T H a gg cc n ps gs cs ∧ 1 ≤ many ∧ many ≤ 8 ∧
  ∀ d H' L, Kp H H' → H' d = some (.tup (refs L)) → Its H' L → L.map (·.2) = (List.range (many + 1)).map (fun t => (gathV n ps).map (tabV n ps gs cs t)) → Q (.ref d) H'
theorem ok_stay_worths {f : Addr} {fd : FuncData} {T : List Addr} (F : Fun K "stay_worths" "stay_worths" s_stay_worths f fd) (nm : Nm mg) (C_need_web : Cal P w K mg base "need_web" 2 P_need_web (sp_need_web T)) (C_need_stay : Cal P w K mg base "need_stay" 4 P_need_stay (sp_need_stay T))
    (C_tables : Cal P w K mg base "tables" 7 P_tables (sp_tables T)) : FnOk P w K mg base CX0 8 f fd P_stay_worths (sp_stay_worths T) := by
  refine F.ok sc_stay_worths (fun vs H Q E h => ?_) (fun cdv A outer s H vs Q E hr h => ?_)
  · obtain ⟨a, gg, cc, n, ps, gs, cs, many, rfl, _⟩ := h
    rfl
  · obtain ⟨a, gg, cc, n, ps, gs, cs, many, rfl, gv, m1, m8, q⟩ := h
    refine ⟨_, (pss_cons (ps_expr (pe_cal C_need_web (hr.mono (by decide)) (by rfl) (pa_cons (pv 0) pa_nil)))
      (pss_cons (ps_expr (pe_cal C_need_stay (hr.mono (by decide)) (by rfl) (pa_cons (pv 0) (pa_cons (pv 1) (pa_cons (pv 2) (pa_cons (pv 3) pa_nil))))))
      (pss_one (ps_ret (pe_callTy (k_tupOf (K := K)) (by rfl) nm.m_tuple (by decide +kernel) (pa_cons (pe_lc (own := [("some", 4)]) rfl sc_stay_worths.nd (k_piL (K := K) (pe_cal C_tables (hr.mono (by decide)) (by rfl) (pa_cons (pv 0) (pa_cons (pv 1) (pa_cons (pv 2) (pa_cons (pv 3) pa_nil)))))) (blkOk_by (N := N_stay_worths) (sc := defScope s_stay_worths) (own := [("some", 4)]) (by decide +kernel)) (fun _ _ _ _ _ => (pg_name (i := 4) sc_stay_worths.nd rfl (Or.inr rfl))) (fun _ _ _ _ _ => pts_nil) (fun _ _ _ _ _ => (pe_callTy (k_tupOf (K := K)) (by rfl) nm.m_tuple (by decide +kernel) (pa_cons (pe_lc (own := [("one", 5)]) rfl sc_stay_worths.nd (k_piL (K := K) (pe_callB (cr_sortDT rfl (hu3 hr)) (by rfl) nm.m_sorted (by decide +kernel) (pa_cons (pv 4) pa_nil))) (blkOk_by (N := N_stay_worths) (sc := ({ kind := .function, names := [(".0", .local), ("some", .cell), ("tuple", .globalImplicit), ("sorted", .globalImplicit)], isGenerator := false, isCoroutine := false } : Scope)) (own := [("one", 5)]) (by decide +kernel)) (fun _ _ _ _ _ => (pg_name (i := 5) sc_stay_worths.nd rfl (Or.inl rfl))) (fun _ _ _ _ _ => pts_nil) (fun _ _ _ _ _ => (pe_dget (hu1 hr) (pv 4) (pv 5) (fun _ _ => rfl)))) pa_nil)))) pa_nil)))))), ?_⟩
    repeat walk_at "rd"
    refine ⟨a, n, ps, rfl, gv.tb, gv.web, gv.ok, fun H0 k0 => ?_⟩
    have gv0 := gv.kp k0
    repeat walk_at "rd"
    refine ⟨a, gg, cc, n, ps, gs, cs, many, rfl, gv0.tb, gv0.web, gv0.hgs, gv0.gl, gv0.gx, gv0.hcs, gv0.cl, gv0.cx, m1, m8, fun H2 k2 => ?_⟩
    have gv2 := gv0.kp k2
    repeat walk_at "rd"
    refine ⟨a, gg, cc, n, ps, gs, cs, many, rfl, gv2.tb, gv2.web, gv2.ok, gv2.hgs, gv2.gl, gv2.gx, gv2.hcs, gv2.cl, gv2.cx, m8, fun F0 H1 ds k1 hF dl hT => ?_⟩
    have kk := k0.trans (k2.trans k1)
    repeat walk_at "rd"
    refine ⟨_, rfl, ⟨_, SqL.of hF⟩, ?_⟩
    have gl16 := gathV_len (n := n) ps gv.ok.hi
    refine g_lcT walk_list (by rw [List.length_map]; omega) (fun H' k => SqL.of (k.get hF)) (fun t => (gathV n ps).map (tabV n ps gs cs t)) (fun Rt t x H3 H4 ht k3 y hR => ?_) (fun D H3 L nD k3 hD hL hm => ?_)
    · obtain ⟨rfl, hx⟩ := y
      rw [List.getElem?_map] at hx
      obtain ⟨e, he, rfl⟩ := Option.map_eq_some_iff.mp hx
      have te := k3.get (hT t e he)
      repeat walk_at "rd"
      refine ⟨rfl, ?_⟩
      repeat walk_at "rd"
      obtain ⟨G, eG⟩ := gathV_head n ps
      refine ⟨e, G, (fun g => V.int (tabV n ps gs cs t g)), rfl, by rw [te, eG]; rfl, fun L d pm so hL nd => ?_⟩
      have hLm : L.map (·.2) = gathV n ps := sorted_unique (by rw [eG]; exact pm) (List.Pairwise.map _ (fun _ _ h => h) so) (gathV_sorted n ps)
      have te2 := (Kp.new (o := .lst (refs L)) nd).get te
      have hL2 : Its (upd H4 d (.lst (refs L))) L := Its.kp hL (Kp.new nd)
      have hd2 : (upd H4 d (.lst (refs L))) d = some (.lst (refs L)) := upd_same
      have k4 : Kp H4 (upd H4 d (.lst (refs L))) := Kp.new nd
      generalize upd H4 d (.lst (refs L)) = H5 at *
      have ll : L.length = (gathV n ps).length := by rw [← hLm, List.length_map]
      refine ⟨_, rfl, ⟨_, SqL.of hd2⟩, ?_⟩
      refine g_lcI walk_list (by rw [refs_len]; omega) (fun H' k => SqL.of (k.get hd2)) (fun i => tabV n ps gs cs t ((gathV n ps).getD i [])) (fun Rt2 i x H6 H7 hi k6 y hR2 => ?_) (fun D2 H6 nD2 k6 hD2 => ?_)
      · obtain ⟨rfl, hx2⟩ := y
        obtain ⟨q0, e0, rfl, m0⟩ := refs_get hx2
        have e2 : (gathV n ps).getD i [] = q0.2 := by
          rw [← hLm, List.getD_eq_getElem?_getD, List.getElem?_map, e0]
          rfl
        have h6 := k6.get te2
        have hq6 := k6.get (hL2 q0 m0)
        repeat walk_at "rd"
        refine ⟨rfl, ?_⟩
        repeat walk_at "rd"
        refine ⟨e, _, rfl, dget_t h6 hq6 (by rw [← hLm]; exact List.mem_map_of_mem m0), ?_⟩
        have := hR2 H7 (Kp.refl _)
        rw [e2] at this
        exact this
      · repeat walk_at "rd"
        refine rd_tupOfL hD2 fun z nz => ?_
        refine hR z _ (k4.trans (k6.trans (Kp.new nz))) ?_
        rw [upd_same, refs_len, ll]
        have e3 : (List.range (gathV n ps).length).map (fun i => tabV n ps gs cs t ((gathV n ps).getD i [])) = (gathV n ps).map (tabV n ps gs cs t) :=
          List.ext_getElem (by simp) fun j h1 h2 => by
            have : j < (gathV n ps).length := by simpa using h2
            simp [List.getD_eq_getElem?_getD, this]
        rw [e3]
    · repeat walk_at "rd"
      refine rd_tupOfL hD fun z nz => ?_
      refine q z _ L (kk.trans (k3.trans (Kp.new nz))) upd_same (hL.kp (Kp.new nz)) ?_
      rw [hm, List.length_map, dl]
end
end Fo
set_option maxHeartbeats 2000000
/-! FoJ: the law's own foes, coming, lots, gatherings. -/
namespace Fo
open PySem PySem.Spec PyProof.Rows L2 GxR
local macro_rules | `(tactic| walk_at "hp") => `(tactic| first
  | assumption
  | exact upd_same
  | (refine' upd_old ?n ?h; (case n => assumption); (case h => walk_at "hp"))
  | (refine' Kp.get ?k ?h rfl; (case k => assumption); (case h => walk_at "hp")))
local macro_rules | `(tactic| walk_at "kp") => `(tactic| first
  | exact Kp.refl _
  | assumption
  | exact Kp.new (by assumption)
  | (refine' Kp.trans ?a ?b; (case b => first | assumption | exact Kp.new (by assumption)); (case a => walk_at "kp")))
local macro_rules | `(tactic| walk_at "rd") => `(tactic| first
  | ((with_reducible show tVar _ _ _ _); refine ⟨_, rfl, ?_⟩)
  | ((with_reducible show tC _ _ _ _); refine rd_c ?_)
  | ((with_reducible show tSeq _ _ _ _ _); refine rd_seq ?_)
  | ((with_reducible show tAsg _ _ _ _ _); refine rd_asg ?_)
  | ((with_reducible show gName _ _ _ _ _); refine rd_name ?_)
  | ((with_reducible show tRet _ _ _ _); refine rd_ret ?_)
  | ((with_reducible show tOp _ _ _ _ _ _); refine rd_op ?_)
  | ((with_reducible show tCons _ _ _ _ _); refine rd_cons ?_)
  | ((with_reducible show tNil _ _ _); refine rd_nil ?_)
  | ((with_reducible show tCal _ _ _ _ _); refine rd_cal ?_)
  | ((with_reducible show tCB _ _ _ _ _); refine rd_cb ?_)
  | ((with_reducible show tTest _ _ _ _); refine rd_test ?_)
  | ((with_reducible show tB _ _ _ _); refine rd_B ?_)
  | ((with_reducible show tNot _ _ _ _); refine rd_not ?_)
  | ((with_reducible show tAnd _ _ _ _ _); refine rd_and ?_)
  | ((with_reducible show tOr _ _ _ _ _); refine rd_or ?_)
  | ((with_reducible show tAndV _ _ _ _ _); refine rd_andV ?_)
  | ((with_reducible show tNotV _ _ _ _); refine rd_notV ?_)
  | ((with_reducible show tChain _ _ _ _ _ _ _ _); refine rd_chain ?_)
  | ((with_reducible show tIfS _ _ _ _ _ _); refine rd_ifs ?_)
  | ((with_reducible show tDrop _ _ _ _); refine rd_drop ?_)
  | ((with_reducible show tFor _ _ _ _ _ _); refine rd_forG ?_)
  | ((with_reducible show iTup _ _ _ _ _); refine rd_itup ?_)
  | ((with_reducible show iList _ _ _ _ _); refine rd_ilist ?_)
  | ((with_reducible show rI0 _ _ _ _ _); refine ⟨_, _, rfl, rfl, ?_⟩)
  | ((with_reducible show rAdd _ _ _ _); refine ⟨_, _, rfl, rfl, ?_⟩)
  | ((with_reducible show rSub _ _ _ _); refine ⟨_, _, rfl, rfl, ?_⟩)
  | ((with_reducible show rIxT _ _ _ _ _); refine' rd_ix ?h ?a ?_; (case h => walk_at "hp"); (case a => first | rfl | assumption))
  | ((with_reducible show rIxL _ _ _ _ _); refine' rd_ixL ?h ?a ?_; (case h => walk_at "hp"); (case a => first | rfl | assumption))
  | ((with_reducible show tTup _ _ _ _); refine rd_tup ?_)
  | ((with_reducible show tLst _ _ _ _); refine rd_lst ?_)
  | ((with_reducible show tAllG _ _ _ _ _ _ _ _); refine rd_allG ?_)
  | ((with_reducible show tAnyG _ _ _ _ _ _ _ _); refine rd_anyG ?_)
  | ((with_reducible show tSumG _ _ _ _ _ _ _ _); refine rd_sumG ?_)
  | ((with_reducible show tLc _ _ _ _ _ _ _ _); refine rd_lc ?_)
  | ((with_reducible show tNext _ _ _); refine rd_next ?_)
  | ((with_reducible show tBreak _ _ _); refine rd_break ?_)
  | ((with_reducible show tDGet _ _ _ _ _); refine rd_dget ?_)
  | ((with_reducible show tDNewT _ _ _); refine rd_dnew ?_)
  | ((with_reducible show StX.tStar _ _ _ _ _ _); refine rd_star ?_)
  | ((with_reducible show tSl _ _ _ _ _ _ _); refine rd_sl ?_)
  | ((with_reducible show sDPut _ _ _ _ _ _); refine rd_dput ?_)
  | ((with_reducible show tBM _ _ _ _ _ _ _ _); refine rd_bm ?_)
  | ((with_reducible show tPar _ _ _ _ _ _); refine rd_par ?_)
  | ((with_reducible show tPar3 _ _ _ _ _ _ _); refine rd_par3 ?_)
  | ((with_reducible show iRng1 _ _ _ _); refine rd_rng1 ?_)
  | ((with_reducible show tUn _ _ _ _ _); refine rd_un ?_)
  | ((with_reducible show rU _ _ _ _); refine ⟨_, rfl, ?_⟩)
  | ((with_reducible show tPart _ _ _ _); refine rd_part ?_)
  | ((with_reducible show tNoPart _ _ _); refine rd_nopart ?_)
  | ((with_reducible show iRng2 _ _ _ _); refine rd_rng2 ?_)
  | ((with_reducible show iRng3 _ _ _ _); refine rd_rng3 ?_)
  | ((with_reducible show gSub _ _ _ _ _ _ _); refine rd_gsub ?_)
  | ((with_reducible show tDcT _ _ _ _ _ _ _ _); refine rd_dcT ?_)
  | ((with_reducible show tYes _ _ _); refine rd_yes ?_)
  | ((with_reducible show rLenS _ _ _ _); refine' rd_len ?h ?_; (case h => first | (refine' Or.inr (SqT.of ?z); (case z => walk_at "hp")) | (refine' Or.inl (SqL.of ?z); (case z => walk_at "hp"))))
  | ((with_reducible show gTup _ _ _ _ _ _ _); refine' rd_gtup ?h ?l ?_; (case h => refine' SqT.of ?z; (case z => walk_at "hp")); (case l => rfl))
  | ((with_reducible show gCons _ _ _ _ _ _); refine ⟨_, _, rfl, ?_⟩)
  | ((with_reducible show gNil _ _ _ _); refine ⟨rfl, ?_⟩))

section
variable {P : Program} {w : World} {K : PySem.W.Frag} {mg : Str → Option Value} {base : Heap}
/-! ### _law_foes -/
abbrev s_law_foes : Stmt := topS 41
abbrev N_law_foes : List Str := ["_law_web_here", "_law_person", "_law_found", "_law_one", "_law_other"]
abbrev P_law_foes : List Str := ["_law_web_here", "_law_person"]
theorem sc_law_foes : FnScope N_law_foes P_law_foes (defScope s_law_foes) := ⟨rfl, rfl, rfl, by decide +kernel, rfl, by decide +kernel, by decide +kernel⟩
def isFoe (p y : Int) (q : Int × Int) : Prop := (q.1 = p ∧ y = q.2) ∨ (q.2 = p ∧ y = q.1)
theorem foe_iff {n : Nat} {ps : List (Int × Int)} (ok : WebOk n ps) (y p : Int) : (∃ q ∈ ps, isFoe p y q) ↔ foe ps y p = true := by
  unfold foe
  rw [List.any_eq_true]
  constructor
  · rintro ⟨q, hq, h⟩
    have := ok.prs q hq
    refine ⟨q, hq, ?_⟩
    rcases h with ⟨h1, h2⟩ | ⟨h1, h2⟩
    · rw [if_pos (by omega), if_neg (by omega)]; simp [h1, h2]
    · rw [if_neg (by omega), if_pos (by omega)]; simp [h1, h2]
  · rintro ⟨q, hq, h⟩
    have := ok.prs q hq
    refine ⟨q, hq, ?_⟩
    rw [Bool.and_eq_true, beq_iff_eq, beq_iff_eq] at h
    unfold isFoe
    by_cases e : p < y
    · rw [if_pos e, if_neg (by omega)] at h
      exact .inl ⟨h.1, h.2.symm⟩
    · rw [if_neg e] at h
      by_cases e2 : p > y
      · rw [if_pos e2] at h
        exact .inr ⟨h.2, h.1.symm⟩
      · rw [if_neg e2] at h
        omega
def sp_law_foes : Sp := fun vs H Q _ => ∃ (a : Addr) (n : Nat) (ps : List (Int × Int)) (p : Int), vs = [.ref a, .int p] ∧ Web H a n ps ∧ WebOk n ps ∧ ∀ d H' (ys : List Int), Kp H H' → H' d = some (.lst (ys.map V.int)) → ys.length ≤ 60 → (∀ y, y ∈ ys ↔ foe ps y p = true) → Q (.ref d) H'
theorem rep01 (x : Int) (c : Bool) : (List.replicate (if c then (1 : Int) else 0).toNat [V.int x]).flatten = (if c then [x] else []).map V.int := by cases c <;> rfl
theorem ok_law_foes {f : Addr} {fd : FuncData} (F : Fun K "_law_foes" "_law_foes" s_law_foes f fd) (nm : Nm mg) : FnOk P w K mg base CX0 1 f fd P_law_foes sp_law_foes := by
  refine F.ok sc_law_foes (fun vs H Q E h => ?_) (fun cdv A outer s H vs Q E hr h => ?_)
  · obtain ⟨a, n, ps, p, rfl, _⟩ := h
    rfl
  · obtain ⟨a, n, ps, p, rfl, ⟨b, L, w1, w2, w3, w4⟩, ok, q⟩ := h
    refine ⟨_, (pss_cons (ps_set (i := 2) sc_law_foes.nd rfl (Or.inl rfl) (pe_lst pa_nil))
      (pss_cons (ps_for PassesOwn.never rfl (k_piT (K := K) (pe_ix (k_ixT (K := K)) (pv 0) pe_int (fun _ _ => rfl))) (k_pgT (K := K) (n := 2) rfl (pgs_cons (pg_name (i := 3) sc_law_foes.nd rfl (Or.inl rfl)) (pgs_cons (pg_name (i := 4) sc_law_foes.nd rfl (Or.inl rfl)) pgs_nil)))
        (pss_one (ps_set (i := 2) sc_law_foes.nd rfl (Or.inl rfl) (pe_op op_cat (pe_op op_cat (pv 2) (pe_op op_rep (pe_lst (pa_cons (pv 4) pa_nil)) (pe_callTy call_int1 (by rfl) nm.m_int (by decide +kernel) (pa_cons (pe_cmpR op_eq (pv 3) (pv 1) (nomark _)) pa_nil)))) (pe_op op_rep (pe_lst (pa_cons (pv 3) pa_nil)) (pe_callTy call_int1 (by rfl) nm.m_int (by decide +kernel) (pa_cons (pe_cmpR op_eq (pv 4) (pv 1) (nomark _)) pa_nil)))))))
      (pss_one (ps_ret (pe_callB (k_sorted (K := K)) (by rfl) nm.m_sorted (by decide +kernel) (pa_cons (pv 2) pa_nil)))))), ?_⟩
    have few := ok.few
    repeat walk_at "rd"
    refine ⟨sz (show (0 : Nat) ≤ 1000 by decide), fun D nD => ?_⟩
    have w1' := upd_old (o := .lst []) nD w1
    repeat walk_at "rd"
    refine ⟨_, rfl, ⟨_, SqT.of (upd_old nD w2)⟩, ?_⟩
    refine g_for walk_tup (fun i σ H' => ∃ (d : Addr) (o3 o4 : Option V) (ys : List Int), σ = [some (.ref a), some (.int p), some (.ref d), o3, o4] ∧ Kp H H' ∧ H' d = some (.lst (ys.map V.int)) ∧ ys.length ≤ 2 * i ∧ ∀ y, y ∈ ys ↔ ∃ q ∈ ps.take i, isFoe p y q)
      ⟨D, _, _, [], rfl, Kp.new nD, upd_same, Nat.le_refl _, fun y => by simp⟩ (fun i σ H' _ pv => by obtain ⟨_, _, _, _, _, k, _⟩ := pv; exact SqT.of (k.get w2)) (fun i x σ H1 H2 hi pv y => ?_) (fun σ H1 pv => ?_)
    · obtain ⟨d, o3, o4, ys, rfl, k, hd, yl, hy⟩ := pv
      obtain ⟨rfl, hx'⟩ := y
      obtain ⟨e, pr, rfl, hp, m, _⟩ := prs_get w3 hx'
      have he : H2 e = some (iv [pr.1, pr.2]) := k.get (w4 _ m)
      rw [prs_len w3] at hi
      repeat walk_at "rd"
      refine ⟨sz (show (1 : Nat) ≤ 1000 by decide), fun z1 n1 => ?_⟩
      repeat walk_at "rd"
      refine rd_eqI rfl ?_
      repeat walk_at "rd"
      refine .inr ⟨_, rfl, ?_⟩
      have hz1 : (upd H2 z1 (.lst [V.int pr.2])) z1 = some (.lst [V.int pr.2]) := upd_same
      have kz1 : Kp H2 (upd H2 z1 (.lst [V.int pr.2])) := Kp.new n1
      generalize upd H2 z1 (.lst [V.int pr.2]) = G1 at *
      refine ⟨z1, _, _, rfl, rfl, hz1, by split <;> omega, by split <;> omega, sz (by split <;> simp), fun z2 n2 => ?_⟩
      rw [rep01]
      have hz2 : ∀ o, (upd G1 z2 o) z2 = some o := fun o => upd_same
      have kz2 : ∀ o, Kp G1 (upd G1 z2 o) := fun o => Kp.new n2
      have hz2' := hz2 (.lst ((if decide (pr.1 = p) = true then [pr.2] else []).map V.int))
      have kz2' := kz2 (.lst ((if decide (pr.1 = p) = true then [pr.2] else []).map V.int))
      generalize upd G1 z2 (.lst ((if decide (pr.1 = p) = true then [pr.2] else []).map V.int)) = G2 at *
      have hd2 := (kz1.trans kz2').get hd
      refine ⟨d, z2, _, _, rfl, rfl, hd2, hz2', sz (by rw [List.length_map, List.length_map]; split <;> simp <;> omega), fun z3 n3 => ?_⟩
      rw [← List.map_append]
      have hz3 : (upd G2 z3 (.lst ((ys ++ if decide (pr.1 = p) = true then [pr.2] else []).map V.int))) z3 = some _ := upd_same
      have kz3 : Kp G2 (upd G2 z3 (.lst ((ys ++ if decide (pr.1 = p) = true then [pr.2] else []).map V.int))) := Kp.new n3
      generalize upd G2 z3 (.lst ((ys ++ if decide (pr.1 = p) = true then [pr.2] else []).map V.int)) = G3 at *
      repeat walk_at "rd"
      refine ⟨sz (show (1 : Nat) ≤ 1000 by decide), fun z4 n4 => ?_⟩
      have hz4 : (upd G3 z4 (.lst [V.int pr.1])) z4 = some (.lst [V.int pr.1]) := upd_same
      have kz4 : Kp G3 (upd G3 z4 (.lst [V.int pr.1])) := Kp.new n4
      generalize upd G3 z4 (.lst [V.int pr.1]) = G4 at *
      repeat walk_at "rd"
      refine rd_eqI rfl ?_
      repeat walk_at "rd"
      refine .inr ⟨_, rfl, ?_⟩
      refine ⟨z4, _, _, rfl, rfl, hz4, by split <;> omega, by split <;> omega, sz (by split <;> simp), fun z5 n5 => ?_⟩
      rw [rep01]
      have hz5 : (upd G4 z5 (.lst ((if decide (pr.2 = p) = true then [pr.1] else []).map V.int))) z5 = some _ := upd_same
      have kz5 : Kp G4 (upd G4 z5 (.lst ((if decide (pr.2 = p) = true then [pr.1] else []).map V.int))) := Kp.new n5
      generalize upd G4 z5 (.lst ((if decide (pr.2 = p) = true then [pr.1] else []).map V.int)) = G5 at *
      refine ⟨z3, z5, _, _, rfl, rfl, (kz4.trans kz5).get hz3, hz5, sz (by rw [List.length_map, List.length_map, List.length_append]; split <;> split <;> simp <;> omega), fun z6 n6 => ?_⟩
      rw [← List.map_append]
      repeat walk_at "rd"
      refine ⟨z6, _, _, _, rfl, ?_, upd_same, ?_, fun y => ?_⟩
      · exact k.trans (kz1.trans (kz2'.trans (kz3.trans (kz4.trans (kz5.trans (Kp.new n6))))))
      · rw [List.length_append, List.length_append]
        split <;> split <;> simp <;> omega
      · have et : ps.take (i + 1) = ps.take i ++ [pr] := by rw [List.take_succ, hp]; rfl
        rw [et, List.mem_append, List.mem_append, hy]
        constructor
        · rintro ((⟨q0, m0, h⟩ | h) | h)
          · exact ⟨q0, List.mem_append_left _ m0, h⟩
          · split at h
            · rename_i e0
              exact ⟨pr, by simp, .inl ⟨of_decide_eq_true e0, List.mem_singleton.mp h⟩⟩
            · exact absurd h (by simp)
          · split at h
            · rename_i e0
              exact ⟨pr, by simp, .inr ⟨of_decide_eq_true e0, List.mem_singleton.mp h⟩⟩
            · exact absurd h (by simp)
        · rintro ⟨q0, m0, h⟩
          rcases List.mem_append.mp m0 with m1 | m1
          · exact .inl (.inl ⟨q0, m1, h⟩)
          · rw [List.mem_singleton.mp m1] at h
            rcases h with ⟨h1, h2⟩ | ⟨h1, h2⟩
            · exact .inl (.inr (by rw [if_pos (dt h1)]; simp [h2]))
            · exact .inr (by rw [if_pos (dt h1)]; simp [h2])
    · obtain ⟨d, o3, o4, ys, rfl, k, hd, yl, hy⟩ := pv
      rw [prs_len w3] at yl hy
      rw [List.take_of_length_le (Nat.le_refl _)] at hy
      repeat walk_at "rd"
      refine ⟨d, ys, rfl, SqL.of hd, by omega, fun zs D2 pm so nD2 => ?_⟩
      refine q D2 _ zs (k.trans (Kp.new nD2)) upd_same (by have := pm.length_eq; omega) fun y => ?_
      rw [pm.mem_iff, hy]
      exact foe_iff ok y p
/-! ### _law_come -/
abbrev s_law_come : Stmt := topS 42
abbrev N_law_come : List Str := ["_law_web_here", "_law_gathering", "_law_person", "_law_bad", "_law_one"]
abbrev P_law_come : List Str := ["_law_web_here", "_law_gathering", "_law_person"]
theorem sc_law_come : FnScope N_law_come P_law_come (defScope s_law_come) := ⟨rfl, rfl, rfl, by decide +kernel, rfl, by decide +kernel, by decide +kernel⟩
def sp_law_come : Sp := fun vs H Q _ => ∃ (a b : Addr) (n : Nat) (ps : List (Int × Int)) (xs : List Int) (p : Int), vs = [.ref a, .ref b, .int p] ∧ Web H a n ps ∧ WebOk n ps ∧ H b = some (iv xs) ∧ xs.length ≤ 60 ∧ ∀ d H', Kp H H' → H' d = some (iv (comeV ps xs p)) → Q (.ref d) H'
theorem ok_law_come {f : Addr} {fd : FuncData} (F : Fun K "_law_come" "_law_come" s_law_come f fd) (nm : Nm mg) (C_law_foes : Cal P w K mg base "_law_foes" 1 P_law_foes sp_law_foes) : FnOk P w K mg base CX0 2 f fd P_law_come sp_law_come := by
  refine F.ok sc_law_come (fun vs H Q E h => ?_) (fun cdv A outer s H vs Q E hr h => ?_)
  · obtain ⟨a, b, n, ps, xs, p, rfl, _⟩ := h
    rfl
  · obtain ⟨a, b, n, ps, xs, p, rfl, web, ok, hb, hl, q⟩ := h
    refine ⟨_, (pss_cons (ps_set (i := 3) sc_law_come.nd rfl (Or.inr rfl) (pe_cal C_law_foes (hr.mono (by decide)) (by rfl) (pa_cons (pv 0) (pa_cons (pv 2) pa_nil))))
      (pss_one (ps_ret (pe_callTy (k_tupOf (K := K)) (by rfl) nm.m_tuple (by decide +kernel) (pa_cons (pe_callB (k_sorted (K := K)) (by rfl) nm.m_sorted (by decide +kernel) (pa_cons (pe_op op_cat (pe_lc (own := [("_law_one", 4)]) rfl sc_law_come.nd (k_piT (K := K) (pv 1)) (blkOk_by (N := N_law_come) (sc := defScope s_law_come) (own := [("_law_one", 4)]) (by decide +kernel)) (fun _ _ _ _ _ => (pg_name (i := 4) sc_law_come.nd rfl (Or.inl rfl))) (fun _ _ _ _ _ => (pts_one (PW.pt (pw_and (pt_cmpR op_ne (pv 4) (pv 2) (nomark _)) (pw_and1 (pt_cmpR (k_notIn (K := K)) (pv 4) (pv 3) (by rfl))))))) (fun _ _ _ _ _ => (pv 4))) (pe_lst (pa_cons (pv 2) pa_nil))) pa_nil)) pa_nil))))), ?_⟩
    repeat walk_at "rd"
    refine ⟨a, n, ps, p, rfl, web, ok, fun B H0 ys k0 hB yl hy => ?_⟩
    have hb0 : H0 b = _ := k0.get hb
    repeat walk_at "rd"
    refine ⟨_, rfl, ⟨_, SqT.of hb0⟩, ?_⟩
    refine g_lcPI walk_tup (by omega) (fun H' k => SqT.of (k.get hb0)) (stays ps p) (fun Rt Rf x H1 hx k ht hf => ?_) (fun D H1 nD k hd => ?_)
    · have hB1 := k.get hB
      have ein : inV (.int x) (ys.map V.int) = foe ps x p := by
        rw [inV_ints, Bool.eq_iff_iff, decide_eq_true_eq]
        exact hy x
      repeat walk_at "rd"
      refine ⟨rfl, ?_⟩
      repeat walk_at "rd"
      refine rd_neI (b := !decide (x = p)) (by simp) ⟨_, rfl, ?_⟩
      by_cases e : x = p
      · refine no (by rw [dt e]; rfl) (no rfl ?_)
        exact hf (by unfold stays; rw [dt e]; rfl) _ (Kp.refl _)
      · refine yes (by rw [df e]; rfl) ?_
        repeat walk_at "rd"
        refine ⟨B, ys.map V.int, rfl, .inl (SqL.of hB1), rfl, flat_ints ys, ⟨_, rfl, ?_⟩⟩
        simp only [if_true]
        rw [ein]
        by_cases e2 : foe ps x p = true
        · refine no (by rw [e2]; rfl) ?_
          exact hf (by unfold stays; rw [e2]; simp) _ (Kp.refl _)
        · have e3 : foe ps x p = false := by simpa using e2
          refine yes (by rw [e3]; rfl) ?_
          repeat walk_at "rd"
          exact ht (by unfold stays; rw [e3, df e]; rfl) _ (Kp.refl _)
    · have lf : (xs.filter (stays ps p)).length ≤ 60 := Nat.le_trans (List.length_filter_le _ _) hl
      repeat walk_at "rd"
      refine ⟨sz (show (1 : Nat) ≤ 1000 by decide), fun D1 nD1 => ?_⟩
      refine ⟨D, D1, _, _, rfl, rfl, upd_old nD1 hd, upd_same, sz (by rw [List.length_map]; simp; omega), fun D2 nD2 => ?_⟩
      have e1 : (xs.filter (stays ps p)).map V.int ++ [V.int p] = (xs.filter (stays ps p) ++ [p]).map V.int := by rw [List.map_append]; rfl
      rw [e1]
      repeat walk_at "rd"
      refine ⟨D2, _, rfl, SqL.of upd_same, by rw [List.length_append, List.length_singleton]; omega, fun ns D3 pm so nD3 => ?_⟩
      repeat walk_at "rd"
      refine rd_tupOfL upd_same fun D4 nD4 => ?_
      refine q D4 _ ?_ ?_
      · exact k0.trans ((((k.trans (Kp.new nD1)).trans (Kp.new nD2)).trans (Kp.new nD3)).trans (Kp.new nD4))
      · rw [upd_same, isort_eq pm so]
        rfl
end
end Fo
set_option maxHeartbeats 2000000
/-! FoL: the law's own lots, gatherings, totals, rows. -/
namespace Fo
open PySem PySem.Spec PyProof.Rows L2 GxR
local macro_rules | `(tactic| walk_at "hp") => `(tactic| first
  | assumption
  | exact upd_same
  | (refine' upd_old ?n ?h; (case n => assumption); (case h => walk_at "hp"))
  | (refine' Kp.get ?k ?h rfl; (case k => assumption); (case h => walk_at "hp")))
local macro_rules | `(tactic| walk_at "kp") => `(tactic| first
  | exact Kp.refl _
  | assumption
  | exact Kp.new (by assumption)
  | (refine' Kp.trans ?a ?b; (case b => first | assumption | exact Kp.new (by assumption)); (case a => walk_at "kp")))
local macro_rules | `(tactic| walk_at "rd") => `(tactic| first
  | ((with_reducible show tVar _ _ _ _); refine ⟨_, rfl, ?_⟩)
  | ((with_reducible show tC _ _ _ _); refine rd_c ?_)
  | ((with_reducible show tSeq _ _ _ _ _); refine rd_seq ?_)
  | ((with_reducible show tAsg _ _ _ _ _); refine rd_asg ?_)
  | ((with_reducible show gName _ _ _ _ _); refine rd_name ?_)
  | ((with_reducible show tRet _ _ _ _); refine rd_ret ?_)
  | ((with_reducible show tOp _ _ _ _ _ _); refine rd_op ?_)
  | ((with_reducible show tCons _ _ _ _ _); refine rd_cons ?_)
  | ((with_reducible show tNil _ _ _); refine rd_nil ?_)
  | ((with_reducible show tCal _ _ _ _ _); refine rd_cal ?_)
  | ((with_reducible show tCB _ _ _ _ _); refine rd_cb ?_)
  | ((with_reducible show tTest _ _ _ _); refine rd_test ?_)
  | ((with_reducible show tB _ _ _ _); refine rd_B ?_)
  | ((with_reducible show tNot _ _ _ _); refine rd_not ?_)
  | ((with_reducible show tAnd _ _ _ _ _); refine rd_and ?_)
  | ((with_reducible show tOr _ _ _ _ _); refine rd_or ?_)
  | ((with_reducible show tAndV _ _ _ _ _); refine rd_andV ?_)
  | ((with_reducible show tNotV _ _ _ _); refine rd_notV ?_)
  | ((with_reducible show tChain _ _ _ _ _ _ _ _); refine rd_chain ?_)
  | ((with_reducible show tIfS _ _ _ _ _ _); refine rd_ifs ?_)
  | ((with_reducible show tDrop _ _ _ _); refine rd_drop ?_)
  | ((with_reducible show tFor _ _ _ _ _ _); refine rd_forG ?_)
  | ((with_reducible show iTup _ _ _ _ _); refine rd_itup ?_)
  | ((with_reducible show iList _ _ _ _ _); refine rd_ilist ?_)
  | ((with_reducible show rI0 _ _ _ _ _); refine ⟨_, _, rfl, rfl, ?_⟩)
  | ((with_reducible show rAdd _ _ _ _); refine ⟨_, _, rfl, rfl, ?_⟩)
  | ((with_reducible show rSub _ _ _ _); refine ⟨_, _, rfl, rfl, ?_⟩)
  | ((with_reducible show rIxT _ _ _ _ _); refine' rd_ix ?h ?a ?_; (case h => walk_at "hp"); (case a => first | rfl | assumption))
  | ((with_reducible show rIxL _ _ _ _ _); refine' rd_ixL ?h ?a ?_; (case h => walk_at "hp"); (case a => first | rfl | assumption))
  | ((with_reducible show tTup _ _ _ _); refine rd_tup ?_)
  | ((with_reducible show tLst _ _ _ _); refine rd_lst ?_)
  | ((with_reducible show tAllG _ _ _ _ _ _ _ _); refine rd_allG ?_)
  | ((with_reducible show tAnyG _ _ _ _ _ _ _ _); refine rd_anyG ?_)
  | ((with_reducible show tSumG _ _ _ _ _ _ _ _); refine rd_sumG ?_)
  | ((with_reducible show tLc _ _ _ _ _ _ _ _); refine rd_lc ?_)
  | ((with_reducible show tNext _ _ _); refine rd_next ?_)
  | ((with_reducible show tBreak _ _ _); refine rd_break ?_)
  | ((with_reducible show tDGet _ _ _ _ _); refine rd_dget ?_)
  | ((with_reducible show tDNewT _ _ _); refine rd_dnew ?_)
  | ((with_reducible show StX.tStar _ _ _ _ _ _); refine rd_star ?_)
  | ((with_reducible show tSl _ _ _ _ _ _ _); refine rd_sl ?_)
  | ((with_reducible show sDPut _ _ _ _ _ _); refine rd_dput ?_)
  | ((with_reducible show tBM _ _ _ _ _ _ _ _); refine rd_bm ?_)
  | ((with_reducible show tPar _ _ _ _ _ _); refine rd_par ?_)
  | ((with_reducible show tPar3 _ _ _ _ _ _ _); refine rd_par3 ?_)
  | ((with_reducible show iRng1 _ _ _ _); refine rd_rng1 ?_)
  | ((with_reducible show tUn _ _ _ _ _); refine rd_un ?_)
  | ((with_reducible show rU _ _ _ _); refine ⟨_, rfl, ?_⟩)
  | ((with_reducible show tPart _ _ _ _); refine rd_part ?_)
  | ((with_reducible show tNoPart _ _ _); refine rd_nopart ?_)
  | ((with_reducible show iRng2 _ _ _ _); refine rd_rng2 ?_)
  | ((with_reducible show iRng3 _ _ _ _); refine rd_rng3 ?_)
  | ((with_reducible show gSub _ _ _ _ _ _ _); refine rd_gsub ?_)
  | ((with_reducible show tDcT _ _ _ _ _ _ _ _); refine rd_dcT ?_)
  | ((with_reducible show tYes _ _ _); refine rd_yes ?_)
  | ((with_reducible show rLenS _ _ _ _); refine' rd_len ?h ?_; (case h => first | (refine' Or.inr (SqT.of ?z); (case z => walk_at "hp")) | (refine' Or.inl (SqL.of ?z); (case z => walk_at "hp"))))
  | ((with_reducible show gTup _ _ _ _ _ _ _); refine' rd_gtup ?h ?l ?_; (case h => refine' SqT.of ?z; (case z => walk_at "hp")); (case l => rfl))
  | ((with_reducible show gCons _ _ _ _ _ _); refine ⟨_, _, rfl, ?_⟩)
  | ((with_reducible show gNil _ _ _ _); refine ⟨rfl, ?_⟩))

section
variable {P : Program} {w : World} {K : PySem.W.Frag} {mg : Str → Option Value} {base : Heap}
/-- t + (p,) -/
theorem cat1 {a b : Addr} {xs : List Int} {p : Int} {H : Hp} {Q : VK} (ha : H a = some (iv xs)) (hb : H b = some (.tup [V.int p])) (hl : xs.length ≤ 900) (q : ∀ d H', Kp H H' → H' d = some (iv (xs ++ [p])) → Q (.ref d) H') : rCatA K (.ref a) (.ref b) H Q := by
  refine ⟨a, b, _, _, rfl, rfl, SqT.of ha, SqT.of hb, sz (by rw [List.length_map]; simp; omega), fun e => ?_, fun _ e => absurd e (by simp), fun _ _ d nd => ?_⟩
  · have : xs = [] := by simpa using e
    subst this
    exact q b H (Kp.refl _) hb
  · refine q d _ (Kp.new nd) ?_
    rw [upd_same, show xs.map V.int ++ [V.int p] = (xs ++ [p]).map V.int by rw [List.map_append]; rfl]
/-! ### _law_lots -/
abbrev s_law_lots : Stmt := topS 44
abbrev N_law_lots : List Str := ["_law_web_here", "_law_found", "_law_person", "_law_one"]
abbrev P_law_lots : List Str := ["_law_web_here"]
theorem sc_law_lots : FnScope N_law_lots P_law_lots (defScope s_law_lots) := ⟨rfl, rfl, rfl, by decide +kernel, rfl, by decide +kernel, by decide +kernel⟩
theorem ok_law_lots {f : Addr} {fd : FuncData} (F : Fun K "_law_lots" "_law_lots" s_law_lots f fd) (nm : Nm mg) : FnOk P w K mg base CX0 1 f fd P_law_lots sp_all_lots := by
  refine F.ok sc_law_lots (fun vs H Q E h => ?_) (fun cdv A outer s H vs Q E hr h => ?_)
  · obtain ⟨a, n, ps, rfl, _⟩ := h
    rfl
  · obtain ⟨a, n, ps, rfl, ⟨b, L, w1, w2, w3, w4⟩, hn, q⟩ := h
    refine ⟨_, (pss_cons (ps_set (i := 1) sc_law_lots.nd rfl (Or.inl rfl) (pe_lst (pa_cons (pe_tup pa_nil) pa_nil)))
      (pss_cons (ps_for PassesOwn.never rfl (pi_range1 (by rfl) nm.m_range (pa_cons (pe_ix (k_ixT (K := K)) (pv 0) pe_int (fun _ _ => rfl)) pa_nil)) (pg_name (i := 2) sc_law_lots.nd rfl (Or.inr rfl))
        (pss_one (ps_set (i := 1) sc_law_lots.nd rfl (Or.inl rfl) (pe_op op_cat (pv 1) (pe_lc (own := [("_law_one", 3)]) rfl sc_law_lots.nd (k_piL (K := K) (pv 1)) (blkOk_by (N := N_law_lots) (sc := defScope s_law_lots) (own := [("_law_one", 3)]) (by decide +kernel)) (fun _ _ _ _ _ => (pg_name (i := 3) sc_law_lots.nd rfl (Or.inl rfl))) (fun _ _ _ _ _ => pts_nil) (fun _ _ _ _ _ => (pe_op (k_catA (K := K)) (pv 3) (pe_tup (pa_cons (pv 2) pa_nil)))))))))
      (pss_one (ps_ret (pe_callB (k_sortL (K := K) (hu_of hr)) (by rfl) nm.m_sorted (by decide +kernel) (pa_cons (pv 1) pa_nil)))))), ?_⟩
    repeat walk_at "rd"
    refine ⟨sz (by decide), fun p0 n0 => ?_⟩
    repeat walk_at "rd"
    refine ⟨sz (show (1 : Nat) ≤ 1000 by decide), fun p1 n1 => ?_⟩
    repeat walk_at "rd"
    refine ⟨n, rfl, by omega, by omega, ?_⟩
    refine g_for walk_range (fun i σ H' => ∃ (d : Addr) (o : Option V) (L : LP), σ = [some (.ref a), some (.ref d), o, none] ∧ Kp H H' ∧ H' d = some (.lst (refs L)) ∧ Its H' L ∧ L.map (·.2) = lotsF i)
      ⟨p1, none, [(p0, [])], rfl, (Kp.new n0).trans (Kp.new n1), upd_same, Its.cons (upd_old n1 upd_same) Its.nil, rfl⟩ (fun _ _ _ _ _ => trivial) (fun i x σ H1 H2 hi pv y => ?_) (fun σ H1 pv => ?_)
    · obtain ⟨d, o, L, rfl, k, hd, hL, hm⟩ := pv
      obtain ⟨rfl, rfl⟩ := y
      have ll : L.length = 2 ^ i := by rw [← lotsF_len i, ← hm, List.length_map]
      have l2 : 2 ^ i ≤ 2 ^ 3 := Nat.pow_le_pow_right (by decide) (by omega)
      repeat walk_at "rd"
      refine ⟨_, rfl, ⟨_, SqL.of hd⟩, ?_⟩
      refine g_lcT walk_list (by rw [refs_len]; omega) (fun H' k => SqL.of (k.get hd)) (fun j => (lotsF i).getD j [] ++ [(i : Int)]) (fun Rt j x H3 H4 hj k3 y hR => ?_) (fun D H3 M nD k3 hD hM hMm => ?_)
      · obtain ⟨rfl, hx⟩ := y
        obtain ⟨q0, e1, rfl, m⟩ := refs_get hx
        have e2 : (lotsF i).getD j [] = q0.2 := by
          rw [← hm, List.getD_eq_getElem?_getD, List.getElem?_map, e1]
          rfl
        repeat walk_at "rd"
        refine ⟨rfl, ?_⟩
        repeat walk_at "rd"
        have hq := k3.get (hL q0 m)
        have lq : q0.2.length ≤ i := ((lotsF_mem i q0.2).mp (by rw [← hm]; exact List.mem_map_of_mem m)).len
        refine ⟨sz (show (1 : Nat) ≤ 1000 by decide), fun z nz => ?_⟩
        refine cat1 (p := 0 + (i : Int)) (upd_old nz hq) upd_same (by omega) fun d2 H5 k5 hd2 => ?_
        refine hR d2 _ ((Kp.new nz).trans k5) ?_
        rw [Int.zero_add] at hd2
        rw [e2]
        exact hd2
      · have hMl : M.length = 2 ^ i := by
          have := congrArg List.length hMm
          rw [List.length_map, List.length_map, List.length_range, refs_len] at this
          omega
        refine ⟨d, D, refs L, refs M, rfl, rfl, k3.get hd, hD, sz (by rw [refs_len, refs_len]; omega), fun z nz => ?_⟩
        repeat walk_at "rd"
        refine ⟨z, _, L ++ M, rfl, (k.trans k3).trans (Kp.new nz), ?_, ?_, ?_⟩
        · rw [upd_same, refs_app]
        · exact ((hL.kp k3).app hM).kp (Kp.new nz)
        · rw [List.map_append, hm, hMm, refs_len, ll]
          rw [show lotsF (i + 1) = lotsF i ++ (lotsF i).map (· ++ [(i : Int)]) from rfl]
          congr 1
          have e3 : (List.range (2 ^ i)).map (fun j => (lotsF i).getD j [] ++ [(i : Int)]) = ((List.range (2 ^ i)).map fun j => (lotsF i).getD j []).map (· ++ [(i : Int)]) := by rw [List.map_map]; rfl
          rw [e3]
          congr 1
          rw [← lotsF_len i]
          exact List.ext_getElem (by simp) fun j h1 h2 => by simp [List.getD_eq_getElem?_getD, h2]
    · obtain ⟨d, o, L, rfl, k, hd, hL, hm⟩ := pv
      obtain ⟨G, eG⟩ := lotsF_head n
      have hm' : L.map (·.2) = [] :: G := by
        have : ((n : Int)).toNat = n := by omega
        rw [this, eG] at hm
        exact hm
      cases L with
      | nil => cases hm'
      | cons q0 L =>
        obtain ⟨q1, q2⟩ := q0
        have e0 : q2 = [] := by
          simp at hm'
          exact hm'.1
        subst e0
        repeat walk_at "rd"
        refine ⟨d, q1, L, rfl, SqL.of hd, fun r hr => SqT.of (hL r hr), fun L' d' pm so nd => ?_⟩
        refine q d' _ L' (k.trans (Kp.new nd)) upd_same (Its.kp (show Its H1 L' from fun r hr => hL r (pm.mem_iff.mp hr)) (Kp.new nd)) ?_
        refine lots_eq ?_ ?_
        · rw [show (((n : Int)).toNat) = n by omega] at hm
          rw [← hm]
          exact pm.map _
        · exact List.Pairwise.map _ (fun _ _ h => h) so
/-! ### _law_is_gathering -/
abbrev s_law_is_gathering : Stmt := topS 45
abbrev N_law_is_gathering : List Str := ["_law_web_here", "_law_lot", "_law_pair"]
abbrev P_law_is_gathering : List Str := ["_law_web_here", "_law_lot"]
theorem sc_law_is_gathering : FnScope N_law_is_gathering P_law_is_gathering (defScope s_law_is_gathering) := ⟨rfl, rfl, rfl, by decide +kernel, rfl, by decide +kernel, by decide +kernel⟩
def sp_law_is_gathering : Sp := fun vs H Q _ => ∃ (a b : Addr) (n : Nat) (ps : List (Int × Int)) (xs : List Int), vs = [.ref a, .ref b] ∧ Web H a n ps ∧ WebOk n ps ∧ H b = some (iv xs) ∧ ∀ H', Kp H H' → Q (.bl (gok ps xs)) H'
theorem ok_law_is_gathering {f : Addr} {fd : FuncData} (F : Fun K "_law_is_gathering" "_law_is_gathering" s_law_is_gathering f fd) (nm : Nm mg) : FnOk P w K mg base CX0 1 f fd P_law_is_gathering sp_law_is_gathering := by
  refine F.ok sc_law_is_gathering (fun vs H Q E h => ?_) (fun cdv A outer s H vs Q E hr h => ?_)
  · obtain ⟨a, b, n, ps, xs, rfl, _⟩ := h
    rfl
  · obtain ⟨a, b, n, ps, xs, rfl, ⟨b', L, w1, w2, w3, w4⟩, ok, hb, q⟩ := h
    refine ⟨_, (pss_one (ps_ret (pe_cmpR (k_eqD (K := K) (hu_of hr)) (pe_lc (own := [("_law_pair", 2)]) rfl sc_law_is_gathering.nd (k_piT (K := K) (pe_ix (k_ixT (K := K)) (pv 0) pe_int (fun _ _ => rfl))) (blkOk_by (N := N_law_is_gathering) (sc := defScope s_law_is_gathering) (own := [("_law_pair", 2)]) (by decide +kernel)) (fun _ _ _ _ _ => (pg_name (i := 2) sc_law_is_gathering.nd rfl (Or.inl rfl))) (fun _ _ _ _ _ => (pts_one (PW.pt (pw_and (pt_cmpR (k_in (K := K)) (pe_ix (k_ixT (K := K)) (pv 2) pe_int (fun _ _ => rfl)) (pv 1) (by rfl)) (pw_and1 (pt_cmpR (k_in (K := K)) (pe_ix (k_ixT (K := K)) (pv 2) pe_int (fun _ _ => rfl)) (pv 1) (by rfl))))))) (fun _ _ _ _ _ => (pv 2))) (pe_lst pa_nil) (nomark _)))), ?_⟩
    have ll : L.length = ps.length := by rw [← refs_len, prs_len w3]
    have few := ok.few
    repeat walk_at "rd"
    refine ⟨_, rfl, ⟨_, SqT.of w2⟩, ?_⟩
    refine g_lcP walk_tup (by omega) (fun H' k => SqT.of (k.get w2)) w4 (fun z => decide (z.getD 0 0 ∈ xs) && decide (z.getD 1 0 ∈ xs)) (fun Rt Rf q0 H1 m k ht hf => ?_) (fun D H1 M nD k hD hM hMm => ?_)
    · obtain ⟨i, hi, ei⟩ := List.getElem_of_mem m
      have e0 : (refs L)[i]? = some (.ref q0.1) := by
        unfold refs
        rw [List.getElem?_map, List.getElem?_eq_getElem hi, ei]
        rfl
      obtain ⟨e, pr, h1, hp, _, h2⟩ := prs_get w3 e0
      have h3 : q0 = (e, [pr.1, pr.2]) := by
        rw [List.getElem?_eq_getElem hi, ei] at h2
        exact Option.some.inj h2
      subst h3
      have hb1 := k.get hb
      have he : H1 e = some (iv [pr.1, pr.2]) := k.get (w4 _ m)
      repeat walk_at "rd"
      refine ⟨rfl, ?_⟩
      repeat walk_at "rd"
      refine ⟨b, xs.map V.int, rfl, .inr (SqT.of hb1), rfl, flat_ints xs, ⟨_, rfl, ?_⟩⟩
      simp only [Bool.false_eq_true, if_false]
      rw [inV_ints]
      by_cases m1 : pr.1 ∈ xs
      · refine yes (dt m1) ?_
        repeat walk_at "rd"
        refine ⟨b, xs.map V.int, rfl, .inr (SqT.of hb1), rfl, flat_ints xs, ⟨_, rfl, ?_⟩⟩
        simp only [Bool.false_eq_true, if_false]
        rw [inV_ints]
        by_cases m2 : pr.2 ∈ xs
        · refine yes (dt m2) ?_
          repeat walk_at "rd"
          exact ht (by simp [m1, m2]) _ (Kp.refl _)
        · refine no (df m2) ?_
          exact hf (by simp [m1, m2]) _ (Kp.refl _)
      · refine no (df m1) ?_
        exact hf (by simp [m1]) _ (Kp.refl _)
    · repeat walk_at "rd"
      refine ⟨sz (show (0 : Nat) ≤ 1000 by decide), fun z nz => ?_⟩
      refine ⟨.list ((M.map (·.2)).map pI), .list [], .lst (SqL.of (upd_old nz hD)) (dpAll_refs (hM.kp (Kp.new nz))), .lst (SqL.of upd_same) .nil, pIs_shapedL _, pIs_shapedL [], ?_⟩
      have e : PyData.eqv (.list ((M.map (·.2)).map pI)) (.list []) = gok ps xs := by
        rw [hMm, w3]
        unfold gok prs
        rw [List.filter_map]
        have e4 : ((fun z : List Int => decide (z.getD 0 0 ∈ xs) && decide (z.getD 1 0 ∈ xs)) ∘ fun p : Int × Int => [p.1, p.2]) = fun p : Int × Int => decide (p.1 ∈ xs) && decide (p.2 ∈ xs) := rfl
        rw [e4]
        generalize (fun p : Int × Int => decide (p.1 ∈ xs) && decide (p.2 ∈ xs)) = pr
        clear hMm w3 few ll ok q
        induction ps with
        | nil => simp [PyData.eqv, PyData.eqvAll]
        | cons p ps ih =>
          by_cases hp : pr p = true
          · rw [List.filter_cons, if_pos hp]
            simp [PyData.eqv, PyData.eqvAll, hp]
          · rw [List.filter_cons, if_neg hp, ih]
            simp [hp]
      rw [e]
      exact q _ (k.trans (Kp.new nz))
/-! ### _law_gatherings -/
abbrev s_law_gatherings : Stmt := topS 46
abbrev N_law_gatherings : List Str := ["_law_web_here", "_law_lot"]
abbrev P_law_gatherings : List Str := ["_law_web_here"]
theorem sc_law_gatherings : FnScope N_law_gatherings P_law_gatherings (defScope s_law_gatherings) := ⟨rfl, rfl, rfl, by decide +kernel, rfl, by decide +kernel, by decide +kernel⟩
def sp_law_gatherings : Sp := fun vs H Q _ => ∃ (a : Addr) (n : Nat) (ps : List (Int × Int)), vs = [.ref a] ∧ Web H a n ps ∧ WebOk n ps ∧ ∀ d H' L, Kp H H' → H' d = some (.lst (refs L)) → Its H' L → L.map (·.2) = gathV n ps → Q (.ref d) H'
theorem ok_law_gatherings {f : Addr} {fd : FuncData} (F : Fun K "_law_gatherings" "_law_gatherings" s_law_gatherings f fd) (nm : Nm mg) (C_law_lots : Cal P w K mg base "_law_lots" 1 P_law_lots sp_all_lots)
    (C_law_is_gathering : Cal P w K mg base "_law_is_gathering" 1 P_law_is_gathering sp_law_is_gathering) : FnOk P w K mg base CX0 2 f fd P_law_gatherings sp_law_gatherings := by
  refine F.ok sc_law_gatherings (fun vs H Q E h => ?_) (fun cdv A outer s H vs Q E hr h => ?_)
  · obtain ⟨a, n, ps, rfl, _⟩ := h
    rfl
  · obtain ⟨a, n, ps, rfl, web, ok, q⟩ := h
    refine ⟨_, (pss_one (ps_ret (pe_lc (own := [("_law_lot", 1)]) rfl sc_law_gatherings.nd (k_piL (K := K) (pe_cal C_law_lots (hr.mono (by decide)) (by rfl) (pa_cons (pv 0) pa_nil))) (blkOk_by (N := N_law_gatherings) (sc := defScope s_law_gatherings) (own := [("_law_lot", 1)]) (by decide +kernel)) (fun _ _ _ _ _ => (pg_name (i := 1) sc_law_gatherings.nd rfl (Or.inl rfl))) (fun _ _ _ _ _ => (pts_one (pt_val (pe_cal C_law_is_gathering (hr.mono (by decide)) (by rfl) (pa_cons (pv 0) (pa_cons (pv 1) pa_nil)))))) (fun _ _ _ _ _ => (pv 1))))), ?_⟩
    have hn := ok.hi
    repeat walk_at "rd"
    refine ⟨a, n, ps, rfl, web, hn, fun d H1 L k1 hd hL hm => ⟨_, rfl, ⟨_, SqL.of hd⟩, ?_⟩⟩
    have ll : L.length = 2 ^ n := by rw [← lotsV_len n, ← hm, List.length_map]
    have l2 : 2 ^ n ≤ 2 ^ 4 := Nat.pow_le_pow_right (by decide) hn
    refine g_lcP walk_list (by omega) (fun H' k => SqL.of (k.get hd)) hL (gok ps) (fun Rt Rf q0 H2 m k ht hf => ?_) (fun D H2 M nD k hD hM hMm => ?_)
    · repeat walk_at "rd"
      refine ⟨rfl, ?_⟩
      repeat walk_at "rd"
      refine ⟨a, q0.1, n, ps, q0.2, rfl, web.kp (k1.trans k), ok, k.get (hL q0 m), fun H3 k3 => ⟨_, rfl, ?_⟩⟩
      by_cases e : gok ps q0.2 = true
      · refine yes e ?_
        repeat walk_at "rd"
        exact ht e _ k3
      · exact no (by simpa using e) (hf (by simpa using e) _ k3)
    · refine q D _ M (k1.trans k) hD hM ?_
      rw [hMm, hm]
      rfl
end
end Fo
set_option maxHeartbeats 2000000
/-! FoN: the law's own totals and rows. -/
namespace Fo
open PySem PySem.Spec PyProof.Rows L2 GxR
local macro_rules | `(tactic| walk_at "hp") => `(tactic| first
  | assumption
  | exact upd_same
  | (refine' upd_old ?n ?h; (case n => assumption); (case h => walk_at "hp"))
  | (refine' Kp.get ?k ?h rfl; (case k => assumption); (case h => walk_at "hp")))
local macro_rules | `(tactic| walk_at "kp") => `(tactic| first
  | exact Kp.refl _
  | assumption
  | exact Kp.new (by assumption)
  | (refine' Kp.trans ?a ?b; (case b => first | assumption | exact Kp.new (by assumption)); (case a => walk_at "kp")))
local macro_rules | `(tactic| walk_at "rd") => `(tactic| first
  | ((with_reducible show tVar _ _ _ _); refine ⟨_, rfl, ?_⟩)
  | ((with_reducible show tC _ _ _ _); refine rd_c ?_)
  | ((with_reducible show tSeq _ _ _ _ _); refine rd_seq ?_)
  | ((with_reducible show tAsg _ _ _ _ _); refine rd_asg ?_)
  | ((with_reducible show gName _ _ _ _ _); refine rd_name ?_)
  | ((with_reducible show tRet _ _ _ _); refine rd_ret ?_)
  | ((with_reducible show tOp _ _ _ _ _ _); refine rd_op ?_)
  | ((with_reducible show tCons _ _ _ _ _); refine rd_cons ?_)
  | ((with_reducible show tNil _ _ _); refine rd_nil ?_)
  | ((with_reducible show tCal _ _ _ _ _); refine rd_cal ?_)
  | ((with_reducible show tCB _ _ _ _ _); refine rd_cb ?_)
  | ((with_reducible show tTest _ _ _ _); refine rd_test ?_)
  | ((with_reducible show tB _ _ _ _); refine rd_B ?_)
  | ((with_reducible show tNot _ _ _ _); refine rd_not ?_)
  | ((with_reducible show tAnd _ _ _ _ _); refine rd_and ?_)
  | ((with_reducible show tOr _ _ _ _ _); refine rd_or ?_)
  | ((with_reducible show tAndV _ _ _ _ _); refine rd_andV ?_)
  | ((with_reducible show tNotV _ _ _ _); refine rd_notV ?_)
  | ((with_reducible show tChain _ _ _ _ _ _ _ _); refine rd_chain ?_)
  | ((with_reducible show tIfS _ _ _ _ _ _); refine rd_ifs ?_)
  | ((with_reducible show tDrop _ _ _ _); refine rd_drop ?_)
  | ((with_reducible show tFor _ _ _ _ _ _); refine rd_forG ?_)
  | ((with_reducible show iTup _ _ _ _ _); refine rd_itup ?_)
  | ((with_reducible show iList _ _ _ _ _); refine rd_ilist ?_)
  | ((with_reducible show rI0 _ _ _ _ _); refine ⟨_, _, rfl, rfl, ?_⟩)
  | ((with_reducible show rAdd _ _ _ _); refine ⟨_, _, rfl, rfl, ?_⟩)
  | ((with_reducible show rSub _ _ _ _); refine ⟨_, _, rfl, rfl, ?_⟩)
  | ((with_reducible show rIxT _ _ _ _ _); refine' rd_ix ?h ?a ?_; (case h => walk_at "hp"); (case a => first | rfl | assumption))
  | ((with_reducible show rIxL _ _ _ _ _); refine' rd_ixL ?h ?a ?_; (case h => walk_at "hp"); (case a => first | rfl | assumption))
  | ((with_reducible show tTup _ _ _ _); refine rd_tup ?_)
  | ((with_reducible show tLst _ _ _ _); refine rd_lst ?_)
  | ((with_reducible show tAllG _ _ _ _ _ _ _ _); refine rd_allG ?_)
  | ((with_reducible show tAnyG _ _ _ _ _ _ _ _); refine rd_anyG ?_)
  | ((with_reducible show tSumG _ _ _ _ _ _ _ _); refine rd_sumG ?_)
  | ((with_reducible show tLc _ _ _ _ _ _ _ _); refine rd_lc ?_)
  | ((with_reducible show tNext _ _ _); refine rd_next ?_)
  | ((with_reducible show tBreak _ _ _); refine rd_break ?_)
  | ((with_reducible show tDGet _ _ _ _ _); refine rd_dget ?_)
  | ((with_reducible show tDNewT _ _ _); refine rd_dnew ?_)
  | ((with_reducible show StX.tStar _ _ _ _ _ _); refine rd_star ?_)
  | ((with_reducible show tSl _ _ _ _ _ _ _); refine rd_sl ?_)
  | ((with_reducible show sDPut _ _ _ _ _ _); refine rd_dput ?_)
  | ((with_reducible show tBM _ _ _ _ _ _ _ _); refine rd_bm ?_)
  | ((with_reducible show tPar _ _ _ _ _ _); refine rd_par ?_)
  | ((with_reducible show tPar3 _ _ _ _ _ _ _); refine rd_par3 ?_)
  | ((with_reducible show iRng1 _ _ _ _); refine rd_rng1 ?_)
  | ((with_reducible show tUn _ _ _ _ _); refine rd_un ?_)
  | ((with_reducible show rU _ _ _ _); refine ⟨_, rfl, ?_⟩)
  | ((with_reducible show tPart _ _ _ _); refine rd_part ?_)
  | ((with_reducible show tNoPart _ _ _); refine rd_nopart ?_)
  | ((with_reducible show iRng2 _ _ _ _); refine rd_rng2 ?_)
  | ((with_reducible show iRng3 _ _ _ _); refine rd_rng3 ?_)
  | ((with_reducible show gSub _ _ _ _ _ _ _); refine rd_gsub ?_)
  | ((with_reducible show tDcT _ _ _ _ _ _ _ _); refine rd_dcT ?_)
  | ((with_reducible show tYes _ _ _); refine rd_yes ?_)
  | ((with_reducible show rLenS _ _ _ _); refine' rd_len ?h ?_; (case h => first | (refine' Or.inr (SqT.of ?z); (case z => walk_at "hp")) | (refine' Or.inl (SqL.of ?z); (case z => walk_at "hp"))))
  | ((with_reducible show gTup _ _ _ _ _ _ _); refine' rd_gtup ?h ?l ?_; (case h => refine' SqT.of ?z; (case z => walk_at "hp")); (case l => rfl))
  | ((with_reducible show gCons _ _ _ _ _ _); refine ⟨_, _, rfl, ?_⟩)
  | ((with_reducible show gNil _ _ _ _); refine ⟨rfl, ?_⟩))

/-! ### rows -/
def extV (n : Nat) (r : List Int) : List (List Int) := (List.range n).map fun p : Nat => r ++ [(p : Int)]
def rowsV (n : Nat) : Nat → List (List Int)
  | 0 => [[]]
  | t + 1 => (rowsV n t).flatMap (extV n)
theorem rowsV_mem {n : Nat} : ∀ (t : Nat) (xs : List Int), xs ∈ rowsV n t ↔ xs.length = t ∧ ∀ x ∈ xs, 0 ≤ x ∧ x < n
  | 0, xs => by
    unfold rowsV
    constructor
    · intro h
      rw [List.mem_singleton.mp h]
      exact ⟨rfl, fun x hx => absurd hx (by simp)⟩
    · rintro ⟨h, _⟩
      rw [List.eq_nil_of_length_eq_zero h]
      simp
  | t + 1, xs => by
    unfold rowsV
    rw [List.mem_flatMap]
    constructor
    · rintro ⟨r, hr, hx⟩
      obtain ⟨p, hp, rfl⟩ := List.mem_map.mp hx
      obtain ⟨h1, h2⟩ := (rowsV_mem t r).mp hr
      refine ⟨by rw [List.length_append, h1]; rfl, fun x hx => ?_⟩
      rcases List.mem_append.mp hx with m | m
      · exact h2 x m
      · rw [List.mem_singleton.mp m]
        have := List.mem_range.mp hp
        omega
    · rintro ⟨h1, h2⟩
      rcases List.eq_nil_or_concat xs with rfl | ⟨r, p, rfl⟩
      · cases h1
      · rw [List.concat_eq_append] at *
        rw [List.length_append] at h1
        have hp := h2 p (by simp)
        refine ⟨r, (rowsV_mem t r).mpr ⟨by simpa using h1, fun x hx => h2 x (List.mem_append_left _ hx)⟩, ?_⟩
        refine List.mem_map.mpr ⟨p.toNat, List.mem_range.mpr (by omega), ?_⟩
        rw [show ((p.toNat : Nat) : Int) = p by omega]
theorem flat_len {n : Nat} : ∀ l : List (List Int), (l.flatMap (extV n)).length = l.length * n
  | [] => by simp
  | r :: l => by
    rw [List.flatMap_cons, List.length_append, flat_len l, List.length_cons]
    unfold extV
    rw [List.length_map, List.length_range, Nat.add_mul]
    omega
theorem rowsV_len (n : Nat) : ∀ t, (rowsV n t).length = n ^ t
  | 0 => rfl
  | t + 1 => by
    unfold rowsV
    rw [flat_len, rowsV_len n t, Nat.pow_succ]
theorem rowsV_64 {n t : Nat} (hn : n ≤ 4) (ht : t ≤ 3) : (rowsV n t).length ≤ 64 := by
  rw [rowsV_len]
  have h1 : n ^ t ≤ 4 ^ t := Nat.pow_le_pow_left hn t
  have h2 : 4 ^ t ≤ 4 ^ 3 := Nat.pow_le_pow_right (by decide) ht
  omega
section
variable {P : Program} {w : World} {K : PySem.W.Frag} {mg : Str → Option Value} {base : Heap}
abbrev s_law_rows : Stmt := topS 51
abbrev N_law_rows : List Str := ["_law_web_here", "_law_many", "_law_rows_here", "_law_turn", "_law_more", "_law_one", "_law_person"]
abbrev P_law_rows : List Str := ["_law_web_here", "_law_many"]
theorem sc_law_rows : FnScope N_law_rows P_law_rows (defScope s_law_rows) := ⟨rfl, rfl, rfl, by decide +kernel, rfl, by decide +kernel, by decide +kernel⟩
def sp_law_rows : Sp := fun vs H Q _ => ∃ (a : Addr) (n : Nat) (ps : List (Int × Int)) (many : Nat), vs = [.ref a, .int many] ∧ Web H a n ps ∧ WebOk n ps ∧ many ≤ 3 ∧ ∀ d H' L, Kp H H' → H' d = some (.lst (refs L)) → Its H' L → L.map (·.2) = rowsV n many → Q (.ref d) H'
theorem ok_law_rows {f : Addr} {fd : FuncData} (F : Fun K "_law_rows" "_law_rows" s_law_rows f fd) (nm : Nm mg) : FnOk P w K mg base CX0 1 f fd P_law_rows sp_law_rows := by
  refine F.ok sc_law_rows (fun vs H Q E h => ?_) (fun cdv A outer s H vs Q E hr h => ?_)
  · obtain ⟨a, n, ps, many, rfl, _⟩ := h
    rfl
  · obtain ⟨a, n, ps, many, rfl, ⟨b, L0, w1, w2, w3, w4⟩, ok, hm3, q⟩ := h
    refine ⟨_, (pss_cons (ps_set (i := 2) sc_law_rows.nd rfl (Or.inl rfl) (pe_lst (pa_cons (pe_tup pa_nil) pa_nil)))
      (pss_cons (ps_for PassesOwn.never rfl (pi_range1 (by rfl) nm.m_range (pa_cons (pv 1) pa_nil)) (pg_name (i := 3) sc_law_rows.nd rfl (Or.inl rfl))
        (pss_cons (ps_set (i := 4) sc_law_rows.nd rfl (Or.inl rfl) (pe_lst pa_nil))
        (pss_cons (ps_for PassesOwn.never rfl (k_piL (K := K) (pv 2)) (pg_name (i := 5) sc_law_rows.nd rfl (Or.inr rfl))
          (pss_one (ps_set (i := 4) sc_law_rows.nd rfl (Or.inl rfl) (pe_op op_cat (pv 4) (pe_lc (own := [("_law_person", 6)]) rfl sc_law_rows.nd (pi_range1 (by rfl) nm.m_range (pa_cons (pe_ix (k_ixT (K := K)) (pv 0) pe_int (fun _ _ => rfl)) pa_nil)) (blkOk_by (N := N_law_rows) (sc := defScope s_law_rows) (own := [("_law_person", 6)]) (by decide +kernel)) (fun _ _ _ _ _ => (pg_name (i := 6) sc_law_rows.nd rfl (Or.inl rfl))) (fun _ _ _ _ _ => pts_nil) (fun _ _ _ _ _ => (pe_op (k_catA (K := K)) (pv 5) (pe_tup (pa_cons (pv 6) pa_nil)))))))))
        (pss_one (ps_set (i := 2) sc_law_rows.nd rfl (Or.inl rfl) (pv 4))))))
      (pss_one (ps_ret (pv 2))))), ?_⟩
    have hn := ok.hi
    repeat walk_at "rd"
    refine ⟨sz (by decide), fun p0 n0 => ?_⟩
    repeat walk_at "rd"
    refine ⟨sz (show (1 : Nat) ≤ 1000 by decide), fun p1 n1 => ?_⟩
    repeat walk_at "rd"
    refine ⟨many, rfl, by omega, by omega, ?_⟩
    refine g_for walk_range (fun t σ H' => ∃ (d : Addr) (o3 o4 o5 : Option V) (L : LP), σ = [some (.ref a), some (.int many), some (.ref d), o3, o4, o5, none] ∧ Kp H H' ∧ H' d = some (.lst (refs L)) ∧ Its H' L ∧ L.map (·.2) = rowsV n t)
      ⟨p1, _, _, _, [(p0, [])], rfl, (Kp.new n0).trans (Kp.new n1), upd_same, Its.cons (upd_old n1 upd_same) Its.nil, rfl⟩ (fun _ _ _ _ _ => trivial) (fun t x σ H1 H2 hi pv y => ?_) (fun σ H1 pv => ?_)
    · obtain ⟨d, o3, o4, o5, L, rfl, k, hd, hL, hm⟩ := pv
      obtain ⟨rfl, rfl⟩ := y
      rw [Int.toNat_natCast] at hi
      have ll : L.length ≤ 64 := by
        have := rowsV_64 hn (show t ≤ 3 by omega)
        rw [← hm, List.length_map] at this
        exact this
      repeat walk_at "rd"
      refine ⟨sz (show (0 : Nat) ≤ 1000 by decide), fun z0 nz0 => ?_⟩
      repeat walk_at "rd"
      have kz0 : Kp H2 (upd H2 z0 (.lst [])) := Kp.new nz0
      refine ⟨_, rfl, ⟨_, SqL.of (kz0.get hd)⟩, ?_⟩
      refine g_for walk_list (fun j σ H' => ∃ (e : Addr) (o5 : Option V) (M : LP), σ = [some (.ref a), some (.int many), some (.ref d), some (.int (0 + (t : Int))), some (.ref e), o5, none] ∧ Kp H2 H' ∧ H' e = some (.lst (refs M)) ∧ Its H' M ∧ M.map (·.2) = ((L.take j).map (·.2)).flatMap (extV n))
        ⟨z0, _, [], rfl, kz0, upd_same, Its.nil, rfl⟩ (fun i σ H' _ pv => by obtain ⟨_, _, _, _, k, _⟩ := pv; exact SqL.of (k.get hd)) (fun j x σ H3 H4 hj pv y => ?_) (fun σ H3 pv => ?_)
      · obtain ⟨e, o5, M, rfl, k3, he, hM, hMm⟩ := pv
        obtain ⟨rfl, hx⟩ := y
        obtain ⟨q0, e0, rfl, m0⟩ := refs_get hx
        rw [refs_len] at hj
        have w1' := (k.trans k3).get w1
        have hq := k3.get (hL q0 m0)
        have lq : q0.2.length = t := ((rowsV_mem t q0.2).mp (by rw [← hm]; exact List.mem_map_of_mem m0)).1
        have Ml : M.length ≤ 64 * 4 := by
          have h1 := congrArg List.length hMm
          rw [List.length_map, flat_len, List.length_map, List.length_take] at h1
          rw [h1]
          exact Nat.mul_le_mul (by omega) hn
        repeat walk_at "rd"
        refine ⟨n, rfl, by omega, by omega, ?_⟩
        refine g_lcT walk_range (by omega) (fun _ _ => trivial) (fun p : Nat => q0.2 ++ [(p : Int)]) (fun Rt p x H5 H6 hp k5 y hR => ?_) (fun D H5 M2 nD k5 hD hM2 hM2m => ?_)
        · obtain ⟨rfl, rfl⟩ := y
          have hq5 := k5.get hq
          repeat walk_at "rd"
          refine ⟨rfl, ?_⟩
          repeat walk_at "rd"
          refine ⟨sz (show (1 : Nat) ≤ 1000 by decide), fun z nz => ?_⟩
          refine cat1 (p := 0 + (p : Int)) (upd_old nz hq5) upd_same (by omega) fun d2 H7 k7 hd2 => ?_
          refine hR d2 _ ((Kp.new nz).trans k7) ?_
          rw [Int.zero_add] at hd2
          exact hd2
        · rw [Int.toNat_natCast] at hM2m
          have l2 : M2.length = n := by
            have := congrArg List.length hM2m
            rw [List.length_map, List.length_map, List.length_range] at this
            exact this
          refine ⟨e, D, refs M, refs M2, rfl, rfl, k5.get he, hD, sz (by rw [refs_len, refs_len]; omega), fun z nz => ?_⟩
          repeat walk_at "rd"
          refine ⟨z, _, M ++ M2, rfl, (k3.trans k5).trans (Kp.new nz), ?_, ?_, ?_⟩
          · rw [upd_same, refs_app]
          · exact ((hM.kp k5).app hM2).kp (Kp.new nz)
          · have et : L.take (j + 1) = L.take j ++ [q0] := by rw [List.take_succ, e0]; rfl
            rw [List.map_append, hMm, hM2m, et, List.map_append, List.flatMap_append]
            congr 1
            show _ = [q0.2].flatMap (extV n)
            rw [List.flatMap_cons, List.flatMap_nil, List.append_nil]
            rfl
      · obtain ⟨e, o5, M, rfl, k3, he, hM, hMm⟩ := pv
        rw [refs_len, List.take_of_length_le (Nat.le_refl _), hm] at hMm
        repeat walk_at "rd"
        exact ⟨e, _, _, _, M, rfl, k.trans k3, he, hM, hMm⟩
    · obtain ⟨d, o3, o4, o5, L, rfl, k, hd, hL, hm⟩ := pv
      rw [Int.toNat_natCast] at hm
      repeat walk_at "rd"
      exact q d _ L k hd hL hm
/-! ### _law_total -/
abbrev s_law_total : Stmt := topS 50
abbrev N_law_total : List Str := ["_law_web_here", "_law_start", "_law_gains", "_law_costs", "_law_comers", "_law_found", "_law_person", "_law_one"]
abbrev P_law_total : List Str := ["_law_web_here", "_law_start", "_law_gains", "_law_costs", "_law_comers"]
theorem sc_law_total : FnScope N_law_total P_law_total (defScope s_law_total) := ⟨rfl, rfl, rfl, by decide +kernel, rfl, by decide +kernel, by decide +kernel⟩
def sp_law_total : Sp := fun vs H Q _ => ∃ (a b gg cc r : Addr) (n : Nat) (ps : List (Int × Int)) (g gs cs row : List Int), vs = [.ref a, .ref b, .ref gg, .ref cc, .ref r] ∧ Web H a n ps ∧ WebOk n ps ∧ H b = some (iv g) ∧ g ∈ gathV n ps ∧
  H gg = some (iv gs) ∧ gs.length = n ∧ H cc = some (iv cs) ∧ cs.length = n ∧ H r = some (iv row) ∧ (∀ x ∈ row, 0 ≤ x ∧ x < n) ∧ ∀ H', Kp H H' → Q (.int (totalV ps gs cs g row)) H'
theorem ok_law_total {f : Addr} {fd : FuncData} (F : Fun K "_law_total" "_law_total" s_law_total f fd) (nm : Nm mg) (C_law_come : Cal P w K mg base "_law_come" 2 P_law_come sp_law_come) : FnOk P w K mg base CX0 3 f fd P_law_total sp_law_total := by
  refine F.ok sc_law_total (fun vs H Q E h => ?_) (fun cdv A outer s H vs Q E hr h => ?_)
  · obtain ⟨a, b, gg, cc, r, n, ps, g, gs, cs, row, rfl, _⟩ := h
    rfl
  · obtain ⟨a, b, gg, cc, r, n, ps, g, gs, cs, row, rfl, web, ok, hb, hg, hgs, gl, hcs, cl, hrow, rx, q⟩ := h
    refine ⟨_, (pss_cons (ps_set (i := 5) sc_law_total.nd rfl (Or.inl rfl) pe_int)
      (pss_cons (ps_for PassesOwn.never rfl (k_piT (K := K) (pv 4)) (pg_name (i := 6) sc_law_total.nd rfl (Or.inl rfl))
        (pss_cons (ps_set (i := 1) sc_law_total.nd rfl (Or.inl rfl) (pe_cal C_law_come (hr.mono (by decide)) (by rfl) (pa_cons (pv 0) (pa_cons (pv 1) (pa_cons (pv 6) pa_nil)))))
        (pss_one (ps_set (i := 5) sc_law_total.nd rfl (Or.inl rfl) (pe_op op_sub (pe_op op_add (pv 5) (pe_callB (k_sum (K := K) rfl) (by rfl) nm.m_sum (by decide +kernel) (pa_cons (pe_lc (own := [("_law_one", 7)]) rfl sc_law_total.nd (k_piT (K := K) (pv 1)) (blkOk_by (N := N_law_total) (sc := defScope s_law_total) (own := [("_law_one", 7)]) (by decide +kernel)) (fun _ _ _ _ _ => (pg_name (i := 7) sc_law_total.nd rfl (Or.inl rfl))) (fun _ _ _ _ _ => pts_nil) (fun _ _ _ _ _ => (pe_ix (k_ixT (K := K)) (pv 2) (pv 7) (fun _ _ => rfl)))) pa_nil))) (pe_ix (k_ixT (K := K)) (pv 3) (pv 6) (fun _ _ => rfl)))))))
      (pss_one (ps_ret (pv 5))))), ?_⟩
    have hn := ok.hi
    repeat walk_at "rd"
    refine ⟨_, rfl, ⟨_, SqT.of hrow⟩, ?_⟩
    refine g_for walk_tup (fun i σ H' => ∃ (h : Addr) (o6 : Option V), σ = [some (.ref a), some (.ref h), some (.ref gg), some (.ref cc), some (.ref r), some (.int (totalV ps gs cs g (row.take i))), o6, none] ∧ Kp H H' ∧ H' h = some (iv (stateV ps g (row.take i))))
      ⟨b, _, rfl, Kp.refl _, hb⟩ (fun i σ H' _ pv => by obtain ⟨_, _, _, k, _⟩ := pv; exact SqT.of (k.get hrow)) (fun i x σ H1 H2 hi pv y => ?_) (fun σ H1 pv => ?_)
    · obtain ⟨h, o6, rfl, k, hh⟩ := pv
      obtain ⟨rfl, hx⟩ := y
      obtain ⟨p, ep, rfl⟩ := ints_get hx
      have pin := rx p (List.mem_of_getElem? ep)
      have et : row.take (i + 1) = row.take i ++ [p] := by rw [List.take_succ, ep]; rfl
      have sin : stateV ps g (row.take i) ∈ gathV n ps := state_in ok _ hg fun x hx2 => rx x (List.mem_of_mem_take hx2)
      have cin := come_in ok sin pin.1 pin.2
      have clot := (gathV_mem.mp cin).1
      have cll := clot.len
      repeat walk_at "rd"
      refine ⟨a, h, n, ps, _, p, rfl, web.kp k, ok, hh, by have := (gathV_mem.mp sin).1.len; omega, fun d H3 k3 hd => ?_⟩
      repeat walk_at "rd"
      refine ⟨_, rfl, ⟨_, SqT.of hd⟩, ?_⟩
      rw [et, state_snoc, total_snoc]
      have hgs3 := (k.trans k3).get hgs
      have hcs3 := (k.trans k3).get hcs
      unfold stepV
      generalize comeV ps (stateV ps g (row.take i)) p = ci at *
      refine g_lcI walk_tup (by rw [List.length_map]; omega) (fun H' k => SqT.of (k.get hd)) (fun j => at' gs (ci.getD j 0)) (fun Rt j x H4 H5 hj k4 y hR => ?_) (fun D H4 nD k4 hD => ?_)
      · obtain ⟨rfl, hx2⟩ := y
        obtain ⟨x', e1, rfl⟩ := ints_get hx2
        have m := clot.1 x' (List.mem_of_getElem? e1)
        have hg5 := k4.get hgs3
        have a1 := at_get (xs := gs) m.1 (by omega)
        repeat walk_at "rd"
        refine ⟨rfl, ?_⟩
        repeat walk_at "rd"
        have := hR H5 (Kp.refl _)
        rw [List.getD_eq_getElem?_getD, e1] at this
        exact this
      · have hc4 := k4.get hcs3
        have a1 := at_get (xs := cs) pin.1 (by omega)
        repeat walk_at "rd"
        refine ⟨D, _, rfl, SqL.of hD, ?_⟩
        rw [List.length_map, ← preSum_list, ← gain_pre]
        repeat walk_at "rd"
        refine ⟨d, some (.int p), ?_, k.trans (k3.trans k4), k4.get hd⟩
        show [some (V.ref a), some (V.ref d), some (V.ref gg), some (V.ref cc), some (V.ref r), some (V.int (totalV ps gs cs g (row.take i) + gainV gs ci - at' cs p)), some (V.int p), none] = _
        rw [show totalV ps gs cs g (row.take i) + gainV gs ci - at' cs p = totalV ps gs cs g (row.take i) + (gainV gs ci - at' cs p) by omega]
    · obtain ⟨h, o6, rfl, k, hh⟩ := pv
      repeat walk_at "rd"
      rw [List.length_map, List.take_of_length_le (Nat.le_refl _)]
      exact q _ k
end
end Fo
set_option maxHeartbeats 2000000
/-! FoO: what the law draws. -/
namespace Fo
open PySem PySem.Spec PyProof.Rows L2 GxR
local macro_rules | `(tactic| walk_at "hp") => `(tactic| first
  | assumption
  | exact upd_same
  | (refine' upd_old ?n ?h; (case n => assumption); (case h => walk_at "hp"))
  | (refine' Kp.get ?k ?h rfl; (case k => assumption); (case h => walk_at "hp")))
local macro_rules | `(tactic| walk_at "kp") => `(tactic| first
  | exact Kp.refl _
  | assumption
  | exact Kp.new (by assumption)
  | (refine' Kp.trans ?a ?b; (case b => first | assumption | exact Kp.new (by assumption)); (case a => walk_at "kp")))
local macro_rules | `(tactic| walk_at "rd") => `(tactic| first
  | ((with_reducible show tVar _ _ _ _); refine ⟨_, rfl, ?_⟩)
  | ((with_reducible show tC _ _ _ _); refine rd_c ?_)
  | ((with_reducible show tSeq _ _ _ _ _); refine rd_seq ?_)
  | ((with_reducible show tAsg _ _ _ _ _); refine rd_asg ?_)
  | ((with_reducible show gName _ _ _ _ _); refine rd_name ?_)
  | ((with_reducible show tRet _ _ _ _); refine rd_ret ?_)
  | ((with_reducible show tOp _ _ _ _ _ _); refine rd_op ?_)
  | ((with_reducible show tCons _ _ _ _ _); refine rd_cons ?_)
  | ((with_reducible show tNil _ _ _); refine rd_nil ?_)
  | ((with_reducible show tCal _ _ _ _ _); refine rd_cal ?_)
  | ((with_reducible show tCB _ _ _ _ _); refine rd_cb ?_)
  | ((with_reducible show tTest _ _ _ _); refine rd_test ?_)
  | ((with_reducible show tB _ _ _ _); refine rd_B ?_)
  | ((with_reducible show tNot _ _ _ _); refine rd_not ?_)
  | ((with_reducible show tAnd _ _ _ _ _); refine rd_and ?_)
  | ((with_reducible show tOr _ _ _ _ _); refine rd_or ?_)
  | ((with_reducible show tAndV _ _ _ _ _); refine rd_andV ?_)
  | ((with_reducible show tNotV _ _ _ _); refine rd_notV ?_)
  | ((with_reducible show tChain _ _ _ _ _ _ _ _); refine rd_chain ?_)
  | ((with_reducible show tIfS _ _ _ _ _ _); refine rd_ifs ?_)
  | ((with_reducible show tDrop _ _ _ _); refine rd_drop ?_)
  | ((with_reducible show tFor _ _ _ _ _ _); refine rd_forG ?_)
  | ((with_reducible show iTup _ _ _ _ _); refine rd_itup ?_)
  | ((with_reducible show iList _ _ _ _ _); refine rd_ilist ?_)
  | ((with_reducible show rI0 _ _ _ _ _); refine ⟨_, _, rfl, rfl, ?_⟩)
  | ((with_reducible show rAdd _ _ _ _); refine ⟨_, _, rfl, rfl, ?_⟩)
  | ((with_reducible show rSub _ _ _ _); refine ⟨_, _, rfl, rfl, ?_⟩)
  | ((with_reducible show rIxT _ _ _ _ _); refine' rd_ix ?h ?a ?_; (case h => walk_at "hp"); (case a => first | rfl | assumption))
  | ((with_reducible show rIxL _ _ _ _ _); refine' rd_ixL ?h ?a ?_; (case h => walk_at "hp"); (case a => first | rfl | assumption))
  | ((with_reducible show tTup _ _ _ _); refine rd_tup ?_)
  | ((with_reducible show tLst _ _ _ _); refine rd_lst ?_)
  | ((with_reducible show tAllG _ _ _ _ _ _ _ _); refine rd_allG ?_)
  | ((with_reducible show tAnyG _ _ _ _ _ _ _ _); refine rd_anyG ?_)
  | ((with_reducible show tSumG _ _ _ _ _ _ _ _); refine rd_sumG ?_)
  | ((with_reducible show tLc _ _ _ _ _ _ _ _); refine rd_lc ?_)
  | ((with_reducible show tNext _ _ _); refine rd_next ?_)
  | ((with_reducible show tBreak _ _ _); refine rd_break ?_)
  | ((with_reducible show tDGet _ _ _ _ _); refine rd_dget ?_)
  | ((with_reducible show tDNewT _ _ _); refine rd_dnew ?_)
  | ((with_reducible show StX.tStar _ _ _ _ _ _); refine rd_star ?_)
  | ((with_reducible show tSl _ _ _ _ _ _ _); refine rd_sl ?_)
  | ((with_reducible show sDPut _ _ _ _ _ _); refine rd_dput ?_)
  | ((with_reducible show tBM _ _ _ _ _ _ _ _); refine rd_bm ?_)
  | ((with_reducible show tPar _ _ _ _ _ _); refine rd_par ?_)
  | ((with_reducible show tPar3 _ _ _ _ _ _ _); refine rd_par3 ?_)
  | ((with_reducible show iRng1 _ _ _ _); refine rd_rng1 ?_)
  | ((with_reducible show tUn _ _ _ _ _); refine rd_un ?_)
  | ((with_reducible show rU _ _ _ _); refine ⟨_, rfl, ?_⟩)
  | ((with_reducible show tPart _ _ _ _); refine rd_part ?_)
  | ((with_reducible show tNoPart _ _ _); refine rd_nopart ?_)
  | ((with_reducible show iRng2 _ _ _ _); refine rd_rng2 ?_)
  | ((with_reducible show iRng3 _ _ _ _); refine rd_rng3 ?_)
  | ((with_reducible show gSub _ _ _ _ _ _ _); refine rd_gsub ?_)
  | ((with_reducible show tDcT _ _ _ _ _ _ _ _); refine rd_dcT ?_)
  | ((with_reducible show tYes _ _ _); refine rd_yes ?_)
  | ((with_reducible show rLenS _ _ _ _); refine' rd_len ?h ?_; (case h => first | (refine' Or.inr (SqT.of ?z); (case z => walk_at "hp")) | (refine' Or.inl (SqL.of ?z); (case z => walk_at "hp"))))
  | ((with_reducible show gTup _ _ _ _ _ _ _); refine' rd_gtup ?h ?l ?_; (case h => refine' SqT.of ?z; (case z => walk_at "hp")); (case l => rfl))
  | ((with_reducible show gCons _ _ _ _ _ _); refine ⟨_, _, rfl, ?_⟩)
  | ((with_reducible show gNil _ _ _ _); refine ⟨rfl, ?_⟩))

/-- what stays when the row of draws at l is written -/
structure Kx (l : Addr) (H H' : Hp) : Prop where
  keep : ∀ a o, a ≠ l → H a = some o → notTbl o = true → H' a = some o
  tab : ∀ P, TabG H P → TabG H' P
  dom : ∀ a, H' a = none → H a = none
theorem Kx.refl (l : Addr) (H : Hp) : Kx l H H := ⟨fun _ _ _ h _ => h, fun _ h => h, fun _ h => h⟩
theorem Kx.trans {l : Addr} {H H1 H2 : Hp} (a : Kx l H H1) (b : Kx l H1 H2) : Kx l H H2 := ⟨fun c o n h t => b.keep c o n (a.keep c o n h t) t, fun P h => b.tab P (a.tab P h), fun c h => a.dom c (b.dom c h)⟩
theorem Kp.x {l : Addr} {H H' : Hp} (k : Kp H H') : Kx l H H' := ⟨fun a o _ h n => k.keep a o h n, k.tab, k.dom⟩
/-- the row of draws at l -/
structure RowS (K : PySem.W.Frag) (sc : Addr) (cells : List Int) (H : Hp) (l : Addr) : Prop where
  ex : ∃ (pos seed rest : Int), H l = some (.lst [.ref sc, .int pos, .int seed, .int rest]) ∧ SqL K H sc (cells.map V.int) ∧ 0 ≤ pos ∧ 0 ≤ seed ∧ seed < 2147483647 ∧ 0 ≤ rest
theorem RowS.kp {K : PySem.W.Frag} {sc : Addr} {cells : List Int} {H H' : Hp} {l : Addr} (r : RowS K sc cells H l) (k : Kp H H') : RowS K sc cells H' l := by
  obtain ⟨pos, seed, rest, h, hs, r1⟩ := r
  exact ⟨pos, seed, rest, k.get h, k.sqL hs, r1⟩
theorem RowS.ne {K : PySem.W.Frag} {sc : Addr} {cells : List Int} {H : Hp} {l a : Addr} {o : HO} (r : RowS K sc cells H l) (h : H a = some o) (n : ∀ xs, o ≠ .lst xs) : a ≠ l := by
  obtain ⟨pos, seed, rest, hl, _⟩ := r
  intro e
  rw [e, hl] at h
  exact n _ (Option.some.inj h).symm
theorem RowS.free {K : PySem.W.Frag} {sc : Addr} {cells : List Int} {H : Hp} {l a : Addr} (r : RowS K sc cells H l) (h : H a = none) : a ≠ l := by
  obtain ⟨pos, seed, rest, hl, _⟩ := r
  intro e
  rw [e, hl] at h
  cases h
theorem sq_put {K : PySem.W.Frag} {H : Hp} {l sc : Addr} {cells : List Int} {xs : List V} {o : HO} (hl : H l = some (.lst (.ref sc :: xs))) (hs : SqL K H sc (cells.map V.int)) : SqL K (upd H l o) sc (cells.map V.int) := by
  have ne : ∀ z : List V, z = cells.map V.int → V.ref sc :: xs ≠ z := fun z e1 e2 => by
    rw [e1] at e2
    cases cells with
    | nil => cases e2
    | cons c cs => injection e2 with e3; cases e3
  rcases hs with (h | ⟨ob, h⟩) | h
  · refine .inl (.inl ?_)
    rw [upd_ne (fun e => by rw [e, hl] at h; exact ne _ rfl (by injection h with h; injection h))]
    exact h
  · refine .inl (.inr ⟨ob, ?_⟩)
    rw [upd_ne (fun e => by rw [e, hl] at h; injection h with h; cases h)]
    exact h
  · exact .inr h
theorem row_put {K : PySem.W.Frag} {H : Hp} {l sc : Addr} {cells : List Int} {xs : List V} {pos seed rest : Int} (hl : H l = some (.lst (.ref sc :: xs))) (hs : SqL K H sc (cells.map V.int)) (h1 : 0 ≤ pos) (h2 : 0 ≤ seed) (h3 : seed < 2147483647) (h4 : 0 ≤ rest) :
    RowS K sc cells (upd H l (.lst [.ref sc, .int pos, .int seed, .int rest])) l := ⟨pos, seed, rest, upd_same, sq_put hl hs, h1, h2, h3, h4⟩
theorem kx_put {H : Hp} {l : Addr} {xs : List V} {o : HO} (hl : H l = some (.lst xs)) : Kx l H (upd H l o) :=
  ⟨fun a u n h _ => by rw [upd_ne n]; exact h, fun P ⟨ps, e, t⟩ => ⟨ps, by rw [upd_ne (fun z => by rw [z, hl] at e; cases e)]; exact e, t⟩, fun a h => (upd_none h).2⟩
section
variable {P : Program} {w : World} {K : PySem.W.Frag} {mg : Str → Option Value} {base : Heap}
abbrev s_law_taken : Stmt := topS 37
abbrev N_law_taken : List Str := ["_law_row_here", "_law_many", "_law_found", "_law_cell"]
abbrev P_law_taken : List Str := ["_law_row_here", "_law_many"]
theorem sc_law_taken : FnScope N_law_taken P_law_taken (defScope s_law_taken) := ⟨rfl, rfl, rfl, by decide +kernel, rfl, by decide +kernel, by decide +kernel⟩
def sp_taken (K : PySem.W.Frag) : Sp := fun vs H Q _ => ∃ (l : Addr) (many : Int) (sc : Addr) (cells : List Int), vs = [.ref l, .int many] ∧ RowS K sc cells H l ∧ 1 ≤ many ∧ many < 1000 ∧ ∀ v H', 0 ≤ v → v < many → Kx l H H' → RowS K sc cells H' l → Q (.int v) H'
theorem rd_set {l : Addr} {xs : List V} {k : Int} {j : Nat} {v : V} {H : Hp} {Q : Hp → Prop} (h : H l = some (.lst xs)) (hj : ixN xs.length k = some j) (q : Q (upd H l (.lst (xs.set j v)))) : rSetL (.ref l) (.int k) v H Q := ⟨l, xs, k, j, rfl, rfl, h, hj, q⟩
theorem rd_put {K : PySem.W.Frag} {l sc : Addr} {cells : List Int} {a b c v : V} {k : Int} {j : Nat} {H : Hp} {Q : Hp → Prop} (hl : H l = some (.lst [.ref sc, a, b, c])) (hs : SqL K H sc (cells.map V.int)) (hj : ixN 4 k = some j)
    (q : ∀ H', Kx l H H' → H' l = some (.lst ([V.ref sc, a, b, c].set j v)) → SqL K H' sc (cells.map V.int) → Q H') : rSetL (.ref l) (.int k) v H Q := rd_set hl hj (q _ (kx_put hl) upd_same (sq_put hl hs))
theorem rd_ixS {K : PySem.W.Frag} {p : Addr} {xs : List V} {k : Int} {v : V} {H : Hp} {Q : VK} (h : SqL K H p xs) (ha : atI xs k = some v) (q : Q v H) : rIxL K (.ref p) (.int k) H Q := ⟨p, xs, k, v, rfl, rfl, h, ha, q⟩
theorem ok_law_taken {f : Addr} {fd : FuncData} (F : Fun K "_law_taken" "_law_taken" s_law_taken f fd) (nm : Nm mg) : FnOk P w K mg base CX0 1 f fd P_law_taken (sp_taken K) := by
  refine F.ok sc_law_taken (fun vs H Q E h => ?_) (fun cdv A outer s H vs Q E hr h => ?_)
  · obtain ⟨l, many, sc, cells, rfl, _⟩ := h
    rfl
  · obtain ⟨l, many, sc, cells, rfl, ⟨pos, seed, rest, hl, hs, p0, s0, s1, r0⟩, m1, m2, q⟩ := h
    refine ⟨_, (pss_cons (ps_if (pt_cmpR op_gt (pe_ix (k_ixL (K := K)) (pv 0) pe_int (fun _ _ => rfl)) pe_int (nomark _))
        (pss_cons (ps_set (i := 2) sc_law_taken.nd rfl (Or.inl rfl) (pe_op op_mod (pe_callTy call_int1 (by rfl) nm.m_int (by decide +kernel) (pa_cons (pe_ix (k_ixL (K := K)) (pv 0) pe_int (fun _ _ => rfl)) pa_nil)) (pv 1)))
        (pss_cons (ps_asg (pe_op op_fdiv (pe_ix (k_ixL (K := K)) (pv 0) pe_int (fun _ _ => rfl)) (pv 1)) (pg_sub (pv 0) pe_int set_list))
        (pss_one (ps_ret (pv 2)))))
        pss_nil)
      (pss_cons (ps_asg (pe_op op_add (pe_ix (k_ixL (K := K)) (pv 0) pe_int (fun _ _ => rfl)) pe_int) (pg_sub (pv 0) pe_int set_list))
      (pss_cons (ps_if (pt_cmpR op_gt (pe_ix (k_ixL (K := K)) (pv 0) pe_int (fun _ _ => rfl)) (pe_callB (k_len (K := K)) (by rfl) nm.m_len (by decide +kernel) (pa_cons (pe_ix (k_ixL (K := K)) (pv 0) pe_int (fun _ _ => rfl)) pa_nil)) (nomark _))
        (pss_cons (ps_asg (pe_op op_mod (pe_callTy call_int1 (by rfl) nm.m_int (by decide +kernel) (pa_cons (pe_op op_add (pe_op op_mul (pe_ix (k_ixL (K := K)) (pv 0) pe_int (fun _ _ => rfl)) pe_int) pe_int) pa_nil)) pe_int) (pg_sub (pv 0) pe_int set_list))
        (pss_one (ps_ret (pe_op op_mod (pe_callTy call_int1 (by rfl) nm.m_int (by decide +kernel) (pa_cons (pe_op op_fdiv (pe_ix (k_ixL (K := K)) (pv 0) pe_int (fun _ _ => rfl)) pe_int) pa_nil)) (pv 1)))))
        pss_nil)
      (pss_cons (ps_set (i := 3) sc_law_taken.nd rfl (Or.inl rfl) (pe_ix (k_ixL (K := K)) (pe_ix (k_ixL (K := K)) (pv 0) pe_int (fun _ _ => rfl)) (pe_op op_sub (pe_ix (k_ixL (K := K)) (pv 0) pe_int (fun _ _ => rfl)) pe_int) (fun _ _ => rfl)))
      (pss_cons (ps_asg (pe_op op_mod (pe_callTy call_int1 (by rfl) nm.m_int (by decide +kernel) (pa_cons (pe_op op_add (pe_op op_add (pe_op op_mul (pe_ix (k_ixL (K := K)) (pv 0) pe_int (fun _ _ => rfl)) pe_int) (pv 3)) pe_int) pa_nil)) pe_int) (pg_sub (pv 0) pe_int set_list))
      (pss_cons (ps_if (pt_cmpR op_ge (pv 3) (pe_op op_pow pe_int pe_int) (nomark _))
        (pss_one (ps_asg (pe_op op_fdiv (pv 3) (pv 1)) (pg_sub (pv 0) pe_int set_list)))
        pss_nil)
      (pss_one (ps_ret (pe_op op_mod (pe_callTy call_int1 (by rfl) nm.m_int (by decide +kernel) (pa_cons (pv 3) pa_nil)) (pv 1)))))))))), ?_⟩
    repeat walk_at "rd"
    refine ⟨_, rfl, ?_⟩
    by_cases hrest : 0 < rest
    · refine yes (dt hrest) ?_
      repeat walk_at "rd"
      refine .inl ⟨_, rfl, ?_⟩
      repeat walk_at "rd"
      refine ⟨_, _, rfl, rfl, by omega, ?_⟩
      repeat walk_at "rd"
      refine ⟨_, _, rfl, rfl, ⟨by omega, by omega⟩, ?_⟩
      repeat walk_at "rd"
      refine rd_put hl hs (j := 3) rfl fun H1 k1 h1 s1' => ?_
      repeat walk_at "rd"
      exact q _ H1 (Int.emod_nonneg _ (by omega)) (Int.emod_lt_of_pos _ (by omega)) k1 ⟨pos, seed, rest / many, h1, s1', p0, s0, s1, Int.ediv_nonneg (by omega) (by omega)⟩
    · refine no (df hrest) ?_
      repeat walk_at "rd"
      refine rd_put hl hs (j := 1) rfl fun H1 k1 h1 s1' => ?_
      have h1 : H1 l = some (.lst [.ref sc, .int (pos + 1), .int seed, .int rest]) := h1
      repeat walk_at "rd"
      refine ⟨sc, _, rfl, .inl s1', ?_⟩
      rw [List.length_map]
      refine ⟨_, _, rfl, rfl, ⟨_, rfl, ?_⟩⟩
      by_cases hp : (cells.length : Int) < pos + 1
      · refine yes (dt hp) ?_
        repeat walk_at "rd"
        refine ⟨_, _, rfl, rfl, .inl ⟨by omega, by omega⟩, ?_⟩
        repeat walk_at "rd"
        refine .inl ⟨_, rfl, ?_⟩
        repeat walk_at "rd"
        refine ⟨_, _, rfl, rfl, by omega, ?_⟩
        repeat walk_at "rd"
        refine rd_put h1 s1' (j := 2) rfl fun H2 k2 h2 s2' => ?_
        have h2 : H2 l = some (.lst [.ref sc, .int (pos + 1), .int ((seed * 48271 + 11) % 2147483647), .int rest]) := h2
        repeat walk_at "rd"
        refine ⟨_, _, rfl, rfl, ⟨by omega, by omega⟩, ?_⟩
        repeat walk_at "rd"
        refine .inl ⟨_, rfl, ?_⟩
        repeat walk_at "rd"
        refine ⟨_, _, rfl, rfl, by omega, ?_⟩
        exact q _ H2 (Int.emod_nonneg _ (by omega)) (Int.emod_lt_of_pos _ (by omega)) (k1.trans k2) ⟨pos + 1, _, rest, h2, s2', by omega, Int.emod_nonneg _ (by omega), Int.emod_lt_of_pos _ (by omega), r0⟩
      · refine no (df hp) ?_
        have hpl : pos.toNat < cells.length := by omega
        have a1 : atI (cells.map V.int) (pos + 1 - 1) = some (.int (at' cells pos)) := by
          rw [show pos + 1 - 1 = pos by omega]
          exact at_get p0 (by omega)
        generalize at' cells pos = cell at a1
        repeat walk_at "rd"
        refine rd_ixS s1' a1 ?_
        repeat walk_at "rd"
        refine ⟨_, _, rfl, rfl, .inl ⟨by omega, by omega⟩, ?_⟩
        repeat walk_at "rd"
        refine .inl ⟨_, rfl, ?_⟩
        repeat walk_at "rd"
        refine ⟨_, _, rfl, rfl, by omega, ?_⟩
        repeat walk_at "rd"
        refine rd_put h1 s1' (j := 2) rfl fun H2 k2 h2 s2' => ?_
        have h2 : H2 l = some (.lst [.ref sc, .int (pos + 1), .int ((seed * 48271 + cell + 11) % 2147483647), .int rest]) := h2
        repeat walk_at "rd"
        refine ⟨_, _, rfl, rfl, ⟨by decide, by decide, by decide⟩, ?_⟩
        refine ⟨_, _, rfl, rfl, ⟨_, rfl, ?_⟩⟩
        have sn : 0 ≤ (seed * 48271 + cell + 11) % 2147483647 := Int.emod_nonneg _ (by omega)
        have sl : (seed * 48271 + cell + 11) % 2147483647 < 2147483647 := Int.emod_lt_of_pos _ (by omega)
        by_cases hc : (10 : Int) ^ (18 : Int).toNat ≤ cell
        · refine yes (dt hc) ?_
          have hc0 : 0 ≤ cell := Int.le_trans (by decide) hc
          repeat walk_at "rd"
          refine ⟨_, _, rfl, rfl, ⟨by omega, by omega⟩, ?_⟩
          repeat walk_at "rd"
          refine rd_put h2 s2' (j := 3) rfl fun H3 k3 h3 s3' => ?_
          repeat walk_at "rd"
          refine .inl ⟨_, rfl, ?_⟩
          repeat walk_at "rd"
          refine ⟨_, _, rfl, rfl, by omega, ?_⟩
          exact q _ H3 (Int.emod_nonneg _ (by omega)) (Int.emod_lt_of_pos _ (by omega)) (k1.trans (k2.trans k3)) ⟨pos + 1, _, cell / many, h3, s3', by omega, sn, sl, Int.ediv_nonneg hc0 (by omega)⟩
        · refine no (df hc) ?_
          repeat walk_at "rd"
          refine .inl ⟨_, rfl, ?_⟩
          repeat walk_at "rd"
          refine ⟨_, _, rfl, rfl, by omega, ?_⟩
          exact q _ H2 (Int.emod_nonneg _ (by omega)) (Int.emod_lt_of_pos _ (by omega)) (k1.trans k2) ⟨pos + 1, _, rest, h2, s2', by omega, sn, sl, r0⟩
/-! ### _law_pick -/
abbrev s_law_pick : Stmt := topS 38
abbrev N_law_pick : List Str := ["_law_row_here", "_law_things"]
abbrev P_law_pick : List Str := ["_law_row_here", "_law_things"]
theorem sc_law_pick : FnScope N_law_pick P_law_pick (defScope s_law_pick) := ⟨rfl, rfl, rfl, by decide +kernel, rfl, by decide +kernel, by decide +kernel⟩
def sp_pick (K : PySem.W.Frag) : Sp := fun vs H Q _ => ∃ (l d : Addr) (L : LP) (sc : Addr) (cells : List Int), vs = [.ref l, .ref d] ∧ RowS K sc cells H l ∧ l ≠ d ∧ H d = some (.lst (refs L)) ∧ 1 ≤ L.length ∧ L.length < 1000 ∧ ∀ q H', q ∈ L → Kx l H H' → RowS K sc cells H' l → Q (.ref q.1) H'
theorem ok_law_pick {f : Addr} {fd : FuncData} (F : Fun K "_law_pick" "_law_pick" s_law_pick f fd) (nm : Nm mg) (C_law_taken : Cal P w K mg base "_law_taken" 1 P_law_taken (sp_taken K)) : FnOk P w K mg base CX0 2 f fd P_law_pick (sp_pick K) := by
  refine F.ok sc_law_pick (fun vs H Q E h => ?_) (fun cdv A outer s H vs Q E hr h => ?_)
  · obtain ⟨l, d, L, sc, cells, rfl, _⟩ := h
    rfl
  · obtain ⟨l, d, L, sc, cells, rfl, rs, ne, hd, l1, l2, q⟩ := h
    refine ⟨_, (pss_one (ps_ret (pe_ix (k_ixL (K := K)) (pv 1) (pe_cal C_law_taken (hr.mono (by decide)) (by rfl) (pa_cons (pv 0) (pa_cons (pe_callB (k_len (K := K)) (by rfl) nm.m_len (by decide +kernel) (pa_cons (pv 1) pa_nil)) pa_nil))) (fun _ _ => rfl)))), ?_⟩
    repeat walk_at "rd"
    refine ⟨l, _, sc, cells, rfl, rs, by rw [refs_len]; omega, by rw [refs_len]; omega, fun v H1 v0 v1 k1 rs1 => ?_⟩
    rw [refs_len] at v1
    have hd1 : H1 d = _ := k1.keep d _ (Ne.symm ne) hd rfl
    have hv : v.toNat < L.length := by omega
    have a0 : atI (refs L) ((v.toNat : Nat) : Int) = some (.ref (L[v.toNat]).1) := by
      refine atI_nat ?_
      unfold refs
      rw [List.getElem?_map, List.getElem?_eq_getElem hv]
      rfl
    have a1 : atI (refs L) v = some (.ref (L[v.toNat]).1) := by
      have e : ((v.toNat : Nat) : Int) = v := by omega
      rw [e] at a0
      exact a0
    refine rd_ixL hd1 a1 ?_
    exact q (L[v.toNat]) H1 (List.getElem_mem hv) k1 rs1
end
end Fo
set_option maxHeartbeats 2000000
/-! FoQ: the web that the law draws. -/
namespace Fo
open PySem PySem.Spec PyProof.Rows L2 GxR
local macro_rules | `(tactic| walk_at "hp") => `(tactic| first
  | assumption
  | exact upd_same
  | (refine' upd_old ?n ?h; (case n => assumption); (case h => walk_at "hp"))
  | (refine' Kp.get ?k ?h rfl; (case k => assumption); (case h => walk_at "hp")))
local macro_rules | `(tactic| walk_at "kp") => `(tactic| first
  | exact Kp.refl _
  | assumption
  | exact Kp.new (by assumption)
  | (refine' Kp.trans ?a ?b; (case b => first | assumption | exact Kp.new (by assumption)); (case a => walk_at "kp")))
local macro_rules | `(tactic| walk_at "rd") => `(tactic| first
  | ((with_reducible show tVar _ _ _ _); refine ⟨_, rfl, ?_⟩)
  | ((with_reducible show tC _ _ _ _); refine rd_c ?_)
  | ((with_reducible show tSeq _ _ _ _ _); refine rd_seq ?_)
  | ((with_reducible show tAsg _ _ _ _ _); refine rd_asg ?_)
  | ((with_reducible show gName _ _ _ _ _); refine rd_name ?_)
  | ((with_reducible show tRet _ _ _ _); refine rd_ret ?_)
  | ((with_reducible show tOp _ _ _ _ _ _); refine rd_op ?_)
  | ((with_reducible show tCons _ _ _ _ _); refine rd_cons ?_)
  | ((with_reducible show tNil _ _ _); refine rd_nil ?_)
  | ((with_reducible show tCal _ _ _ _ _); refine rd_cal ?_)
  | ((with_reducible show tCB _ _ _ _ _); refine rd_cb ?_)
  | ((with_reducible show tTest _ _ _ _); refine rd_test ?_)
  | ((with_reducible show tB _ _ _ _); refine rd_B ?_)
  | ((with_reducible show tNot _ _ _ _); refine rd_not ?_)
  | ((with_reducible show tAnd _ _ _ _ _); refine rd_and ?_)
  | ((with_reducible show tOr _ _ _ _ _); refine rd_or ?_)
  | ((with_reducible show tAndV _ _ _ _ _); refine rd_andV ?_)
  | ((with_reducible show tNotV _ _ _ _); refine rd_notV ?_)
  | ((with_reducible show tChain _ _ _ _ _ _ _ _); refine rd_chain ?_)
  | ((with_reducible show tIfS _ _ _ _ _ _); refine rd_ifs ?_)
  | ((with_reducible show tDrop _ _ _ _); refine rd_drop ?_)
  | ((with_reducible show tFor _ _ _ _ _ _); refine rd_forG ?_)
  | ((with_reducible show iTup _ _ _ _ _); refine rd_itup ?_)
  | ((with_reducible show iList _ _ _ _ _); refine rd_ilist ?_)
  | ((with_reducible show rI0 _ _ _ _ _); refine ⟨_, _, rfl, rfl, ?_⟩)
  | ((with_reducible show rAdd _ _ _ _); refine ⟨_, _, rfl, rfl, ?_⟩)
  | ((with_reducible show rSub _ _ _ _); refine ⟨_, _, rfl, rfl, ?_⟩)
  | ((with_reducible show rIxT _ _ _ _ _); refine' rd_ix ?h ?a ?_; (case h => walk_at "hp"); (case a => first | rfl | assumption))
  | ((with_reducible show rIxL _ _ _ _ _); refine' rd_ixL ?h ?a ?_; (case h => walk_at "hp"); (case a => first | rfl | assumption))
  | ((with_reducible show tTup _ _ _ _); refine rd_tup ?_)
  | ((with_reducible show tLst _ _ _ _); refine rd_lst ?_)
  | ((with_reducible show tAllG _ _ _ _ _ _ _ _); refine rd_allG ?_)
  | ((with_reducible show tAnyG _ _ _ _ _ _ _ _); refine rd_anyG ?_)
  | ((with_reducible show tSumG _ _ _ _ _ _ _ _); refine rd_sumG ?_)
  | ((with_reducible show tLc _ _ _ _ _ _ _ _); refine rd_lc ?_)
  | ((with_reducible show tNext _ _ _); refine rd_next ?_)
  | ((with_reducible show tBreak _ _ _); refine rd_break ?_)
  | ((with_reducible show tDGet _ _ _ _ _); refine rd_dget ?_)
  | ((with_reducible show tDNewT _ _ _); refine rd_dnew ?_)
  | ((with_reducible show StX.tStar _ _ _ _ _ _); refine rd_star ?_)
  | ((with_reducible show tSl _ _ _ _ _ _ _); refine rd_sl ?_)
  | ((with_reducible show sDPut _ _ _ _ _ _); refine rd_dput ?_)
  | ((with_reducible show tBM _ _ _ _ _ _ _ _); refine rd_bm ?_)
  | ((with_reducible show tPar _ _ _ _ _ _); refine rd_par ?_)
  | ((with_reducible show tPar3 _ _ _ _ _ _ _); refine rd_par3 ?_)
  | ((with_reducible show iRng1 _ _ _ _); refine rd_rng1 ?_)
  | ((with_reducible show tUn _ _ _ _ _); refine rd_un ?_)
  | ((with_reducible show rU _ _ _ _); refine ⟨_, rfl, ?_⟩)
  | ((with_reducible show tPart _ _ _ _); refine rd_part ?_)
  | ((with_reducible show tNoPart _ _ _); refine rd_nopart ?_)
  | ((with_reducible show iRng2 _ _ _ _); refine rd_rng2 ?_)
  | ((with_reducible show iRng3 _ _ _ _); refine rd_rng3 ?_)
  | ((with_reducible show gSub _ _ _ _ _ _ _); refine rd_gsub ?_)
  | ((with_reducible show tDcT _ _ _ _ _ _ _ _); refine rd_dcT ?_)
  | ((with_reducible show tYes _ _ _); refine rd_yes ?_)
  | ((with_reducible show rLenS _ _ _ _); refine' rd_len ?h ?_; (case h => first | (refine' Or.inr (SqT.of ?z); (case z => walk_at "hp")) | (refine' Or.inl (SqL.of ?z); (case z => walk_at "hp"))))
  | ((with_reducible show gTup _ _ _ _ _ _ _); refine' rd_gtup ?h ?l ?_; (case h => refine' SqT.of ?z; (case z => walk_at "hp")); (case l => rfl))
  | ((with_reducible show gCons _ _ _ _ _ _); refine ⟨_, _, rfl, ?_⟩)
  | ((with_reducible show gNil _ _ _ _); refine ⟨rfl, ?_⟩))

section
variable {P : Program} {w : World} {K : PySem.W.Frag} {mg : Str → Option Value} {base : Heap}
abbrev s_law_web : Stmt := topS 40
abbrev N_law_web : List Str := ["_law_row_here", "_law_most", "_law_size", "_law_pairs", "_law_way", "_law_one", "_law_other", "_law_near"]
abbrev P_law_web : List Str := ["_law_row_here", "_law_most"]
theorem sc_law_web : FnScope N_law_web P_law_web (defScope s_law_web) := ⟨rfl, rfl, rfl, by decide +kernel, rfl, by decide +kernel, by decide +kernel⟩
def sp_law_web (K : PySem.W.Frag) : Sp := fun vs H Q _ => ∃ (l : Addr) (sc : Addr) (cells : List Int), vs = [.ref l, .int 4] ∧ RowS K sc cells H l ∧ ∀ d H' n ps, Kx l H H' → RowS K sc cells H' l → Web H' d n ps → WebOk n ps → Q (.ref d) H'
/-- the pairs so far: at one, from other on -/
structure Prs (n : Nat) (i j : Int) (ps : List (Int × Int)) : Prop where
  ok : ∀ p ∈ ps, 0 ≤ p.1 ∧ p.1 < p.2 ∧ p.2 < n
  asc : ps.Pairwise fun p q => p.1 < q.1 ∨ (p.1 = q.1 ∧ p.2 < q.2)
  at_ : ∀ p ∈ ps, p.1 < i ∨ (p.1 = i ∧ p.2 < j)
theorem Prs.up {n : Nat} {i j i' j' : Int} {ps : List (Int × Int)} (h : Prs n i j ps) (hi : i < i' ∨ (i = i' ∧ j ≤ j')) : Prs n i' j' ps :=
  ⟨h.ok, h.asc, fun p hp => by have := h.at_ p hp; omega⟩
theorem Prs.snoc {n : Nat} {i j : Int} {ps : List (Int × Int)} (h : Prs n i j ps) (h0 : 0 ≤ i) (h1 : i < j) (h2 : j < n) : Prs n i (j + 1) (ps ++ [(i, j)]) := by
  refine ⟨fun p hp => ?_, List.pairwise_append.mpr ⟨h.asc, List.pairwise_singleton _ _, fun p hp q hq => ?_⟩, fun p hp => ?_⟩
  · rcases List.mem_append.mp hp with m | m
    · exact h.ok p m
    · rw [List.mem_singleton.mp m]; exact ⟨h0, h1, h2⟩
  · rw [List.mem_singleton.mp hq]
    exact h.at_ p hp
  · rcases List.mem_append.mp hp with m | m
    · have := h.at_ p m; omega
    · rw [List.mem_singleton.mp m]; right; exact ⟨rfl, by show j < j + 1; omega⟩
def WSt (K : PySem.W.Frag) (sc : Addr) (cells : List Int) (l D : Addr) (H : Hp) (n : Nat) (i j : Int) (m : Nat) (H' : Hp) : Prop := ∃ (L : LP) (ps : List (Int × Int)), Kx l H H' ∧ RowS K sc cells H' l ∧ H' D = some (.lst (refs L)) ∧ Its H' L ∧ L.map (·.2) = prs ps ∧ Prs n i j ps ∧ ps.length ≤ m
theorem its_x {sc : Addr} {cells : List Int} {l : Addr} {H H' : Hp} {L : LP} (h : Its H L) (k : Kx l H H') (rs : RowS K sc cells H l) : Its H' L := fun q hq => k.keep _ _ (rs.ne (h q hq) fun xs z => by cases z) (h q hq) rfl
theorem WSt.kx {sc : Addr} {cells : List Int} {l D : Addr} {H H1 H2 : Hp} {n m : Nat} {i j : Int} (h : WSt K sc cells l D H n i j m H1) (k : Kx l H1 H2) (rs : RowS K sc cells H2 l) (ne : D ≠ l) : WSt K sc cells l D H n i j m H2 := by
  obtain ⟨L, ps, k0, rs0, hD, hL, hm, hp, hl⟩ := h
  exact ⟨L, ps, k0.trans k, rs, k.keep _ _ ne hD rfl, its_x hL k rs0, hm, hp, hl⟩
theorem WSt.up {sc : Addr} {cells : List Int} {l D : Addr} {H H1 : Hp} {n m m' : Nat} {i j i' j' : Int} (h : WSt K sc cells l D H n i j m H1) (hi : i < i' ∨ (i = i' ∧ j ≤ j')) (hm : m ≤ m') : WSt K sc cells l D H n i' j' m' H1 := by
  obtain ⟨L, ps, k0, rs0, hD, hL, hm0, hp, hl⟩ := h
  exact ⟨L, ps, k0, rs0, hD, hL, hm0, hp.up hi, by omega⟩
theorem tst {t : TT} {σ : L2.St} {H : Hp} {F : Bool → Hp → Prop} (S : Hp → Prop) (h1 : ∀ F' : Bool → Hp → Prop, (∀ b H', S H' → F' b H') → t σ H F') (h2 : ∀ b H', S H' → F b H') : t σ H F := h1 F h2
theorem tsv {t : TE} {σ : L2.St} {H : Hp} {Q : VK} (h1 : ∀ Q' : VK, (∀ b, Q' (.bl b) H) → t σ H Q') (h2 : ∀ b, Q (.bl b) H) : t σ H Q := h1 Q h2
theorem rd_orV {ta tb : TE} {σ : L2.St} {H : Hp} {Q : VK} (q : ta σ H fun x H1 => ∃ c, x = .bl c ∧ if c = true then Q (.bl true) H1 else tb σ H1 Q) : tOrV ta tb σ H Q := q
/-- the cells stay when a new list is written -/
theorem sq_new {H0 H : Hp} {D sc : Addr} {cells : List Int} {o : HO} (h0 : SqL K H0 sc (cells.map V.int)) (nD : H0 D = none) (hs : SqL K H sc (cells.map V.int)) : SqL K (upd H D o) sc (cells.map V.int) := by
  rcases h0 with h0 | h0
  · have ne : sc ≠ D := by
      intro e
      rcases h0 with h | ⟨ob, h⟩ <;> rw [e, nD] at h <;> cases h
    rcases hs with (h | ⟨ob, h⟩) | h
    · exact .inl (.inl (by rw [upd_ne ne]; exact h))
    · exact .inl (.inr ⟨ob, by rw [upd_ne ne]; exact h⟩)
    · exact .inr h
  · exact .inr h0
theorem ok_law_web {f : Addr} {fd : FuncData} (F : Fun K "_law_web" "_law_web" s_law_web f fd) (nm : Nm mg) (C_law_taken : Cal P w K mg base "_law_taken" 1 P_law_taken (sp_taken K)) : FnOk P w K mg base CX0 2 f fd P_law_web (sp_law_web K) := by
  refine F.ok sc_law_web (fun vs H Q E h => ?_) (fun cdv A outer s H vs Q E hr h => ?_)
  · obtain ⟨l, sc, cells, rfl, _⟩ := h
    rfl
  · obtain ⟨l, sc, cells, rfl, rs, q⟩ := h
    refine ⟨_, (pss_cons (ps_par (i := 2) (j := 3) rfl sc_law_web.nd rfl rfl (by decide) rfl rfl (pa_cons (pe_op op_add pe_int (pe_cal C_law_taken (hr.mono (by decide)) (by rfl) (pa_cons (pv 0) (pa_cons (pv 1) pa_nil)))) (pa_cons (pe_lst pa_nil) pa_nil)) (by rfl))
      (pss_cons (ps_set (i := 4) sc_law_web.nd rfl (Or.inl rfl) (pe_cal C_law_taken (hr.mono (by decide)) (by rfl) (pa_cons (pv 0) (pa_cons pe_int pa_nil))))
      (pss_cons (ps_for PassesOwn.never rfl (pi_range1 (by rfl) nm.m_range (pa_cons (pv 2) pa_nil)) (pg_name (i := 5) sc_law_web.nd rfl (Or.inl rfl))
        (pss_one (ps_for PassesOwn.never rfl (pi_range2 (by rfl) nm.m_range (pa_cons (pe_op op_add (pv 5) pe_int) (pa_cons (pv 2) pa_nil))) (pg_name (i := 6) sc_law_web.nd rfl (Or.inl rfl))
          (pss_cons (ps_set (i := 7) sc_law_web.nd rfl (Or.inl rfl) (pe_or (pe_cmpR op_eq (pv 6) (pe_op op_add (pv 5) pe_int) (nomark _)) (pe_one (pe_and (pe_cmpR op_eq (pv 5) pe_int (nomark _)) (pe_and (pe_cmpR op_eq (pv 6) (pe_op op_sub (pv 2) pe_int) (nomark _)) (pe_one (pe_cmpR op_eq (pv 4) pe_int (nomark _))))))))
          (pss_one (ps_if (PW.pt (pw_or (PW.pt (pw_and (pt_cmpR op_eq (pe_cal C_law_taken (hr.mono (by decide)) (by rfl) (pa_cons (pv 0) (pa_cons pe_int pa_nil))) pe_int (nomark _)) (pw_and1 (pt_cmpR op_gt (pv 4) pe_int (nomark _))))) (pw_or (PW.pt (pw_and (pt_val (pv 7)) (pw_and1 (pt_cmpR op_lt (pv 4) pe_int (nomark _))))) (pw_or1 (PW.pt (pw_and (pt_cmpR op_eq (pv 4) pe_int (nomark _)) (pw_and1 (pt_cmpR op_eq (pe_cal C_law_taken (hr.mono (by decide)) (by rfl) (pa_cons (pv 0) (pa_cons pe_int pa_nil))) pe_int (nomark _)))))))))
            (pss_one (ps_expr (pe_bm PySem.F.plainAttrs_list PySem.F.slot_list_append PySem.F.type_list_append mt_append (pv 3) (pa_cons (pe_tup (pa_cons (pv 5) (pa_cons (pv 6) pa_nil))) pa_nil))))
            pss_nil))))))
      (pss_one (ps_ret (pe_tup (pa_cons (pv 2) (pa_cons (pe_callTy (k_tupOf (K := K)) (by rfl) nm.m_tuple (by decide +kernel) (pa_cons (pv 3) pa_nil)) pa_nil)))))))), ?_⟩
    repeat walk_at "rd"
    refine ⟨l, 4, sc, cells, rfl, rs, by omega, by omega, fun v H1 v0 v4 k1 rs1 => ?_⟩
    repeat walk_at "rd"
    refine ⟨sz (show (0 : Nat) ≤ 1000 by decide), fun D nD => ?_⟩
    obtain ⟨n, en⟩ : ∃ n : Nat, 1 + v = (n : Int) := ⟨(1 + v).toNat, by omega⟩
    have n1 : 1 ≤ n := by omega
    have n4 : n ≤ 4 := by omega
    have hD1 : (upd H1 D (.lst [])) D = some (.lst []) := upd_same
    have k1D : Kx l H1 (upd H1 D (.lst [])) := (Kp.new nD).x
    have rsD := rs1.kp (Kp.new (o := .lst []) nD)
    have nDl : D ≠ l := rs1.free nD
    have nDH : H D = none := k1.dom _ nD
    generalize upd H1 D (.lst []) = H2 at *
    repeat walk_at "rd"
    refine ⟨_, _, rfl, ?_⟩
    repeat walk_at "rd"
    refine ⟨l, 4, sc, cells, rfl, rsD, by omega, by omega, fun way H3 w0 w4 k3 rs3 => ?_⟩
    have hD3 : H3 D = _ := k3.keep D _ nDl hD1 rfl
    repeat walk_at "rd"
    have en' : (fun i j : Int => V.int (i + j)) 1 v = V.int (n : Int) := congrArg V.int en
    rw [en']
    refine ⟨_, rfl, by omega, by omega, ?_⟩
    have k13 := (k1.trans (k1D.trans k3))
    refine g_for walk_range (fun i σ H' => (∃ (o5 o6 o7 : Option V), σ = [some (.ref l), some (.int 4), some (.int (n : Int)), some (.ref D), some (.int way), o5, o6, o7]) ∧ WSt K sc cells l D H n i 0 (4 * i) H')
      ⟨⟨_, _, _, rfl⟩, [], [], k13, rs3, hD3, Its.nil, rfl, ⟨fun p hp => absurd hp (by simp), .nil, fun p hp => absurd hp (by simp)⟩, Nat.le_refl _⟩ (fun _ _ _ _ _ => trivial) (fun i x σ H4 H5 hi pv y => ?_) (fun σ H4 pv => ?_)
    · obtain ⟨⟨o5, o6, o7, rfl⟩, ws⟩ := pv
      obtain ⟨rfl, rfl⟩ := y
      rw [Int.toNat_natCast] at hi
      repeat walk_at "rd"
      refine ⟨_, _, rfl, ⟨by omega, by omega, by omega, by omega⟩, ?_⟩
      have ni : ((n : Int) - (0 + (i : Int) + 1)).toNat = n - (i + 1) := by omega
      refine g_for walk_range (fun j σ H' => (∃ (o6 o7 : Option V), σ = [some (.ref l), some (.int 4), some (.int (n : Int)), some (.ref D), some (.int way), some (.int (0 + (i : Int))), o6, o7]) ∧ WSt K sc cells l D H n (i : Int) ((i : Int) + 1 + j) (4 * i + j) H')
        ⟨⟨_, _, rfl⟩, ws.up (by omega) (by omega)⟩ (fun _ _ _ _ _ => trivial) (fun j x σ H6 H7 hj pv y => ?_) (fun σ H6 pv => ?_)
      · obtain ⟨⟨o6, o7, rfl⟩, ws⟩ := pv
        obtain ⟨rfl, rfl⟩ := y
        rw [ni] at hj
        repeat walk_at "rd"
        refine tsv (fun Q' hQ => ?_) (fun near => ?_)
        · refine rd_orV ?_
          repeat walk_at "rd"
          refine rd_eqI rfl ⟨_, rfl, ?_⟩
          split
          · exact hQ _
          · repeat walk_at "rd"
            refine rd_eqI rfl ⟨_, rfl, ?_⟩
            split
            · repeat walk_at "rd"
              refine rd_eqI rfl ⟨_, rfl, ?_⟩
              split
              · repeat walk_at "rd"
                exact rd_eqI rfl (hQ _)
              · exact hQ _
            · exact hQ _
        · refine rd_name ?_
          with_reducible show tIfS _ _ _ _ _ _
          refine rd_ifs ?_
          refine tst (WSt K sc cells l D H n (i : Int) ((i : Int) + 1 + j) (4 * i + j)) (fun F' hF => ?_) (fun b H8 ws8 => ?_)
          · repeat walk_at "rd"
            have rs7 := ws.choose_spec.choose_spec.2.1
            refine ⟨l, 3, sc, cells, rfl, rs7, by omega, by omega, fun u H8 _ _ k8 rs8 => ?_⟩
            have ws8 := ws.kx k8 rs8 nDl
            repeat walk_at "rd"
            have two : tOr (tAnd (tB (tVar 7)) (tTest (tOp (rI0 fun i j => V.bl (decide (i < j))) (tVar 4) (tC (V.int 2))))) (tAnd (tTest (tOp rEq (tVar 4) (tC (V.int 3)))) (tTest (tOp rEq (tCal (sp_taken K) (tCons (tVar 0) (tCons (tC (V.int 2)) tNil))) (tC (V.int 0)))))
                [some (.ref l), some (.int 4), some (.int (n : Int)), some (.ref D), some (.int way), some (.int (0 + (i : Int))), some (.int (0 + (i : Int) + 1 + (j : Int))), some (.bl near)] H8 F' := by
              have three : tAnd (tTest (tOp rEq (tVar 4) (tC (V.int 3)))) (tTest (tOp rEq (tCal (sp_taken K) (tCons (tVar 0) (tCons (tC (V.int 2)) tNil))) (tC (V.int 0))))
                  [some (.ref l), some (.int 4), some (.int (n : Int)), some (.ref D), some (.int way), some (.int (0 + (i : Int))), some (.int (0 + (i : Int) + 1 + (j : Int))), some (.bl near)] H8 F' := by
                repeat walk_at "rd"
                refine rd_eqI rfl ⟨_, rfl, ?_⟩
                split
                · repeat walk_at "rd"
                  refine ⟨l, 2, sc, cells, rfl, rs8, by omega, by omega, fun u2 H9 _ _ k9 rs9 => ?_⟩
                  repeat walk_at "rd"
                  exact rd_eqI rfl ⟨_, rfl, hF _ _ (ws8.kx k9 rs9 nDl)⟩
                · exact hF _ _ ws8
              refine rd_or ?_
              refine rd_and ?_
              refine rd_B ?_
              refine ⟨_, rfl, ⟨_, rfl, ?_⟩⟩
              split
              · repeat walk_at "rd"
                refine ⟨_, rfl, ?_⟩
                split
                · exact hF _ _ ws8
                · exact three
              · exact three
            refine rd_eqI rfl ⟨_, rfl, ?_⟩
            split
            · repeat walk_at "rd"
              refine ⟨_, rfl, ?_⟩
              split
              · exact hF _ _ ws8
              · exact two
            · exact two
          · cases b with
            | false =>
              refine no rfl ?_
              repeat walk_at "rd"
              exact ⟨⟨_, _, rfl⟩, ws8.up (by omega) (by omega)⟩
            | true =>
              refine yes rfl ?_
              obtain ⟨L, ps, kx, rs9, hD, hL, hm, hp, hl⟩ := ws8
              repeat walk_at "rd"
              refine ⟨.inl ⟨rfl, _, SqL.of hD⟩, ?_⟩
              repeat walk_at "rd"
              refine ⟨sz (show (2 : Nat) ≤ 1000 by decide), fun z nz => ?_⟩
              have kz := Kp.new (o := .tup [V.int (0 + (i : Int)), V.int (0 + (i : Int) + 1 + (j : Int))]) nz
              have hz : (upd H8 z (.tup [V.int (0 + (i : Int)), V.int (0 + (i : Int) + 1 + (j : Int))])) z = some (iv [(i : Int), (i : Int) + 1 + j]) := by
                rw [upd_same, Int.zero_add]
                rfl
              have hDz := kz.get hD
              have rsz := rs9.kp kz
              have hLz := hL.kp kz
              have kxz := kx.trans kz.x
              repeat walk_at "rd"
              have ll : L.length ≤ 40 := by
                have h1 := congrArg List.length hm
                unfold prs at h1
                rw [List.length_map, List.length_map] at h1
                omega
              refine rd_app (xs := refs L) hDz (by rw [refs_len]; omega) ?_
              generalize upd H8 z (.tup [V.int (0 + (i : Int)), V.int (0 + (i : Int) + 1 + (j : Int))]) = H9 at *
              refine ⟨⟨_, _, rfl⟩, L ++ [(z, [(i : Int), (i : Int) + 1 + j])], ps ++ [((i : Int), (i : Int) + 1 + j)], ?_, ?_, ?_, ?_, ?_, ?_, ?_⟩
              · exact ⟨fun a o n1 h n2 => by rw [upd_ne (fun e => by rw [e, nDH] at h; cases h)]; exact kxz.keep a o n1 h n2,
                  fun P0 t => by
                    obtain ⟨ps0, e0, z0⟩ := kxz.tab P0 t
                    refine ⟨ps0, ?_, z0⟩
                    rw [upd_ne (fun e => by rw [e, hDz] at e0; cases e0)]
                    exact e0,
                  fun a h => kxz.dom a (upd_none h).2⟩
              · obtain ⟨pos, seed, rest, g1, g2, g3⟩ := rsz
                obtain ⟨_, _, _, _, g0, _⟩ := rs
                refine ⟨pos, seed, rest, ?_, sq_new g0 nDH g2, g3⟩
                rw [upd_ne (Ne.symm nDl)]
                exact g1
              · rw [upd_same, refs_app]
                rfl
              · intro q0 hq0
                have h3 := (hLz.snoc hz) q0 hq0
                rw [upd_ne (fun e => by rw [e, hDz] at h3; cases h3)]
                exact h3
              · unfold prs at hm ⊢
                rw [List.map_append, List.map_append, hm]
                rfl
              · have := hp.snoc (by omega) (by omega) (by omega)
                rw [show (i : Int) + 1 + ((j + 1 : Nat) : Int) = (i : Int) + 1 + j + 1 by omega]
                exact this
              · rw [List.length_append]
                simp
                omega
      · obtain ⟨⟨o6, o7, rfl⟩, ws⟩ := pv
        repeat walk_at "rd"
        refine ⟨⟨_, _, _, rfl⟩, ws.up (by omega) (by omega)⟩
    · obtain ⟨⟨o5, o6, o7, rfl⟩, ws⟩ := pv
      rw [Int.toNat_natCast] at ws
      obtain ⟨L, ps, kx, rs9, hD, hL, hm, hp, hl⟩ := ws
      repeat walk_at "rd"
      refine rd_tupOfL hD fun z nz => ?_
      repeat walk_at "rd"
      refine ⟨sz (show (2 : Nat) ≤ 1000 by decide), fun d nd => ?_⟩
      have ka := (Kp.new (o := .tup (refs L)) nz).trans (Kp.new (o := .tup [V.int (n : Int), V.ref z]) nd)
      refine q d _ n ps (kx.trans ka.x) (rs9.kp ka) ⟨z, L, upd_same, upd_old nd upd_same, hm, hL.kp ka⟩ ⟨n1, n4, hp.ok, hp.asc, by omega⟩
end
end Fo
set_option maxHeartbeats 2000000
/-! FoR: _law_alike, by depth. -/
namespace Fo
open PySem PySem.Spec PyProof.Rows L2 GxR
local macro_rules | `(tactic| walk_at "hp") => `(tactic| first
  | assumption
  | exact upd_same
  | (refine' upd_old ?n ?h; (case n => assumption); (case h => walk_at "hp"))
  | (refine' Kp.get ?k ?h rfl; (case k => assumption); (case h => walk_at "hp")))
local macro_rules | `(tactic| walk_at "kp") => `(tactic| first
  | exact Kp.refl _
  | assumption
  | exact Kp.new (by assumption)
  | (refine' Kp.trans ?a ?b; (case b => first | assumption | exact Kp.new (by assumption)); (case a => walk_at "kp")))
local macro_rules | `(tactic| walk_at "rd") => `(tactic| first
  | ((with_reducible show tVar _ _ _ _); refine ⟨_, rfl, ?_⟩)
  | ((with_reducible show tC _ _ _ _); refine rd_c ?_)
  | ((with_reducible show tSeq _ _ _ _ _); refine rd_seq ?_)
  | ((with_reducible show tAsg _ _ _ _ _); refine rd_asg ?_)
  | ((with_reducible show gName _ _ _ _ _); refine rd_name ?_)
  | ((with_reducible show tRet _ _ _ _); refine rd_ret ?_)
  | ((with_reducible show tOp _ _ _ _ _ _); refine rd_op ?_)
  | ((with_reducible show tCons _ _ _ _ _); refine rd_cons ?_)
  | ((with_reducible show tNil _ _ _); refine rd_nil ?_)
  | ((with_reducible show tCal _ _ _ _ _); refine rd_cal ?_)
  | ((with_reducible show tCB _ _ _ _ _); refine rd_cb ?_)
  | ((with_reducible show tTest _ _ _ _); refine rd_test ?_)
  | ((with_reducible show tB _ _ _ _); refine rd_B ?_)
  | ((with_reducible show tNot _ _ _ _); refine rd_not ?_)
  | ((with_reducible show tAnd _ _ _ _ _); refine rd_and ?_)
  | ((with_reducible show tOr _ _ _ _ _); refine rd_or ?_)
  | ((with_reducible show tAndV _ _ _ _ _); refine rd_andV ?_)
  | ((with_reducible show tNotV _ _ _ _); refine rd_notV ?_)
  | ((with_reducible show tChain _ _ _ _ _ _ _ _); refine rd_chain ?_)
  | ((with_reducible show tIfS _ _ _ _ _ _); refine rd_ifs ?_)
  | ((with_reducible show tDrop _ _ _ _); refine rd_drop ?_)
  | ((with_reducible show tFor _ _ _ _ _ _); refine rd_forG ?_)
  | ((with_reducible show iTup _ _ _ _ _); refine rd_itup ?_)
  | ((with_reducible show iList _ _ _ _ _); refine rd_ilist ?_)
  | ((with_reducible show rI0 _ _ _ _ _); refine ⟨_, _, rfl, rfl, ?_⟩)
  | ((with_reducible show rAdd _ _ _ _); refine ⟨_, _, rfl, rfl, ?_⟩)
  | ((with_reducible show rSub _ _ _ _); refine ⟨_, _, rfl, rfl, ?_⟩)
  | ((with_reducible show rIxT _ _ _ _ _); refine' rd_ix ?h ?a ?_; (case h => walk_at "hp"); (case a => first | rfl | assumption))
  | ((with_reducible show rIxL _ _ _ _ _); refine' rd_ixL ?h ?a ?_; (case h => walk_at "hp"); (case a => first | rfl | assumption))
  | ((with_reducible show tTup _ _ _ _); refine rd_tup ?_)
  | ((with_reducible show tLst _ _ _ _); refine rd_lst ?_)
  | ((with_reducible show tAllG _ _ _ _ _ _ _ _); refine rd_allG ?_)
  | ((with_reducible show tAnyG _ _ _ _ _ _ _ _); refine rd_anyG ?_)
  | ((with_reducible show tSumG _ _ _ _ _ _ _ _); refine rd_sumG ?_)
  | ((with_reducible show tLc _ _ _ _ _ _ _ _); refine rd_lc ?_)
  | ((with_reducible show tNext _ _ _); refine rd_next ?_)
  | ((with_reducible show tBreak _ _ _); refine rd_break ?_)
  | ((with_reducible show tDGet _ _ _ _ _); refine rd_dget ?_)
  | ((with_reducible show tDNewT _ _ _); refine rd_dnew ?_)
  | ((with_reducible show StX.tStar _ _ _ _ _ _); refine rd_star ?_)
  | ((with_reducible show tSl _ _ _ _ _ _ _); refine rd_sl ?_)
  | ((with_reducible show sDPut _ _ _ _ _ _); refine rd_dput ?_)
  | ((with_reducible show tBM _ _ _ _ _ _ _ _); refine rd_bm ?_)
  | ((with_reducible show tPar _ _ _ _ _ _); refine rd_par ?_)
  | ((with_reducible show tPar3 _ _ _ _ _ _ _); refine rd_par3 ?_)
  | ((with_reducible show iRng1 _ _ _ _); refine rd_rng1 ?_)
  | ((with_reducible show tUn _ _ _ _ _); refine rd_un ?_)
  | ((with_reducible show rU _ _ _ _); refine ⟨_, rfl, ?_⟩)
  | ((with_reducible show tPart _ _ _ _); refine rd_part ?_)
  | ((with_reducible show tNoPart _ _ _); refine rd_nopart ?_)
  | ((with_reducible show iRng2 _ _ _ _); refine rd_rng2 ?_)
  | ((with_reducible show iRng3 _ _ _ _); refine rd_rng3 ?_)
  | ((with_reducible show gSub _ _ _ _ _ _ _); refine rd_gsub ?_)
  | ((with_reducible show tDcT _ _ _ _ _ _ _ _); refine rd_dcT ?_)
  | ((with_reducible show tYes _ _ _); refine rd_yes ?_)
  | ((with_reducible show rLenS _ _ _ _); refine' rd_len ?h ?_; (case h => first | (refine' Or.inr (SqT.of ?z); (case z => walk_at "hp")) | (refine' Or.inl (SqL.of ?z); (case z => walk_at "hp"))))
  | ((with_reducible show gTup _ _ _ _ _ _ _); refine' rd_gtup ?h ?l ?_; (case h => refine' SqT.of ?z; (case z => walk_at "hp")); (case l => rfl))
  | ((with_reducible show gCons _ _ _ _ _ _); refine ⟨_, _, rfl, ?_⟩)
  | ((with_reducible show gNil _ _ _ _); refine ⟨rfl, ?_⟩))

section
variable {P : Program} {w : World} {K : PySem.W.Frag} {mg : Str → Option Value} {base : Heap}
abbrev s_law_alike : Stmt := topS 39
abbrev N_law_alike : List Str := ["_law_found", "_law_due", "_law_k"]
abbrev P_law_alike : List Str := ["_law_found", "_law_due"]
theorem sc_law_alike : FnScope N_law_alike P_law_alike (defScope s_law_alike) := ⟨rfl, rfl, rfl, by decide +kernel, rfl, by decide +kernel, by decide +kernel⟩
def sp_al : Sp := fun vs H Q _ => False
def sp_al0 : Sp := fun vs H Q _ => ∃ x y : V, vs = [x, y] ∧ ((∃ i : Int, x = .int i ∧ y = .int i) ∨ (∃ b : Bool, x = .bl b ∧ y = .bl b)) ∧ ∀ H', Kp H H' → Q (.bl true) H'
theorem rd_isiTL {x : V} {p : Addr} {T : String} {b1 b2 : Bool} {H : Hp} {Q : VK} (hT : H p = some (.tup [.ty "tuple", .ty "list"])) (ty : TyX K H x (.type T)) (h1 : kitB T "tuple" = some b1) (h2 : kitB T "list" = some b2) (q : Q (.bl (b1 || b2)) H) : rIsiT K [x, .ref p] H Q :=
  ⟨x, p, [.ty "tuple", .ty "list"], .type T, [.type "tuple", .type "list"], b1 || b2, rfl, hT, by repeat constructor, ty, kitAny_cons (kit_ty h1) (fun e => kitAny_cons (kit_ty h2) (fun e2 => by rw [e, e2]; exact kitAny_nil) (fun e2 => by rw [e2, Bool.or_true])) (fun e => by rw [e]; rfl), q⟩
theorem rd_neB {a b : Bool} {H : Hp} {Q : VK} (q : Q (.bl (!decide (a = b))) H) : rNe (.bl a) (.bl b) H Q := ⟨rfl, by
  have e : decide (V.bl a = V.bl b) = decide (a = b) := by by_cases e : a = b <;> simp [e]
  rw [e]; exact q⟩
theorem rd_eqB {a b : Bool} {H : Hp} {Q : VK} (q : Q (.bl (decide (a = b))) H) : rEq (.bl a) (.bl b) H Q := ⟨rfl, by
  have e : decide (V.bl a = V.bl b) = decide (a = b) := by by_cases e : a = b <;> simp [e]
  rw [e]; exact q⟩
theorem ok_al {f : Addr} {fd : FuncData} (F : Fun K "_law_alike" "_law_alike" s_law_alike f fd) : FnOk P w K mg base CX0 1 f fd P_law_alike sp_al := by
  exact F.ok sc_law_alike (fun vs H Q E h => h.elim) (fun cdv A outer s H vs Q E hr h => h.elim)
theorem ok_al0 {f : Addr} {fd : FuncData} (F : Fun K "_law_alike" "_law_alike" s_law_alike f fd) (nm : Nm mg) (C_law_alike : Cal P w K mg base "_law_alike" 1 P_law_alike sp_al) : FnOk P w K mg base CX0 2 f fd P_law_alike sp_al0 := by
  refine F.ok sc_law_alike (fun vs H Q E h => ?_) (fun cdv A outer s H vs Q E hr h => ?_)
  · obtain ⟨x, y, rfl, _⟩ := h
    rfl
  · obtain ⟨x, y, rfl, hxy, q⟩ := h
    refine ⟨_, (pss_cons (ps_if (pt_val (pe_callB (k_isiT (K := K)) (by rfl) nm.m_isinstance (by decide +kernel) (pa_cons (pv 1) (pa_cons (pe_tup (pa_cons (pe_ty "tuple" (by rfl) nm.m_tuple (by decide +kernel)) (pa_cons (pe_ty "list" (by rfl) nm.m_list (by decide +kernel)) pa_nil))) pa_nil))))
        (pss_cons (ps_if (PW.pt (pw_or (pt_not (pt_val (pe_callB (k_isiT (K := K)) (by rfl) nm.m_isinstance (by decide +kernel) (pa_cons (pv 0) (pa_cons (pe_tup (pa_cons (pe_ty "tuple" (by rfl) nm.m_tuple (by decide +kernel)) (pa_cons (pe_ty "list" (by rfl) nm.m_list (by decide +kernel)) pa_nil))) pa_nil))))) (pw_or1 (pt_cmpR op_ne (pe_callB (k_isi (K := K)) (by rfl) nm.m_isinstance (by decide +kernel) (pa_cons (pv 0) (pa_cons (pe_ty "list" (by rfl) nm.m_list (by decide +kernel)) pa_nil))) (pe_callB (k_isi (K := K)) (by rfl) nm.m_isinstance (by decide +kernel) (pa_cons (pv 1) (pa_cons (pe_ty "list" (by rfl) nm.m_list (by decide +kernel)) pa_nil))) (nomark _)))))
          (pss_one (ps_ret pe_bl))
          pss_nil)
        (pss_cons (ps_if (pt_cmpR op_ne (pe_callB (k_len (K := K)) (by rfl) nm.m_len (by decide +kernel) (pa_cons (pv 0) pa_nil)) (pe_callB (k_len (K := K)) (by rfl) nm.m_len (by decide +kernel) (pa_cons (pv 1) pa_nil)) (nomark _))
          (pss_one (ps_ret pe_bl))
          pss_nil)
        (pss_one (ps_ret (pe_cmpR (k_eqD (K := K) (hu_of hr)) (pe_lc (own := [("_law_k", 2)]) rfl sc_law_alike.nd (pi_range1 (by rfl) nm.m_range (pa_cons (pe_callB (k_len (K := K)) (by rfl) nm.m_len (by decide +kernel) (pa_cons (pv 1) pa_nil)) pa_nil)) (blkOk_by (N := N_law_alike) (sc := defScope s_law_alike) (own := [("_law_k", 2)]) (by decide +kernel)) (fun _ _ _ _ _ => (pg_name (i := 2) sc_law_alike.nd rfl (Or.inl rfl))) (fun _ _ _ _ _ => (pts_one (pt_not (pt_val (pe_cal C_law_alike (hr.mono (by first | decide | exact Nat.le_refl _)) (by rfl) (pa_cons (pe_ix (k_ixT (K := K)) (pv 0) (pv 2) (fun _ _ => rfl)) (pa_cons (pe_ix (k_ixT (K := K)) (pv 1) (pv 2) (fun _ _ => rfl)) pa_nil))))))) (fun _ _ _ _ _ => (pv 2))) (pe_lst pa_nil) (nomark _))))))
        pss_nil)
      (pss_cons (ps_if (PW.pt (pw_or (pt_cmpR op_isN (pv 1) pe_non (nomark _)) (pw_or1 (pt_val (pe_callB (k_isi (K := K)) (by rfl) nm.m_isinstance (by decide +kernel) (pa_cons (pv 1) (pa_cons (pe_ty "str" (by rfl) nm.m_str (by decide +kernel)) pa_nil)))))))
        (pss_one (ps_ret (pe_and (pe_cmpR op_eq (pv 0) (pv 1) (nomark _)) (pe_one (pe_cmpR op_eq (pe_callB (k_isi (K := K)) (by rfl) nm.m_isinstance (by decide +kernel) (pa_cons (pv 0) (pa_cons (pe_ty "str" (by rfl) nm.m_str (by decide +kernel)) pa_nil))) (pe_callB (k_isi (K := K)) (by rfl) nm.m_isinstance (by decide +kernel) (pa_cons (pv 1) (pa_cons (pe_ty "str" (by rfl) nm.m_str (by decide +kernel)) pa_nil))) (nomark _))))))
        pss_nil)
      (pss_one (ps_ret (pe_and (pe_callB (k_isi (K := K)) (by rfl) nm.m_isinstance (by decide +kernel) (pa_cons (pv 0) (pa_cons (pe_ty "int" (by rfl) nm.m_int (by decide +kernel)) pa_nil))) (pe_and (pe_cmpR op_eq (pe_callB (k_isi (K := K)) (by rfl) nm.m_isinstance (by decide +kernel) (pa_cons (pv 0) (pa_cons (pe_ty "bool" (by rfl) nm.m_bool (by decide +kernel)) pa_nil))) (pe_callB (k_isi (K := K)) (by rfl) nm.m_isinstance (by decide +kernel) (pa_cons (pv 1) (pa_cons (pe_ty "bool" (by rfl) nm.m_bool (by decide +kernel)) pa_nil))) (nomark _)) (pe_one (pe_cmpR op_eq (pv 0) (pv 1) (nomark _))))))))), ?_⟩
    repeat walk_at "rd"
    refine ⟨sz (by decide), fun p np => ?_⟩
    repeat walk_at "rd"
    have kp := Kp.new (o := .tup [V.ty "tuple", V.ty "list"]) np
    have hp : (upd H p (.tup [V.ty "tuple", V.ty "list"])) p = some _ := upd_same
    generalize upd H p (.tup [V.ty "tuple", V.ty "list"]) = H1 at *
    rcases hxy with ⟨i, rfl, rfl⟩ | ⟨b, rfl, rfl⟩
    · refine rd_isiTL hp ty_int (b1 := false) (b2 := false) (by decide +kernel) (by decide +kernel) ⟨_, rfl, no rfl ?_⟩
      repeat walk_at "rd"
      refine ⟨rfl, ⟨_, rfl, no (df fun z => by cases z) ?_⟩⟩
      repeat walk_at "rd"
      refine rd_isi ty_int (b := false) (by decide +kernel) ⟨_, rfl, no rfl ?_⟩
      repeat walk_at "rd"
      refine rd_isi ty_int (b := true) (by decide +kernel) ⟨_, rfl, yes rfl ?_⟩
      repeat walk_at "rd"
      refine rd_isi ty_int (b := false) (by decide +kernel) ?_
      repeat walk_at "rd"
      refine rd_isi ty_int (b := false) (by decide +kernel) ?_
      refine rd_eqB ⟨_, rfl, yes rfl ?_⟩
      repeat walk_at "rd"
      refine rd_eqI (b := true) (dt rfl) ?_
      exact q _ kp
    · refine rd_isiTL hp ty_bl (b1 := false) (b2 := false) (by decide +kernel) (by decide +kernel) ⟨_, rfl, no rfl ?_⟩
      repeat walk_at "rd"
      refine ⟨rfl, ⟨_, rfl, no (df fun z => by cases z) ?_⟩⟩
      repeat walk_at "rd"
      refine rd_isi ty_bl (b := false) (by decide +kernel) ⟨_, rfl, no rfl ?_⟩
      repeat walk_at "rd"
      refine rd_isi ty_bl (b := true) (by decide +kernel) ⟨_, rfl, yes rfl ?_⟩
      repeat walk_at "rd"
      refine rd_isi ty_bl (b := true) (by decide +kernel) ?_
      repeat walk_at "rd"
      refine rd_isi ty_bl (b := true) (by decide +kernel) ?_
      refine rd_eqB ⟨_, rfl, yes rfl ?_⟩
      repeat walk_at "rd"
      refine rd_eqB ?_
      rw [dt rfl]
      exact q _ kp
/-- two tuples whose items are alike -/
def sp_alS (sp : Sp) : Sp := fun vs H Q _ => ∃ (a b : Addr) (xs ys : List V), vs = [.ref a, .ref b] ∧ H a = some (.tup xs) ∧ H b = some (.tup ys) ∧ xs.length = ys.length ∧ ys.length ≤ 60 ∧
  (∀ (i : Nat) x y, xs[i]? = some x → ys[i]? = some y → ∀ H1, Kp H H1 → ∀ Q1 : VK, (∀ H2, Kp H1 H2 → Q1 (.bl true) H2) → sp [x, y] H1 Q1 E0) ∧ ∀ H', Kp H H' → Q (.bl true) H'
theorem ok_alS {sp : Sp} {k : Nat} {f : Addr} {fd : FuncData} (F : Fun K "_law_alike" "_law_alike" s_law_alike f fd) (nm : Nm mg) (C_law_alike : Cal P w K mg base "_law_alike" k P_law_alike sp) : FnOk P w K mg base CX0 (k + 1) f fd P_law_alike (sp_alS sp) := by
  refine F.ok sc_law_alike (fun vs H Q E h => ?_) (fun cdv A outer s H vs Q E hr h => ?_)
  · obtain ⟨x, y, _, _, rfl, _⟩ := h
    rfl
  · obtain ⟨a, b, xs, ys, rfl, ha, hb, hl, hy, hi, q⟩ := h
    refine ⟨_, (pss_cons (ps_if (pt_val (pe_callB (k_isiT (K := K)) (by rfl) nm.m_isinstance (by decide +kernel) (pa_cons (pv 1) (pa_cons (pe_tup (pa_cons (pe_ty "tuple" (by rfl) nm.m_tuple (by decide +kernel)) (pa_cons (pe_ty "list" (by rfl) nm.m_list (by decide +kernel)) pa_nil))) pa_nil))))
        (pss_cons (ps_if (PW.pt (pw_or (pt_not (pt_val (pe_callB (k_isiT (K := K)) (by rfl) nm.m_isinstance (by decide +kernel) (pa_cons (pv 0) (pa_cons (pe_tup (pa_cons (pe_ty "tuple" (by rfl) nm.m_tuple (by decide +kernel)) (pa_cons (pe_ty "list" (by rfl) nm.m_list (by decide +kernel)) pa_nil))) pa_nil))))) (pw_or1 (pt_cmpR op_ne (pe_callB (k_isi (K := K)) (by rfl) nm.m_isinstance (by decide +kernel) (pa_cons (pv 0) (pa_cons (pe_ty "list" (by rfl) nm.m_list (by decide +kernel)) pa_nil))) (pe_callB (k_isi (K := K)) (by rfl) nm.m_isinstance (by decide +kernel) (pa_cons (pv 1) (pa_cons (pe_ty "list" (by rfl) nm.m_list (by decide +kernel)) pa_nil))) (nomark _)))))
          (pss_one (ps_ret pe_bl))
          pss_nil)
        (pss_cons (ps_if (pt_cmpR op_ne (pe_callB (k_len (K := K)) (by rfl) nm.m_len (by decide +kernel) (pa_cons (pv 0) pa_nil)) (pe_callB (k_len (K := K)) (by rfl) nm.m_len (by decide +kernel) (pa_cons (pv 1) pa_nil)) (nomark _))
          (pss_one (ps_ret pe_bl))
          pss_nil)
        (pss_one (ps_ret (pe_cmpR (k_eqD (K := K) (hu_of hr)) (pe_lc (own := [("_law_k", 2)]) rfl sc_law_alike.nd (pi_range1 (by rfl) nm.m_range (pa_cons (pe_callB (k_len (K := K)) (by rfl) nm.m_len (by decide +kernel) (pa_cons (pv 1) pa_nil)) pa_nil)) (blkOk_by (N := N_law_alike) (sc := defScope s_law_alike) (own := [("_law_k", 2)]) (by decide +kernel)) (fun _ _ _ _ _ => (pg_name (i := 2) sc_law_alike.nd rfl (Or.inl rfl))) (fun _ _ _ _ _ => (pts_one (pt_not (pt_val (pe_cal C_law_alike (hr.mono (by first | decide | exact Nat.le_refl _)) (by rfl) (pa_cons (pe_ix (k_ixT (K := K)) (pv 0) (pv 2) (fun _ _ => rfl)) (pa_cons (pe_ix (k_ixT (K := K)) (pv 1) (pv 2) (fun _ _ => rfl)) pa_nil))))))) (fun _ _ _ _ _ => (pv 2))) (pe_lst pa_nil) (nomark _))))))
        pss_nil)
      (pss_cons (ps_if (PW.pt (pw_or (pt_cmpR op_isN (pv 1) pe_non (nomark _)) (pw_or1 (pt_val (pe_callB (k_isi (K := K)) (by rfl) nm.m_isinstance (by decide +kernel) (pa_cons (pv 1) (pa_cons (pe_ty "str" (by rfl) nm.m_str (by decide +kernel)) pa_nil)))))))
        (pss_one (ps_ret (pe_and (pe_cmpR op_eq (pv 0) (pv 1) (nomark _)) (pe_one (pe_cmpR op_eq (pe_callB (k_isi (K := K)) (by rfl) nm.m_isinstance (by decide +kernel) (pa_cons (pv 0) (pa_cons (pe_ty "str" (by rfl) nm.m_str (by decide +kernel)) pa_nil))) (pe_callB (k_isi (K := K)) (by rfl) nm.m_isinstance (by decide +kernel) (pa_cons (pv 1) (pa_cons (pe_ty "str" (by rfl) nm.m_str (by decide +kernel)) pa_nil))) (nomark _))))))
        pss_nil)
      (pss_one (ps_ret (pe_and (pe_callB (k_isi (K := K)) (by rfl) nm.m_isinstance (by decide +kernel) (pa_cons (pv 0) (pa_cons (pe_ty "int" (by rfl) nm.m_int (by decide +kernel)) pa_nil))) (pe_and (pe_cmpR op_eq (pe_callB (k_isi (K := K)) (by rfl) nm.m_isinstance (by decide +kernel) (pa_cons (pv 0) (pa_cons (pe_ty "bool" (by rfl) nm.m_bool (by decide +kernel)) pa_nil))) (pe_callB (k_isi (K := K)) (by rfl) nm.m_isinstance (by decide +kernel) (pa_cons (pv 1) (pa_cons (pe_ty "bool" (by rfl) nm.m_bool (by decide +kernel)) pa_nil))) (nomark _)) (pe_one (pe_cmpR op_eq (pv 0) (pv 1) (nomark _))))))))), ?_⟩
    repeat walk_at "rd"
    refine ⟨sz (by decide), fun p np => ?_⟩
    repeat walk_at "rd"
    have kp := Kp.new (o := .tup [V.ty "tuple", V.ty "list"]) np
    have hp : (upd H p (.tup [V.ty "tuple", V.ty "list"])) p = some _ := upd_same
    generalize upd H p (.tup [V.ty "tuple", V.ty "list"]) = H1 at *
    have ha1 := kp.get ha
    have hb1 := kp.get hb
    refine rd_isiTL hp (ty_tup hb1) (b1 := true) (b2 := false) (by decide +kernel) (by decide +kernel) ⟨_, rfl, yes rfl ?_⟩
    repeat walk_at "rd"
    refine ⟨sz (by decide), fun p2 np2 => ?_⟩
    repeat walk_at "rd"
    have kp2 := Kp.new (o := .tup [V.ty "tuple", V.ty "list"]) np2
    have hp2 : (upd H1 p2 (.tup [V.ty "tuple", V.ty "list"])) p2 = some _ := upd_same
    generalize upd H1 p2 (.tup [V.ty "tuple", V.ty "list"]) = H2 at *
    have ha2 := kp2.get ha1
    have hb2 := kp2.get hb1
    refine rd_isiTL hp2 (ty_tup ha2) (b1 := true) (b2 := false) (by decide +kernel) (by decide +kernel) ⟨_, rfl, no rfl ?_⟩
    repeat walk_at "rd"
    refine rd_isi (ty_tup ha2) (b := false) (by decide +kernel) ?_
    repeat walk_at "rd"
    refine rd_isi (ty_tup hb2) (b := false) (by decide +kernel) ?_
    refine rd_neB ⟨_, rfl, no rfl ?_⟩
    repeat walk_at "rd"
    refine rd_neI (b := false) (by rw [hl]; simp) ⟨_, rfl, no rfl ?_⟩
    repeat walk_at "rd"
    refine ⟨_, rfl, by omega, by omega, ?_⟩
    refine g_lc walk_range (by omega) (fun _ _ => trivial) (fun _ acc _ => acc = []) (fun _ _ => rfl) (fun _ _ _ _ _ _ _ r => r) (fun Rt Rf i acc x H3 H4 hi' k3 r y ht hf => ?_) (fun D H3 acc nD k3 hD _ r => ?_)
    · obtain ⟨rfl, rfl⟩ := y
      rw [Int.toNat_natCast] at hi'
      have ha3 := k3.get ha2
      have hb3 := k3.get hb2
      have l1 : i < xs.length := by omega
      have a1 : atI xs (0 + (i : Int)) = some xs[i] := by rw [Int.zero_add]; exact atI_nat (List.getElem?_eq_getElem l1)
      have a2 : atI ys (0 + (i : Int)) = some ys[i] := by rw [Int.zero_add]; exact atI_nat (List.getElem?_eq_getElem hi')
      repeat walk_at "rd"
      refine ⟨rfl, ?_⟩
      repeat walk_at "rd"
      refine hi i _ _ (List.getElem?_eq_getElem l1) (List.getElem?_eq_getElem hi') _ (kp.trans (kp2.trans k3)) _ fun H5 k5 => ⟨_, rfl, no rfl ?_⟩
      exact hf _ k5 r
    · have r : acc = [] := r
      subst r
      repeat walk_at "rd"
      refine ⟨sz (show (0 : Nat) ≤ 1000 by decide), fun z nz => ?_⟩
      refine ⟨.list [], .list [], .lst (SqL.of (upd_old nz hD)) .nil, .lst (SqL.of upd_same) .nil, pIs_shapedL [], pIs_shapedL [], ?_⟩
      have e : PyData.eqv (.list []) (.list []) = true := by simp [PyData.eqv, PyData.eqvAll]
      rw [e]
      exact q _ (kp.trans (kp2.trans (k3.trans (Kp.new nz))))
end
end Fo
set_option maxHeartbeats 4000000
/-! FoS: law. -/
namespace Fo
open PySem PySem.Spec PyProof.Rows L2 GxR
local macro_rules | `(tactic| walk_at "hp") => `(tactic| first
  | assumption
  | exact upd_same
  | (refine' upd_old ?n ?h; (case n => assumption); (case h => walk_at "hp"))
  | (refine' Kp.get ?k ?h rfl; (case k => assumption); (case h => walk_at "hp")))
local macro_rules | `(tactic| walk_at "kp") => `(tactic| first
  | exact Kp.refl _
  | assumption
  | exact Kp.new (by assumption)
  | (refine' Kp.trans ?a ?b; (case b => first | assumption | exact Kp.new (by assumption)); (case a => walk_at "kp")))
local macro_rules | `(tactic| walk_at "rd") => `(tactic| first
  | ((with_reducible show tVar _ _ _ _); refine ⟨_, rfl, ?_⟩)
  | ((with_reducible show tC _ _ _ _); refine rd_c ?_)
  | ((with_reducible show tSeq _ _ _ _ _); refine rd_seq ?_)
  | ((with_reducible show tAsg _ _ _ _ _); refine rd_asg ?_)
  | ((with_reducible show gName _ _ _ _ _); refine rd_name ?_)
  | ((with_reducible show tRet _ _ _ _); refine rd_ret ?_)
  | ((with_reducible show tOp _ _ _ _ _ _); refine rd_op ?_)
  | ((with_reducible show tCons _ _ _ _ _); refine rd_cons ?_)
  | ((with_reducible show tNil _ _ _); refine rd_nil ?_)
  | ((with_reducible show tCal _ _ _ _ _); refine rd_cal ?_)
  | ((with_reducible show tCB _ _ _ _ _); refine rd_cb ?_)
  | ((with_reducible show tTest _ _ _ _); refine rd_test ?_)
  | ((with_reducible show tB _ _ _ _); refine rd_B ?_)
  | ((with_reducible show tNot _ _ _ _); refine rd_not ?_)
  | ((with_reducible show tAnd _ _ _ _ _); refine rd_and ?_)
  | ((with_reducible show tOr _ _ _ _ _); refine rd_or ?_)
  | ((with_reducible show tAndV _ _ _ _ _); refine rd_andV ?_)
  | ((with_reducible show tNotV _ _ _ _); refine rd_notV ?_)
  | ((with_reducible show tChain _ _ _ _ _ _ _ _); refine rd_chain ?_)
  | ((with_reducible show tIfS _ _ _ _ _ _); refine rd_ifs ?_)
  | ((with_reducible show tDrop _ _ _ _); refine rd_drop ?_)
  | ((with_reducible show tFor _ _ _ _ _ _); refine rd_forG ?_)
  | ((with_reducible show iTup _ _ _ _ _); refine rd_itup ?_)
  | ((with_reducible show iList _ _ _ _ _); refine rd_ilist ?_)
  | ((with_reducible show rI0 _ _ _ _ _); refine ⟨_, _, rfl, rfl, ?_⟩)
  | ((with_reducible show rAdd _ _ _ _); refine ⟨_, _, rfl, rfl, ?_⟩)
  | ((with_reducible show rSub _ _ _ _); refine ⟨_, _, rfl, rfl, ?_⟩)
  | ((with_reducible show rIxT _ _ _ _ _); refine' rd_ix ?h ?a ?_; (case h => walk_at "hp"); (case a => first | rfl | assumption))
  | ((with_reducible show rIxL _ _ _ _ _); refine' rd_ixL ?h ?a ?_; (case h => walk_at "hp"); (case a => first | rfl | assumption))
  | ((with_reducible show tTup _ _ _ _); refine rd_tup ?_)
  | ((with_reducible show tLst _ _ _ _); refine rd_lst ?_)
  | ((with_reducible show tAllG _ _ _ _ _ _ _ _); refine rd_allG ?_)
  | ((with_reducible show tAnyG _ _ _ _ _ _ _ _); refine rd_anyG ?_)
  | ((with_reducible show tSumG _ _ _ _ _ _ _ _); refine rd_sumG ?_)
  | ((with_reducible show tLc _ _ _ _ _ _ _ _); refine rd_lc ?_)
  | ((with_reducible show tNext _ _ _); refine rd_next ?_)
  | ((with_reducible show tBreak _ _ _); refine rd_break ?_)
  | ((with_reducible show tDGet _ _ _ _ _); refine rd_dget ?_)
  | ((with_reducible show tDNewT _ _ _); refine rd_dnew ?_)
  | ((with_reducible show StX.tStar _ _ _ _ _ _); refine rd_star ?_)
  | ((with_reducible show tSl _ _ _ _ _ _ _); refine rd_sl ?_)
  | ((with_reducible show sDPut _ _ _ _ _ _); refine rd_dput ?_)
  | ((with_reducible show tBM _ _ _ _ _ _ _ _); refine rd_bm ?_)
  | ((with_reducible show tPar _ _ _ _ _ _); refine rd_par ?_)
  | ((with_reducible show tPar3 _ _ _ _ _ _ _); refine rd_par3 ?_)
  | ((with_reducible show iRng1 _ _ _ _); refine rd_rng1 ?_)
  | ((with_reducible show tUn _ _ _ _ _); refine rd_un ?_)
  | ((with_reducible show rU _ _ _ _); refine ⟨_, rfl, ?_⟩)
  | ((with_reducible show tPart _ _ _ _); refine rd_part ?_)
  | ((with_reducible show tNoPart _ _ _); refine rd_nopart ?_)
  | ((with_reducible show iRng2 _ _ _ _); refine rd_rng2 ?_)
  | ((with_reducible show iRng3 _ _ _ _); refine rd_rng3 ?_)
  | ((with_reducible show gSub _ _ _ _ _ _ _); refine rd_gsub ?_)
  | ((with_reducible show tDcT _ _ _ _ _ _ _ _); refine rd_dcT ?_)
  | ((with_reducible show tYes _ _ _); refine rd_yes ?_)
  | ((with_reducible show rLenS _ _ _ _); refine' rd_len ?h ?_; (case h => first | (refine' Or.inr (SqT.of ?z); (case z => walk_at "hp")) | (refine' Or.inl (SqL.of ?z); (case z => walk_at "hp"))))
  | ((with_reducible show gTup _ _ _ _ _ _ _); refine' rd_gtup ?h ?l ?_; (case h => refine' SqT.of ?z; (case z => walk_at "hp")); (case l => rfl))
  | ((with_reducible show gCons _ _ _ _ _ _); refine ⟨_, _, rfl, ?_⟩)
  | ((with_reducible show gNil _ _ _ _); refine ⟨rfl, ?_⟩))

section
variable {P : Program} {w : World} {K : PySem.W.Frag} {mg : Str → Option Value} {base : Heap}
abbrev s_law : Stmt := topS 52
abbrev N_law : List Str := ["_law_script", "_law_row_here", "_law_web_here", "_law_many", "_law_person", "_law_costs", "_law_gains", "_law_some", "_law_rows_here", "_law_start", "_law_one", "_law_best", "_law_found", "_law_word", "_law_values", "_law_value", "_law_due", "_law_table", "_law_turn", "_law_later", "_law_tops", "_law_there", "_law_each"]
abbrev P_law : List Str := ["_law_script"]
theorem sc_law : FnScope N_law P_law (defScope s_law) := ⟨rfl, rfl, rfl, by decide +kernel, rfl, by decide +kernel, by decide +kernel⟩
def sp_law (K : PySem.W.Frag) (T : List Addr) : Sp := fun vs H Q _ => ∃ (a : Addr) (cells : List Int), vs = [.ref a] ∧ Tb T H ∧ SqL K H a (cells.map V.int) ∧ ∀ H', Q (.bl true) H'
/-- what the law calls -/
structure Calls (P : Program) (w : World) (K : PySem.W.Frag) (mg : Str → Option Value) (base : Heap) (T : List Addr) : Prop where
  best_stay : Cal P w K mg base "best_stay" 8 P_best_stay (sp_best_stay T)
  shows_best_stay : Cal P w K mg base "shows_best_stay" 8 P_shows_best_stay (sp_shows T)
  stay_worths : Cal P w K mg base "stay_worths" 8 P_stay_worths (sp_stay_worths T)
  law_taken : Cal P w K mg base "_law_taken" 1 P_law_taken (sp_taken K)
  law_pick : Cal P w K mg base "_law_pick" 2 P_law_pick (sp_pick K)
  law_web : Cal P w K mg base "_law_web" 2 P_law_web (sp_law_web K)
  law_alike0 : Cal P w K mg base "_law_alike" 2 P_law_alike sp_al0
  law_alike2 : Cal P w K mg base "_law_alike" 4 P_law_alike (sp_alS (sp_alS sp_al0))
  law_come : Cal P w K mg base "_law_come" 2 P_law_come sp_law_come
  law_gatherings : Cal P w K mg base "_law_gatherings" 2 P_law_gatherings sp_law_gatherings
  law_total : Cal P w K mg base "_law_total" 3 P_law_total sp_law_total
  law_rows : Cal P w K mg base "_law_rows" 1 P_law_rows sp_law_rows
def tLawD (K : PySem.W.Frag) (T : List Addr) : TS := tSeq (tAsg (tTup (tCons tDNewT (tCons (tLst tNil) tNil))) (gTup K 2 (gCons (gName 17) (gCons (gName 16) gNil))))
  (tSeq (tFor (iList K (tVar 7)) (gName 10) (sDPut (tVar 17) (tVar 10) (tC (V.int 0))))
  (tSeq (tDrop (tBM K "list" rAppend (tVar 16) (tCons (tCB (rTupOf K) (tCons (tLc (iList K (tVar 7)) (gName 10) tYes (tC (V.int 0)) (List.map (fun x => x.snd) [(Str.ofString "_law_one", 10)])) tNil)) tNil)))
  (tSeq (tFor (iRng1 (tCons (tVar 3) tNil)) (gName 18) (tSeq (tAsg tDNewT (gName 19)) (tSeq (tFor (iList K (tVar 7)) (gName 10) (tSeq (tAsg (tLst tNil) (gName 20)) (tSeq (tFor (iRng1 (tCons (tOp (rIxT K) (tVar 2) (tC (V.int 0))) tNil)) (gName 4) (tSeq (tAsg (tCal sp_law_come (tCons (tVar 2) (tCons (tVar 10) (tCons (tVar 4) tNil)))) (gName 21)) (tDrop (tBM K "list" rAppend (tVar 20) (tCons (tOp (rI0 fun i j => V.int (i + j)) (tOp (rI0 fun i j => V.int (i - j)) (tCB (rSum K) (tCons (tLc (iTup K (tVar 21)) (gName 22) tYes (tOp (rIxT K) (tVar 6) (tVar 22)) (List.map (fun x => x.snd) [(Str.ofString "_law_each", 22)])) tNil)) (tOp (rIxT K) (tVar 5) (tVar 4))) (tDGet (tVar 17) (tVar 21))) tNil))))) (sDPut (tVar 19) (tVar 10) (tCB (rMax K) (tCons (tVar 20) tNil)))))) (tSeq (tAsg (tVar 19) (gName 17)) (tDrop (tBM K "list" rAppend (tVar 16) (tCons (tCB (rTupOf K) (tCons (tLc (iList K (tVar 7)) (gName 10) tYes (tDGet (tVar 17) (tVar 10)) (List.map (fun x => x.snd) [(Str.ofString "_law_one", 10)])) tNil)) tNil)))))))
  (tRet (tCal (sp_alS (sp_alS sp_al0)) (tCons (tCal (sp_stay_worths T) (tCons (tVar 2) (tCons (tVar 6) (tCons (tVar 5) (tCons (tVar 3) tNil))))) (tCons (tCB (rTupOf K) (tCons (tVar 16) tNil)) tNil)))))))
def tLawV (K : PySem.W.Frag) (T : List Addr) : TS := tSeq (tAsg (tLst (tCons (tVar 12) (tCons (tCB (rLstOf K) (tCons (tVar 12) tNil)) (tCons (tTup (tCons (tVar 11) (tCons (tCB (rLstOf K) (tCons (tVar 13) tNil)) tNil))) (tCons (tTup (tCons (tOp (rI0 fun i j => V.int (i + j)) (tVar 11) (tC (V.int 1))) (tCons (tVar 13) tNil))) (tCons (tTup (tCons (tVar 11) (tCons (tSl (rSlA K) (tVar 13) (tPart (tC (V.int 1))) tNoPart) tNil))) (tCons (tTup (tCons (tVar 11) (tCons (tOp (rCatA K) (tVar 13) (tTup (tCons (tC (V.int 0)) tNil))) tNil))) (tCons (tTup (tCons (tVar 11) (tCons (tTup tNil) tNil))) (tCons (tC V.non) (tCons (tC (V.int 3)) (tCons (tTup (tCons (tVar 11) (tCons (tOp (rRepU K) (tTup (tCons (tOp (rIxT K) (tVar 2) (tC (V.int 0))) tNil)) (tVar 3)) tNil))) tNil))))))))))) (gName 14))
  (tSeq (tFor (iList K (tOp rCat (tOp rCat (tVar 14) (tLst (tCons (tTup (tCons (tVar 11) (tCons (tCal (sp_pick K) (tCons (tVar 1) (tCons (tVar 8) tNil))) tNil))) (tCons (tTup (tCons (tVar 11) (tCons (tRevT K (tVar 13)) tNil))) tNil)))) (tLc (iList K (tSl (rSlL K) (tVar 8) tNoPart (tPart (tC (V.int 20))))) (gName 10) tYes (tTup (tCons (tVar 11) (tCons (tVar 10) tNil))) (List.map (fun x => x.snd) [(Str.ofString "_law_one", 10)])))) (gName 15) (tSeq (tAsg (tAndV (tCB (rIsi K) (tCons (tVar 15) (tCons (tC (V.ty "tuple")) tNil))) (tAndV (tOp rEq (tCB (rLenS K) (tCons (tVar 15) tNil)) (tC (V.int 2))) (tAndV (tCB (rIsi K) (tCons (tOp (rIxT K) (tVar 15) (tC (V.int 1))) (tCons (tC (V.ty "tuple")) tNil))) (tAndV (tOp (rInD K) (tOp (rIxT K) (tVar 15) (tC (V.int 1))) (tVar 8)) (tOp rEq (tOp (rIxT K) (tVar 15) (tC (V.int 0))) (tVar 11)))))) (gName 16)) (tSeq (tAsg (tAndV (tVar 16) (tOp rEq (tCal sp_law_total (tCons (tVar 2) (tCons (tVar 9) (tCons (tVar 6) (tCons (tVar 5) (tCons (tOp (rIxT K) (tVar 15) (tC (V.int 1))) tNil)))))) (tVar 11))) (gName 16)) (tIfS (tNot (tB (tCal sp_al0 (tCons (tCal (sp_shows T) (tCons (tVar 2) (tCons (tVar 9) (tCons (tVar 6) (tCons (tVar 5) (tCons (tVar 3) (tCons (tVar 15) tNil))))))) (tCons (tVar 16) tNil))))) (tRet (tC (V.bl false))) tNext))))
  (tSeq (tIfS (tTest (tOp rNotB (tCal (sp_shows T) (tCons (tVar 2) (tCons (tVar 9) (tCons (tVar 6) (tCons (tVar 5) (tCons (tVar 3) (tCons (tVar 12) tNil))))))) (tC (V.bl true)))) (tRet (tC (V.bl false))) tNext)
  (tLawD K T)))
def tLaw (K : PySem.W.Frag) (T : List Addr) : TS := tSeq (tAsg (tLst (tCons (tVar 0) (tCons (tC (V.int 0)) (tCons (tC (V.int 13525)) (tCons (tC (V.int 0)) tNil))))) (gName 1))
  (tSeq (tAsg (tTup (tCons (tCal (sp_law_web K) (tCons (tVar 1) (tCons (tC (V.int 4)) tNil))) (tCons (tOp (rI0 fun i j => V.int (i + j)) (tC (V.int 1)) (tCal (sp_taken K) (tCons (tVar 1) (tCons (tC (V.int 3)) tNil)))) tNil))) (gTup K 2 (gCons (gName 2) (gCons (gName 3) gNil))))
  (tSeq (tAsg (tTup (tCons (tCB (rTupOf K) (tCons (tLc (iRng1 (tCons (tOp (rIxT K) (tVar 2) (tC (V.int 0))) tNil)) (gName 4) tYes (tCal (sp_taken K) (tCons (tVar 1) (tCons (tC (V.int 6)) tNil))) (List.map (fun x => x.snd) [(Str.ofString "_law_person", 4)])) tNil)) (tCons (tCB (rTupOf K) (tCons (tLc (iRng1 (tCons (tOp (rIxT K) (tVar 2) (tC (V.int 0))) tNil)) (gName 4) tYes (tCal (sp_taken K) (tCons (tVar 1) (tCons (tC (V.int 9)) tNil))) (List.map (fun x => x.snd) [(Str.ofString "_law_person", 4)])) tNil)) tNil))) (gTup K 2 (gCons (gName 5) (gCons (gName 6) gNil))))
  (tSeq (tPar 7 8 (tCons (tCal sp_law_gatherings (tCons (tVar 2) tNil)) (tCons (tCal sp_law_rows (tCons (tVar 2) (tCons (tVar 3) tNil))) tNil)))
  (tSeq (tAsg (tCal (sp_pick K) (tCons (tVar 1) (tCons (tVar 7) tNil))) (gName 9))
  (tSeq (tAsg (tCB (rMax K) (tCons (tLc (iList K (tVar 8)) (gName 10) tYes (tCal sp_law_total (tCons (tVar 2) (tCons (tVar 9) (tCons (tVar 6) (tCons (tVar 5) (tCons (tVar 10) tNil)))))) (List.map (fun x => x.snd) [(Str.ofString "_law_one", 10)])) tNil)) (gName 11))
  (tSeq (tAsg (tCal (sp_best_stay T) (tCons (tVar 2) (tCons (tVar 9) (tCons (tVar 6) (tCons (tVar 5) (tCons (tVar 3) tNil)))))) (gName 12))
  (tSeq (tAsg (tOp (rIxT K) (tVar 12) (tC (V.int 1))) (gName 13))
  (tLawV K T))))))))
theorem ps_law {f : Addr} {T : List Addr} {cdv : Value} {A : Around} {outer : List Env} {s : Shared} {H : Hp} {E : XK} (nm : Nm mg) (C : Calls P w K mg base T) (hr : Room 8 (A.deeper (envOfC "law" (defScope s_law) s.heap.objs.size f cdv))) :
    PSs (cxOf CX0 P w K mg base N_law "law" (defScope s_law) f cdv A outer s H E).nox (defBody s_law) (tLaw K T) := by
  obtain ⟨C_best_stay, C_shows_best_stay, C_stay_worths, C_law_taken, C_law_pick, C_law_web, C_law_alike0, C_law_alike2, C_law_come, C_law_gatherings, C_law_total, C_law_rows⟩ := C
  exact (pss_cons (ps_set (i := 1) sc_law.nd rfl (Or.inr rfl) (pe_lst (pa_cons (pv 0) (pa_cons pe_int (pa_cons pe_int (pa_cons pe_int pa_nil))))))
      (pss_cons (ps_asg (pe_tup (pa_cons (pe_cal C_law_web (hr.mono (by decide)) (by rfl) (pa_cons (pv 1) (pa_cons pe_int pa_nil))) (pa_cons (pe_op op_add pe_int (pe_cal C_law_taken (hr.mono (by decide)) (by rfl) (pa_cons (pv 1) (pa_cons pe_int pa_nil)))) pa_nil))) (k_pgT (K := K) (n := 2) rfl (pgs_cons (pg_name (i := 2) sc_law.nd rfl (Or.inr rfl)) (pgs_cons (pg_name (i := 3) sc_law.nd rfl (Or.inl rfl)) pgs_nil))))
      (pss_cons (ps_asg (pe_tup (pa_cons (pe_callTy (k_tupOf (K := K)) (by rfl) nm.m_tuple (by decide +kernel) (pa_cons (pe_lc (own := [("_law_person", 4)]) rfl sc_law.nd (pi_range1 (by rfl) nm.m_range (pa_cons (pe_ix (k_ixT (K := K)) (pv 2) pe_int (fun _ _ => rfl)) pa_nil)) (blkOk_by (N := N_law) (sc := defScope s_law) (own := [("_law_person", 4)]) (by decide +kernel)) (fun _ _ _ _ _ => (pg_name (i := 4) sc_law.nd rfl (Or.inl rfl))) (fun _ _ _ _ _ => pts_nil) (fun _ _ _ _ _ => (pe_cal C_law_taken (hr.mono (by decide)) (by rfl) (pa_cons (pv 1) (pa_cons pe_int pa_nil))))) pa_nil)) (pa_cons (pe_callTy (k_tupOf (K := K)) (by rfl) nm.m_tuple (by decide +kernel) (pa_cons (pe_lc (own := [("_law_person", 4)]) rfl sc_law.nd (pi_range1 (by rfl) nm.m_range (pa_cons (pe_ix (k_ixT (K := K)) (pv 2) pe_int (fun _ _ => rfl)) pa_nil)) (blkOk_by (N := N_law) (sc := defScope s_law) (own := [("_law_person", 4)]) (by decide +kernel)) (fun _ _ _ _ _ => (pg_name (i := 4) sc_law.nd rfl (Or.inl rfl))) (fun _ _ _ _ _ => pts_nil) (fun _ _ _ _ _ => (pe_cal C_law_taken (hr.mono (by decide)) (by rfl) (pa_cons (pv 1) (pa_cons pe_int pa_nil))))) pa_nil)) pa_nil))) (k_pgT (K := K) (n := 2) rfl (pgs_cons (pg_name (i := 5) sc_law.nd rfl (Or.inr rfl)) (pgs_cons (pg_name (i := 6) sc_law.nd rfl (Or.inr rfl)) pgs_nil))))
      (pss_cons (ps_par (i := 7) (j := 8) rfl sc_law.nd rfl rfl (by decide) rfl rfl (pa_cons (pe_cal C_law_gatherings (hr.mono (by decide)) (by rfl) (pa_cons (pv 2) pa_nil)) (pa_cons (pe_cal C_law_rows (hr.mono (by decide)) (by rfl) (pa_cons (pv 2) (pa_cons (pv 3) pa_nil))) pa_nil)) (by rfl))
      (pss_cons (ps_set (i := 9) sc_law.nd rfl (Or.inr rfl) (pe_cal C_law_pick (hr.mono (by decide)) (by rfl) (pa_cons (pv 1) (pa_cons (pv 7) pa_nil))))
      (pss_cons (ps_set (i := 11) sc_law.nd rfl (Or.inr rfl) (pe_callB (k_max (K := K) rfl) (by rfl) nm.m_max (by decide +kernel) (pa_cons (pe_lc (own := [("_law_one", 10)]) rfl sc_law.nd (k_piL (K := K) (pv 8)) (blkOk_by (N := N_law) (sc := defScope s_law) (own := [("_law_one", 10)]) (by decide +kernel)) (fun _ _ _ _ _ => (pg_name (i := 10) sc_law.nd rfl (Or.inl rfl))) (fun _ _ _ _ _ => pts_nil) (fun _ _ _ _ _ => (pe_cal C_law_total (hr.mono (by decide)) (by rfl) (pa_cons (pv 2) (pa_cons (pv 9) (pa_cons (pv 6) (pa_cons (pv 5) (pa_cons (pv 10) pa_nil)))))))) pa_nil)))
      (pss_cons (ps_set (i := 12) sc_law.nd rfl (Or.inl rfl) (pe_cal C_best_stay (hr.mono (by decide)) (by rfl) (pa_cons (pv 2) (pa_cons (pv 9) (pa_cons (pv 6) (pa_cons (pv 5) (pa_cons (pv 3) pa_nil)))))))
      (pss_cons (ps_set (i := 13) sc_law.nd rfl (Or.inl rfl) (pe_ix (k_ixT (K := K)) (pv 12) pe_int (fun _ _ => rfl)))
      (pss_cons (ps_set (i := 14) sc_law.nd rfl (Or.inl rfl) (pe_lst (pa_cons (pv 12) (pa_cons (pe_callTy (k_lstOf (K := K)) (by rfl) nm.m_list (by decide +kernel) (pa_cons (pv 12) pa_nil)) (pa_cons (pe_tup (pa_cons (pv 11) (pa_cons (pe_callTy (k_lstOf (K := K)) (by rfl) nm.m_list (by decide +kernel) (pa_cons (pv 13) pa_nil)) pa_nil))) (pa_cons (pe_tup (pa_cons (pe_op op_add (pv 11) pe_int) (pa_cons (pv 13) pa_nil))) (pa_cons (pe_tup (pa_cons (pv 11) (pa_cons (pe_slice (k_slA (K := K)) (pv 13) (po_some pe_int) po_none) pa_nil))) (pa_cons (pe_tup (pa_cons (pv 11) (pa_cons (pe_op (k_catA (K := K)) (pv 13) (pe_tup (pa_cons pe_int pa_nil))) pa_nil))) (pa_cons (pe_tup (pa_cons (pv 11) (pa_cons (pe_tup pa_nil) pa_nil))) (pa_cons pe_non (pa_cons pe_int (pa_cons (pe_tup (pa_cons (pv 11) (pa_cons (pe_op (k_repU (K := K)) (pe_tup (pa_cons (pe_ix (k_ixT (K := K)) (pv 2) pe_int (fun _ _ => rfl)) pa_nil)) (pv 3)) pa_nil))) pa_nil))))))))))))
      (pss_cons (ps_for PassesOwn.never rfl (k_piL (K := K) (pe_op op_cat (pe_op op_cat (pv 14) (pe_lst (pa_cons (pe_tup (pa_cons (pv 11) (pa_cons (pe_cal C_law_pick (hr.mono (by decide)) (by rfl) (pa_cons (pv 1) (pa_cons (pv 8) pa_nil))) pa_nil))) (pa_cons (pe_tup (pa_cons (pv 11) (pa_cons (k_revT (K := K) (pv 13)) pa_nil))) pa_nil)))) (pe_lc (own := [("_law_one", 10)]) rfl sc_law.nd (k_piL (K := K) (pe_slice (k_slL (K := K)) (pv 8) po_none (po_some pe_int))) (blkOk_by (N := N_law) (sc := defScope s_law) (own := [("_law_one", 10)]) (by decide +kernel)) (fun _ _ _ _ _ => (pg_name (i := 10) sc_law.nd rfl (Or.inl rfl))) (fun _ _ _ _ _ => pts_nil) (fun _ _ _ _ _ => (pe_tup (pa_cons (pv 11) (pa_cons (pv 10) pa_nil))))))) (pg_name (i := 15) sc_law.nd rfl (Or.inl rfl))
        (pss_cons (ps_set (i := 16) sc_law.nd rfl (Or.inl rfl) (pe_and (pe_callB (k_isi (K := K)) (by rfl) nm.m_isinstance (by decide +kernel) (pa_cons (pv 15) (pa_cons (pe_ty "tuple" (by rfl) nm.m_tuple (by decide +kernel)) pa_nil))) (pe_and (pe_cmpR op_eq (pe_callB (k_len (K := K)) (by rfl) nm.m_len (by decide +kernel) (pa_cons (pv 15) pa_nil)) pe_int (nomark _)) (pe_and (pe_callB (k_isi (K := K)) (by rfl) nm.m_isinstance (by decide +kernel) (pa_cons (pe_ix (k_ixT (K := K)) (pv 15) pe_int (fun _ _ => rfl)) (pa_cons (pe_ty "tuple" (by rfl) nm.m_tuple (by decide +kernel)) pa_nil))) (pe_and (pe_cmpR (k_inD (K := K) (hu_of hr)) (pe_ix (k_ixT (K := K)) (pv 15) pe_int (fun _ _ => rfl)) (pv 8) (by rfl)) (pe_one (pe_cmpR op_eq (pe_ix (k_ixT (K := K)) (pv 15) pe_int (fun _ _ => rfl)) (pv 11) (nomark _))))))))
        (pss_cons (ps_set (i := 16) sc_law.nd rfl (Or.inl rfl) (pe_and (pv 16) (pe_one (pe_cmpR op_eq (pe_cal C_law_total (hr.mono (by decide)) (by rfl) (pa_cons (pv 2) (pa_cons (pv 9) (pa_cons (pv 6) (pa_cons (pv 5) (pa_cons (pe_ix (k_ixT (K := K)) (pv 15) pe_int (fun _ _ => rfl)) pa_nil)))))) (pv 11) (nomark _)))))
        (pss_one (ps_if (pt_not (pt_val (pe_cal C_law_alike0 (hr.mono (by decide)) (by rfl) (pa_cons (pe_cal C_shows_best_stay (hr.mono (by decide)) (by rfl) (pa_cons (pv 2) (pa_cons (pv 9) (pa_cons (pv 6) (pa_cons (pv 5) (pa_cons (pv 3) (pa_cons (pv 15) pa_nil))))))) (pa_cons (pv 16) pa_nil)))))
          (pss_one (ps_ret pe_bl))
          pss_nil)))))
      (pss_cons (ps_if (pt_cmpR op_notBl (pe_cal C_shows_best_stay (hr.mono (by decide)) (by rfl) (pa_cons (pv 2) (pa_cons (pv 9) (pa_cons (pv 6) (pa_cons (pv 5) (pa_cons (pv 3) (pa_cons (pv 12) pa_nil))))))) pe_bl (nomark _))
        (pss_one (ps_ret pe_bl))
        pss_nil)
      (pss_cons (ps_asg (pe_tup (pa_cons pe_dnewT (pa_cons (pe_lst pa_nil) pa_nil))) (k_pgT (K := K) (n := 2) rfl (pgs_cons (pg_name (i := 17) sc_law.nd rfl (Or.inr rfl)) (pgs_cons (pg_name (i := 16) sc_law.nd rfl (Or.inl rfl)) pgs_nil))))
      (pss_cons (ps_for PassesOwn.never rfl (k_piL (K := K) (pv 7)) (pg_name (i := 10) sc_law.nd rfl (Or.inl rfl))
        (pss_one (ps_dput (hu1 hr) (pv 17) (pv 10) pe_int rfl)))
      (pss_cons (ps_expr (pe_bm PySem.F.plainAttrs_list PySem.F.slot_list_append PySem.F.type_list_append mt_append (pv 16) (pa_cons (pe_callTy (k_tupOf (K := K)) (by rfl) nm.m_tuple (by decide +kernel) (pa_cons (pe_lc (own := [("_law_one", 10)]) rfl sc_law.nd (k_piL (K := K) (pv 7)) (blkOk_by (N := N_law) (sc := defScope s_law) (own := [("_law_one", 10)]) (by decide +kernel)) (fun _ _ _ _ _ => (pg_name (i := 10) sc_law.nd rfl (Or.inl rfl))) (fun _ _ _ _ _ => pts_nil) (fun _ _ _ _ _ => pe_int)) pa_nil)) pa_nil)))
      (pss_cons (ps_for PassesOwn.never rfl (pi_range1 (by rfl) nm.m_range (pa_cons (pv 3) pa_nil)) (pg_name (i := 18) sc_law.nd rfl (Or.inl rfl))
        (pss_cons (ps_set (i := 19) sc_law.nd rfl (Or.inl rfl) pe_dnewT)
        (pss_cons (ps_for PassesOwn.never rfl (k_piL (K := K) (pv 7)) (pg_name (i := 10) sc_law.nd rfl (Or.inl rfl))
          (pss_cons (ps_set (i := 20) sc_law.nd rfl (Or.inl rfl) (pe_lst pa_nil))
          (pss_cons (ps_for PassesOwn.never rfl (pi_range1 (by rfl) nm.m_range (pa_cons (pe_ix (k_ixT (K := K)) (pv 2) pe_int (fun _ _ => rfl)) pa_nil)) (pg_name (i := 4) sc_law.nd rfl (Or.inl rfl))
            (pss_cons (ps_set (i := 21) sc_law.nd rfl (Or.inl rfl) (pe_cal C_law_come (hr.mono (by decide)) (by rfl) (pa_cons (pv 2) (pa_cons (pv 10) (pa_cons (pv 4) pa_nil)))))
            (pss_one (ps_expr (pe_bm PySem.F.plainAttrs_list PySem.F.slot_list_append PySem.F.type_list_append mt_append (pv 20) (pa_cons (pe_op op_add (pe_op op_sub (pe_callB (k_sum (K := K) rfl) (by rfl) nm.m_sum (by decide +kernel) (pa_cons (pe_lc (own := [("_law_each", 22)]) rfl sc_law.nd (k_piT (K := K) (pv 21)) (blkOk_by (N := N_law) (sc := defScope s_law) (own := [("_law_each", 22)]) (by decide +kernel)) (fun _ _ _ _ _ => (pg_name (i := 22) sc_law.nd rfl (Or.inl rfl))) (fun _ _ _ _ _ => pts_nil) (fun _ _ _ _ _ => (pe_ix (k_ixT (K := K)) (pv 6) (pv 22) (fun _ _ => rfl)))) pa_nil)) (pe_ix (k_ixT (K := K)) (pv 5) (pv 4) (fun _ _ => rfl))) (pe_dget (hu1 hr) (pv 17) (pv 21) (fun _ _ => rfl))) pa_nil))))))
          (pss_one (ps_dput (hu1 hr) (pv 19) (pv 10) (pe_callB (k_max (K := K) rfl) (by rfl) nm.m_max (by decide +kernel) (pa_cons (pv 20) pa_nil)) rfl)))))
        (pss_cons (ps_set (i := 17) sc_law.nd rfl (Or.inr rfl) (pv 19))
        (pss_one (ps_expr (pe_bm PySem.F.plainAttrs_list PySem.F.slot_list_append PySem.F.type_list_append mt_append (pv 16) (pa_cons (pe_callTy (k_tupOf (K := K)) (by rfl) nm.m_tuple (by decide +kernel) (pa_cons (pe_lc (own := [("_law_one", 10)]) rfl sc_law.nd (k_piL (K := K) (pv 7)) (blkOk_by (N := N_law) (sc := defScope s_law) (own := [("_law_one", 10)]) (by decide +kernel)) (fun _ _ _ _ _ => (pg_name (i := 10) sc_law.nd rfl (Or.inl rfl))) (fun _ _ _ _ _ => pts_nil) (fun _ _ _ _ _ => (pe_dget (hu1 hr) (pv 17) (pv 10) (fun _ _ => rfl)))) pa_nil)) pa_nil))))))))
      (pss_one (ps_ret (pe_cal C_law_alike2 (hr.mono (by decide)) (by rfl) (pa_cons (pe_cal C_stay_worths (hr.mono (by decide)) (by rfl) (pa_cons (pv 2) (pa_cons (pv 6) (pa_cons (pv 5) (pa_cons (pv 3) pa_nil))))) (pa_cons (pe_callTy (k_tupOf (K := K)) (by rfl) nm.m_tuple (by decide +kernel) (pa_cons (pv 16) pa_nil)) pa_nil))))))))))))))))))))
end
end Fo
set_option maxHeartbeats 4000000
/-! FoU: the law's tables, its last part. -/
namespace Fo
open PySem PySem.Spec PyProof.Rows L2 GxR
local macro_rules | `(tactic| walk_at "hp") => `(tactic| first
  | assumption
  | exact upd_same
  | (refine' upd_old ?n ?h; (case n => assumption); (case h => walk_at "hp"))
  | (refine' Kp.get ?k ?h rfl; (case k => assumption); (case h => walk_at "hp")))
local macro_rules | `(tactic| walk_at "kp") => `(tactic| first
  | exact Kp.refl _
  | assumption
  | exact Kp.new (by assumption)
  | (refine' Kp.trans ?a ?b; (case b => first | assumption | exact Kp.new (by assumption)); (case a => walk_at "kp")))
local macro_rules | `(tactic| walk_at "rd") => `(tactic| first
  | ((with_reducible show tVar _ _ _ _); refine ⟨_, rfl, ?_⟩)
  | ((with_reducible show tC _ _ _ _); refine rd_c ?_)
  | ((with_reducible show tSeq _ _ _ _ _); refine rd_seq ?_)
  | ((with_reducible show tAsg _ _ _ _ _); refine rd_asg ?_)
  | ((with_reducible show gName _ _ _ _ _); refine rd_name ?_)
  | ((with_reducible show tRet _ _ _ _); refine rd_ret ?_)
  | ((with_reducible show tOp _ _ _ _ _ _); refine rd_op ?_)
  | ((with_reducible show tCons _ _ _ _ _); refine rd_cons ?_)
  | ((with_reducible show tNil _ _ _); refine rd_nil ?_)
  | ((with_reducible show tCal _ _ _ _ _); refine rd_cal ?_)
  | ((with_reducible show tCB _ _ _ _ _); refine rd_cb ?_)
  | ((with_reducible show tTest _ _ _ _); refine rd_test ?_)
  | ((with_reducible show tB _ _ _ _); refine rd_B ?_)
  | ((with_reducible show tNot _ _ _ _); refine rd_not ?_)
  | ((with_reducible show tAnd _ _ _ _ _); refine rd_and ?_)
  | ((with_reducible show tOr _ _ _ _ _); refine rd_or ?_)
  | ((with_reducible show tAndV _ _ _ _ _); refine rd_andV ?_)
  | ((with_reducible show tNotV _ _ _ _); refine rd_notV ?_)
  | ((with_reducible show tChain _ _ _ _ _ _ _ _); refine rd_chain ?_)
  | ((with_reducible show tIfS _ _ _ _ _ _); refine rd_ifs ?_)
  | ((with_reducible show tDrop _ _ _ _); refine rd_drop ?_)
  | ((with_reducible show tFor _ _ _ _ _ _); refine rd_forG ?_)
  | ((with_reducible show iTup _ _ _ _ _); refine rd_itup ?_)
  | ((with_reducible show iList _ _ _ _ _); refine rd_ilist ?_)
  | ((with_reducible show rI0 _ _ _ _ _); refine ⟨_, _, rfl, rfl, ?_⟩)
  | ((with_reducible show rAdd _ _ _ _); refine ⟨_, _, rfl, rfl, ?_⟩)
  | ((with_reducible show rSub _ _ _ _); refine ⟨_, _, rfl, rfl, ?_⟩)
  | ((with_reducible show rIxT _ _ _ _ _); refine' rd_ix ?h ?a ?_; (case h => walk_at "hp"); (case a => first | rfl | assumption))
  | ((with_reducible show rIxL _ _ _ _ _); refine' rd_ixL ?h ?a ?_; (case h => walk_at "hp"); (case a => first | rfl | assumption))
  | ((with_reducible show tTup _ _ _ _); refine rd_tup ?_)
  | ((with_reducible show tLst _ _ _ _); refine rd_lst ?_)
  | ((with_reducible show tAllG _ _ _ _ _ _ _ _); refine rd_allG ?_)
  | ((with_reducible show tAnyG _ _ _ _ _ _ _ _); refine rd_anyG ?_)
  | ((with_reducible show tSumG _ _ _ _ _ _ _ _); refine rd_sumG ?_)
  | ((with_reducible show tLc _ _ _ _ _ _ _ _); refine rd_lc ?_)
  | ((with_reducible show tNext _ _ _); refine rd_next ?_)
  | ((with_reducible show tBreak _ _ _); refine rd_break ?_)
  | ((with_reducible show tDGet _ _ _ _ _); refine rd_dget ?_)
  | ((with_reducible show tDNewT _ _ _); refine rd_dnew ?_)
  | ((with_reducible show StX.tStar _ _ _ _ _ _); refine rd_star ?_)
  | ((with_reducible show tSl _ _ _ _ _ _ _); refine rd_sl ?_)
  | ((with_reducible show sDPut _ _ _ _ _ _); refine rd_dput ?_)
  | ((with_reducible show tBM _ _ _ _ _ _ _ _); refine rd_bm ?_)
  | ((with_reducible show tPar _ _ _ _ _ _); refine rd_par ?_)
  | ((with_reducible show tPar3 _ _ _ _ _ _ _); refine rd_par3 ?_)
  | ((with_reducible show iRng1 _ _ _ _); refine rd_rng1 ?_)
  | ((with_reducible show tUn _ _ _ _ _); refine rd_un ?_)
  | ((with_reducible show rU _ _ _ _); refine ⟨_, rfl, ?_⟩)
  | ((with_reducible show tPart _ _ _ _); refine rd_part ?_)
  | ((with_reducible show tNoPart _ _ _); refine rd_nopart ?_)
  | ((with_reducible show iRng2 _ _ _ _); refine rd_rng2 ?_)
  | ((with_reducible show iRng3 _ _ _ _); refine rd_rng3 ?_)
  | ((with_reducible show gSub _ _ _ _ _ _ _); refine rd_gsub ?_)
  | ((with_reducible show tDcT _ _ _ _ _ _ _ _); refine rd_dcT ?_)
  | ((with_reducible show tYes _ _ _); refine rd_yes ?_)
  | ((with_reducible show rLenS _ _ _ _); refine' rd_len ?h ?_; (case h => first | (refine' Or.inr (SqT.of ?z); (case z => walk_at "hp")) | (refine' Or.inl (SqL.of ?z); (case z => walk_at "hp"))))
  | ((with_reducible show gTup _ _ _ _ _ _ _); refine' rd_gtup ?h ?l ?_; (case h => refine' SqT.of ?z; (case z => walk_at "hp")); (case l => rfl))
  | ((with_reducible show gCons _ _ _ _ _ _); refine ⟨_, _, rfl, ?_⟩)
  | ((with_reducible show gNil _ _ _ _); refine ⟨rfl, ?_⟩))

structure Lw (T : List Addr) (H : Hp) (a gg cc S : Addr) (n : Nat) (ps : List (Int × Int)) (gs cs : List Int) (L : LP) : Prop where
  gv : Given T H a gg cc n ps gs cs
  hS : H S = some (.lst (refs L))
  hL : Its H L
  hm : L.map (·.2) = gathV n ps
theorem Lw.kp {T : List Addr} {H H' : Hp} {a gg cc S : Addr} {n : Nat} {ps : List (Int × Int)} {gs cs : List Int} {L : LP} (h : Lw T H a gg cc S n ps gs cs L) (k : Kp H H') : Lw T H' a gg cc S n ps gs cs L := ⟨h.gv.kp k, k.get h.hS, h.hL.kp k, h.hm⟩
theorem Its.mut {H : Hp} {L : LP} {D : Addr} {xs : List V} {o : HO} (h : Its H L) (hd : H D = some (.lst xs)) : Its (upd H D o) L := fun q hq => by
  have := h q hq
  rw [upd_ne (fun e => by rw [e, hd] at this; cases this)]
  exact this
theorem al2 {H : Hp} {Q : VK} {a b : Addr} {L M : LP} (ha : H a = some (.tup (refs L))) (hb : H b = some (.tup (refs M))) (hL : Its H L) (hM : Its H M) (e : L.map (·.2) = M.map (·.2)) (hl : L.length ≤ 60) (hx : ∀ q ∈ L, q.2.length ≤ 60) (q : ∀ H', Kp H H' → Q (.bl true) H') :
    sp_alS (sp_alS sp_al0) [.ref a, .ref b] H Q E0 := by
  have el : L.length = M.length := by
    have := congrArg List.length e
    rw [List.length_map, List.length_map] at this
    exact this
  refine ⟨a, b, refs L, refs M, rfl, ha, hb, by rw [refs_len, refs_len, el], by rw [refs_len]; omega, fun i x y hx1 hy1 H1 k1 Q1 q1 => ?_, q⟩
  obtain ⟨p, ep, rfl, mp⟩ := refs_get hx1
  obtain ⟨r, er, rfl, mr⟩ := refs_get hy1
  have e2 : p.2 = r.2 := by
    have h1 : (L.map (·.2))[i]? = some p.2 := by rw [List.getElem?_map, ep]; rfl
    rw [e, List.getElem?_map, er] at h1
    exact (Option.some.inj h1).symm
  have hp := k1.get (hL p mp)
  have hr := k1.get (hM r mr)
  rw [← e2] at hr
  refine ⟨p.1, r.1, p.2.map V.int, p.2.map V.int, rfl, hp, hr, rfl, by rw [List.length_map]; exact hx p mp, fun j x y hx2 hy2 H2 k2 Q2 q2 => ?_, q1⟩
  obtain ⟨x', _, rfl⟩ := ints_get hx2
  rw [hx2] at hy2
  have ey : V.int x' = y := Option.some.inj hy2
  subst ey
  exact ⟨_, _, rfl, .inl ⟨x', rfl, rfl⟩, q2⟩
theorem nm_take {L : LP} {i : Nat} {p : Addr × List Int} (nd : (L.map (·.2)).Nodup) (e : L[i]? = some p) : p.2 ∉ (L.take i).map (·.2) := by
  have et : L.take (i + 1) = L.take i ++ [p] := by rw [List.take_succ, e]; rfl
  have h2 : ((L.take (i + 1)).map (·.2)).Nodup := by
    rw [List.map_take]
    exact nd.sublist (List.take_sublist _ _)
  rw [et, List.map_append] at h2
  intro z
  exact (List.nodup_append.mp h2).2.2 _ z _ (by simp) rfl
def worthsV (n : Nat) (ps : List (Int × Int)) (gs cs : List Int) (k : Nat) : List (List Int) := (List.range k).map fun t => (gathV n ps).map (tabV n ps gs cs t)
theorem range_map {L : LP} {G : List (List Int)} (hm : L.map (·.2) = G) (f : List Int → Int) : (List.range (refs L).length).map (fun i => f (G.getD i [])) = G.map f := by
  have ll : (refs L).length = G.length := by rw [refs_len, ← hm, List.length_map]
  rw [ll]
  exact List.ext_getElem (by simp) fun j h1 h2 => by
    have : j < G.length := by simpa using h2
    simp [List.getD_eq_getElem?_getD, this]
abbrev lsg (a gg cc S : Addr) (many : Nat) (o0 o1 o4 o8 o9 o10 o11 o12 o13 o14 o15 o16 o17 o18 o19 o20 o21 o22 : Option V) : L2.St :=
  [o0, o1, some (.ref a), some (.int many), o4, some (.ref cc), some (.ref gg), some (.ref S), o8, o9, o10, o11, o12, o13, o14, o15, o16, o17, o18, o19, o20, o21, o22]
section
variable {K : PySem.W.Frag} {T : List Addr}
theorem lawD {D : Ends} {H : Hp} {a gg cc S : Addr} {n : Nat} {ps : List (Int × Int)} {gs cs : List Int} {L : LP} {many : Nat} {o0 o1 o4 o8 o9 o10 o11 o12 o13 o14 o15 o16 o17 o18 o19 o20 o21 o22 : Option V}
    (lw : Lw T H a gg cc S n ps gs cs L) (m1 : 1 ≤ many) (m8 : many ≤ 8) (q : ∀ H', Kp H H' → D.rt (.bl true) H') :
    tLawD K T D (lsg a gg cc S many o0 o1 o4 o8 o9 o10 o11 o12 o13 o14 o15 o16 o17 o18 o19 o20 o21 o22) H := by
  have ok := lw.gv.ok
  have hi4 := ok.hi
  have lo1 := ok.lo
  have gl := lw.gv.gl
  have cl := lw.gv.cl
  have hm := lw.hm
  have nd := gathV_nodup n ps
  have ll : L.length ≤ 16 := by
    have := gathV_len (n := n) ps ok.hi
    rw [← hm, List.length_map] at this
    exact this
  unfold tLawD
  repeat walk_at "rd"
  intro p1 n1
  repeat walk_at "rd"
  refine ⟨sz (show (0 : Nat) ≤ 1000 by decide), fun p2 n2 => ?_⟩
  repeat walk_at "rd"
  refine ⟨sz (show (2 : Nat) ≤ 1000 by decide), fun p3 n3 => ?_⟩
  have kA := (Kp.new (o := .dT []) n1)
  have kB := (Kp.new (o := .lst []) n2)
  have kC := (Kp.new (o := .tup [V.ref p1, V.ref p2]) n3)
  have h1 : (upd (upd (upd H p1 (.dT [])) p2 (.lst [])) p3 (.tup [V.ref p1, V.ref p2])) p1 = some (.dT []) := kC.get (kB.get upd_same)
  have h2 : (upd (upd (upd H p1 (.dT [])) p2 (.lst [])) p3 (.tup [V.ref p1, V.ref p2])) p2 = some (.lst []) := kC.get upd_same
  have h3 : (upd (upd (upd H p1 (.dT [])) p2 (.lst [])) p3 (.tup [V.ref p1, V.ref p2])) p3 = some (.tup [V.ref p1, V.ref p2]) := upd_same
  have k3 := kA.trans (kB.trans kC)
  have n2H : H p2 = none := kA.dom _ n2
  generalize upd (upd (upd H p1 (.dT [])) p2 (.lst [])) p3 (.tup [V.ref p1, V.ref p2]) = H3 at *
  repeat walk_at "rd"
  refine ⟨_, rfl, ⟨_, SqL.of (k3.get lw.hS)⟩, ?_⟩
  refine g_for walk_list (fun i σ H' => (∃ o10, σ = lsg a gg cc S many o0 o1 o4 o8 o9 o10 o11 o12 o13 o14 o15 (some (.ref p2)) (some (.ref p1)) o18 o19 o20 o21 o22) ∧ Kp H H' ∧ H' p2 = some (.lst []) ∧ H' p1 = some (.dT (tblV ((L.take i).map (·.2)) fun _ => .int 0)))
    ⟨⟨_, rfl⟩, k3, h2, h1⟩ (fun i σ H' _ pv => SqL.of (pv.2.1.get lw.hS)) (fun i x σ H4 H5 hi pv y => ?_) (fun σ H4 pv => ?_)
  · obtain ⟨⟨o10, rfl⟩, k4, h2, h1⟩ := pv
    obtain ⟨rfl, hx⟩ := y
    obtain ⟨q0, e0, rfl, m0⟩ := refs_get hx
    have hq := (k4.get (lw.hL q0 m0))
    have n1H : H p1 = none := n1
    repeat walk_at "rd"
    refine ⟨p1, _, rfl, dput_t (f := fun _ => V.int 0) h1 hq (nm_take (by rw [hm]; exact nd) e0) (by rw [List.length_map, List.length_take]; omega), ?_⟩
    have et : L.take (i + 1) = L.take i ++ [q0] := by rw [List.take_succ, e0]; rfl
    refine ⟨⟨_, rfl⟩, k4.mutD n1H h1, ?_, ?_⟩
    · rw [upd_ne (fun e => by rw [e, h1] at h2; cases h2)]
      exact h2
    · rw [upd_same, et, List.map_append]
      rfl
  · obtain ⟨⟨o10, rfl⟩, k4, h2, h1⟩ := pv
    rw [List.take_of_length_le (by rw [refs_len]; exact Nat.le_refl _), hm] at h1
    have lw4 := lw.kp k4
    repeat walk_at "rd"
    refine ⟨.inl ⟨rfl, _, SqL.of h2⟩, ?_⟩
    repeat walk_at "rd"
    refine ⟨_, rfl, ⟨_, SqL.of lw4.hS⟩, ?_⟩
    refine g_lcI walk_list (by rw [refs_len]; omega) (fun H' k => SqL.of (k.get lw4.hS)) (fun i => tabV n ps gs cs 0 ((gathV n ps).getD i [])) (fun Rt i x H6 H7 hi k6 y hR => ?_) (fun D0 H5 nD0 k5 hD0 => ?_)
    · obtain ⟨rfl, hx⟩ := y
      obtain ⟨q0, e0, rfl, m0⟩ := refs_get hx
      repeat walk_at "rd"
      refine ⟨rfl, ?_⟩
      repeat walk_at "rd"
      exact hR H7 (Kp.refl _)
    · rw [range_map hm] at hD0
      repeat walk_at "rd"
      refine rd_tupOfL hD0 fun z nz => ?_
      repeat walk_at "rd"
      have kz := k5.trans (Kp.new (o := .tup ((((gathV n ps).map (tabV n ps gs cs 0))).map V.int)) nz)
      have hz : (upd H5 z (.tup ((((gathV n ps).map (tabV n ps gs cs 0))).map V.int))) z = some (iv ((gathV n ps).map (tabV n ps gs cs 0))) := upd_same
      have h2z := kz.get h2
      have h1z := kz.get h1
      have k4z := k4.trans kz
      generalize upd H5 z (.tup ((((gathV n ps).map (tabV n ps gs cs 0))).map V.int)) = H6 at *
      refine rd_app h2z (by simp) ?_
      repeat walk_at "rd"
      refine ⟨many, rfl, by omega, by omega, ?_⟩
      refine g_for walk_range (fun t σ H' => ∃ (o4 o10 o18 o19 o20 o21 : Option V) (dt : Addr) (M : LP), σ = lsg a gg cc S many o0 o1 o4 o8 o9 o10 o11 o12 o13 o14 o15 (some (.ref p2)) (some (.ref dt)) o18 o19 o20 o21 o22 ∧ Kp H H' ∧ H' p2 = some (.lst (refs M)) ∧ Its H' M ∧
          M.map (·.2) = worthsV n ps gs cs (t + 1) ∧ H' dt = some (.dT (tblV (gathV n ps) fun g => .int (tabV n ps gs cs t g))))
        ⟨_, _, _, _, _, _, p1, [(z, (gathV n ps).map (tabV n ps gs cs 0))], rfl, k4z.mutL n2H h2z, upd_same, (Its.cons hz Its.nil).mut h2z, rfl, ?_⟩ (fun _ _ _ _ _ => trivial) (fun t x σ H7 H8 ht pv y => ?_) (fun σ H7 pv => ?_)
      · rw [upd_ne (fun e => by rw [e, h2z] at h1z; cases h1z)]
        exact h1z
      · obtain ⟨o4, o10, o18, o19, o20, o21, dt, M, rfl, k7, hp2, hM, hMm, hdt⟩ := pv
        obtain ⟨rfl, rfl⟩ := y
        rw [Int.toNat_natCast] at ht
        have Ml : M.length = t + 1 := by
          have := congrArg List.length hMm
          unfold worthsV at this
          rw [List.length_map, List.length_map, List.length_range] at this
          exact this
        repeat walk_at "rd"
        intro p8 n8
        repeat walk_at "rd"
        have k8 : Kp H8 (upd H8 p8 (.dT [])) := Kp.new n8
        have lw8 := lw.kp k7
        refine ⟨_, rfl, ⟨_, SqL.of (k8.get lw8.hS)⟩, ?_⟩
        refine g_for walk_list (fun i σ H' => (∃ (o4 o10 o20 o21 : Option V), σ = lsg a gg cc S many o0 o1 o4 o8 o9 o10 o11 o12 o13 o14 o15 (some (.ref p2)) (some (.ref dt)) (some (.int (0 + (t : Int)))) (some (.ref p8)) o20 o21 o22) ∧ Kp H8 H' ∧
            H' p8 = some (.dT (tblV ((L.take i).map (·.2)) fun g => .int (tabV n ps gs cs (t + 1) g))))
          ⟨⟨_, _, _, _, rfl⟩, k8, upd_same⟩ (fun i σ H' _ pv => SqL.of (pv.2.1.get lw8.hS)) (fun i x σ H9 H10 hi pv y => ?_) (fun σ H9 pv => ?_)
        · obtain ⟨⟨o4, o10, o20, o21, rfl⟩, k9, h8⟩ := pv
          obtain ⟨rfl, hx'⟩ := y
          obtain ⟨q0, e0, rfl, m0⟩ := refs_get hx'
          have gin : q0.2 ∈ gathV n ps := by rw [← hm]; exact List.mem_map_of_mem m0
          have lw10 := lw8.kp k9
          obtain ⟨b', L', w1, w2, w3, w4⟩ := lw10.gv.web
          repeat walk_at "rd"
          refine ⟨sz (show (0 : Nat) ≤ 1000 by decide), fun p9 n9 => ?_⟩
          have k10 : Kp H10 (upd H10 p9 (.lst [])) := Kp.new n9
          have w10 := k10.get w1
          repeat walk_at "rd"
          refine ⟨n, rfl, by omega, by omega, ?_⟩
          refine g_for walk_range (fun j σ H' => (∃ (o4 o21 : Option V), σ = lsg a gg cc S many o0 o1 o4 o8 o9 (some (.ref q0.1)) o11 o12 o13 o14 o15 (some (.ref p2)) (some (.ref dt)) (some (.int (0 + (t : Int)))) (some (.ref p8)) (some (.ref p9)) o21 o22) ∧ Kp H10 H' ∧
              H' p9 = some (.lst (((List.range j).map fun p : Nat => stepV ps gs cs q0.2 (p : Int) + tabV n ps gs cs t (comeV ps q0.2 (p : Int))).map V.int)))
            ⟨⟨_, _, rfl⟩, k10, upd_same⟩ (fun _ _ _ _ _ => trivial) (fun j x σ H11 H12 hj pv y => ?_) (fun σ H11 pv => ?_)
          · obtain ⟨⟨o4, o21, rfl⟩, k11, h9⟩ := pv
            obtain ⟨rfl, rfl⟩ := y
            rw [Int.toNat_natCast] at hj
            have lw12 := lw10.kp k11
            have hq12 := k11.get (lw10.hL q0 m0)
            have len0 := (gathV_mem.mp gin).1.len
            have cin := come_in ok gin (show (0 : Int) ≤ j by omega) (by omega)
            have clot := (gathV_mem.mp cin).1
            have cll := clot.len
            repeat walk_at "rd"
            refine ⟨a, q0.1, n, ps, q0.2, 0 + (j : Int), rfl, lw12.gv.web, ok, hq12, by omega, fun d H13 k13 hd => ?_⟩
            rw [Int.zero_add] at hd
            have h9' := k13.get h9
            have lw13 := lw12.kp k13
            repeat walk_at "rd"
            refine ⟨.inl ⟨rfl, _, SqL.of h9'⟩, ?_⟩
            repeat walk_at "rd"
            refine ⟨_, rfl, ⟨_, SqT.of hd⟩, ?_⟩
            refine g_lcI walk_tup (by rw [List.length_map]; omega) (fun H' k => SqT.of (k.get hd)) (fun u => at' gs ((comeV ps q0.2 (j : Int)).getD u 0)) (fun Rt u x H14 H15 hu k14 y hR => ?_) (fun D1 H14 nD1 k14 hD1 => ?_)
            · obtain ⟨rfl, hx2⟩ := y
              obtain ⟨x', e1, rfl⟩ := ints_get hx2
              have m := clot.1 x' (List.mem_of_getElem? e1)
              have hg15 := k14.get lw13.gv.hgs
              have a1 := at_get (xs := gs) m.1 (by omega)
              repeat walk_at "rd"
              refine ⟨rfl, ?_⟩
              repeat walk_at "rd"
              have := hR H15 (Kp.refl _)
              rw [List.getD_eq_getElem?_getD, e1] at this
              exact this
            · have lw14 := lw13.kp k14
              have hc14 := lw14.gv.hcs
              have hd14 := k14.get hd
              have kk := (k8.trans (Kp.refl _))
              have hdt14 := (k9.trans (k11.trans (k13.trans k14))).get hdt
              have h9_14 := k14.get h9'
              have a1 : atI (cs.map V.int) (0 + (j : Int)) = some (.int (at' cs j)) := by rw [Int.zero_add]; exact at_get (by omega) (by omega)
              repeat walk_at "rd"
              refine ⟨D1, _, rfl, SqL.of hD1, ?_⟩
              rw [List.length_map, ← preSum_list, ← gain_pre]
              repeat walk_at "rd"
              refine ⟨dt, _, rfl, dget_t hdt14 hd14 cin, ?_⟩
              repeat walk_at "rd"
              refine rd_app h9_14 (by rw [List.length_map, List.length_map, List.length_range]; omega) ?_
              refine ⟨⟨_, _, rfl⟩, (k11.trans (k13.trans k14)).mutL n9 h9_14, ?_⟩
              rw [upd_same, List.range_succ, List.map_append, List.map_append]
              rfl
          · obtain ⟨⟨o4, o21, rfl⟩, k11, h9⟩ := pv
            rw [Int.toNat_natCast] at h9
            repeat walk_at "rd"
            refine ⟨p9, _, rfl, SqL.of h9, by rw [List.length_map, List.length_range]; omega, fun m hm1 hm2 => ?_⟩
            rw [mx_eq hm1 hm2, ← tabV_succ]
            have h8' := k11.get h8
            have hq11 := k11.get (lw10.hL q0 m0)
            have et : L.take (i + 1) = L.take i ++ [q0] := by rw [List.take_succ, e0]; rfl
            repeat walk_at "rd"
            refine ⟨p8, _, rfl, dput_t (f := fun g => V.int (tabV n ps gs cs (t + 1) g)) h8' hq11 (nm_take (by rw [hm]; exact nd) e0) (by rw [List.length_map, List.length_take]; omega), ?_⟩
            refine ⟨⟨_, _, _, _, rfl⟩, (k9.trans k11).mutD n8 h8', ?_⟩
            rw [upd_same, et, List.map_append]
            rfl
        · obtain ⟨⟨o4, o10, o20, o21, rfl⟩, k9, h8⟩ := pv
          rw [List.take_of_length_le (by rw [refs_len]; exact Nat.le_refl _), hm] at h8
          have lw9 := lw8.kp k9
          have hp2' := k9.get hp2
          repeat walk_at "rd"
          refine ⟨.inl ⟨rfl, _, SqL.of hp2'⟩, ?_⟩
          repeat walk_at "rd"
          refine ⟨_, rfl, ⟨_, SqL.of lw9.hS⟩, ?_⟩
          refine g_lcI walk_list (by rw [refs_len]; omega) (fun H' k => SqL.of (k.get lw9.hS)) (fun i => tabV n ps gs cs (t + 1) ((gathV n ps).getD i [])) (fun Rt i x H10 H11 hi k10 y hR => ?_) (fun D2 H10 nD2 k10 hD2 => ?_)
          · obtain ⟨rfl, hx⟩ := y
            obtain ⟨q0, e0, rfl, m0⟩ := refs_get hx
            have e2 : (gathV n ps).getD i [] = q0.2 := by
              rw [← hm, List.getD_eq_getElem?_getD, List.getElem?_map, e0]
              rfl
            have h8' := k10.get h8
            have hq' := k10.get (lw9.hL q0 m0)
            repeat walk_at "rd"
            refine ⟨rfl, ?_⟩
            repeat walk_at "rd"
            refine ⟨p8, _, rfl, dget_t h8' hq' (by rw [← hm]; exact List.mem_map_of_mem m0), ?_⟩
            have := hR H11 (Kp.refl _)
            rw [e2] at this
            exact this
          · rw [range_map hm] at hD2
            repeat walk_at "rd"
            refine rd_tupOfL hD2 fun z2 nz2 => ?_
            repeat walk_at "rd"
            have kz2 := k10.trans (Kp.new (o := .tup ((((gathV n ps).map (tabV n ps gs cs (t + 1)))).map V.int)) nz2)
            have hz2 : (upd H10 z2 (.tup ((((gathV n ps).map (tabV n ps gs cs (t + 1)))).map V.int))) z2 = some (iv ((gathV n ps).map (tabV n ps gs cs (t + 1)))) := upd_same
            have hp2z := kz2.get hp2'
            have h8z := kz2.get h8
            have hMz := hM.kp (k9.trans kz2)
            have kfin := k7.trans (k9.trans kz2)
            generalize upd H10 z2 (.tup ((((gathV n ps).map (tabV n ps gs cs (t + 1)))).map V.int)) = H11 at *
            refine rd_app hp2z (by rw [refs_len]; omega) ?_
            refine ⟨_, _, _, _, _, _, p8, M ++ [(z2, (gathV n ps).map (tabV n ps gs cs (t + 1)))], rfl, kfin.mutL n2H hp2z, ?_, (hMz.snoc hz2).mut hp2z, ?_, ?_⟩
            · rw [upd_same, refs_app]
              rfl
            · rw [List.map_append, hMm]
              unfold worthsV
              rw [List.range_succ (n := t + 1), List.map_append]
              rfl
            · rw [upd_ne (fun e => by rw [e, hp2z] at h8z; cases h8z)]
              exact h8z
      · obtain ⟨o4, o10, o18, o19, o20, o21, dt, M, rfl, k7, hp2, hM, hMm, hdt⟩ := pv
        rw [Int.toNat_natCast] at hMm
        have lw7 := lw.kp k7
        repeat walk_at "rd"
        refine ⟨a, gg, cc, n, ps, gs, cs, many, rfl, lw7.gv, m1, m8, fun d H8 L2 k8 hd hL2 hL2m => ?_⟩
        have hp2' := k8.get hp2
        repeat walk_at "rd"
        refine rd_tupOfL hp2' fun z2 nz2 => ?_
        repeat walk_at "rd"
        have kz := Kp.new (o := .tup (refs M)) nz2
        refine al2 (kz.get hd) upd_same (hL2.kp kz) (hM.kp (k8.trans kz)) (by rw [hL2m, hMm]; rfl) ?_ (fun q0 mq => ?_) fun H' k' => q H' (k7.trans (k8.trans (kz.trans k')))
        · have := congrArg List.length hL2m
          rw [List.length_map, List.length_map, List.length_range] at this
          omega
        · have h1 : q0.2 ∈ L2.map (·.2) := List.mem_map_of_mem mq
          rw [hL2m] at h1
          obtain ⟨t, _, e⟩ := List.mem_map.mp h1
          rw [← e, List.length_map]
          have := gathV_len (n := n) ps ok.hi
          omega
end
end Fo
set_option maxHeartbeats 4000000
/-! FoV: the values that the law shows. -/
namespace Fo
open PySem PySem.Spec PyProof.Rows L2 GxR
local macro_rules | `(tactic| walk_at "hp") => `(tactic| first
  | assumption
  | exact upd_same
  | (refine' upd_old ?n ?h; (case n => assumption); (case h => walk_at "hp"))
  | (refine' Kp.get ?k ?h rfl; (case k => assumption); (case h => walk_at "hp")))
local macro_rules | `(tactic| walk_at "kp") => `(tactic| first
  | exact Kp.refl _
  | assumption
  | exact Kp.new (by assumption)
  | (refine' Kp.trans ?a ?b; (case b => first | assumption | exact Kp.new (by assumption)); (case a => walk_at "kp")))
local macro_rules | `(tactic| walk_at "rd") => `(tactic| first
  | ((with_reducible show tVar _ _ _ _); refine ⟨_, rfl, ?_⟩)
  | ((with_reducible show tC _ _ _ _); refine rd_c ?_)
  | ((with_reducible show tSeq _ _ _ _ _); refine rd_seq ?_)
  | ((with_reducible show tAsg _ _ _ _ _); refine rd_asg ?_)
  | ((with_reducible show gName _ _ _ _ _); refine rd_name ?_)
  | ((with_reducible show tRet _ _ _ _); refine rd_ret ?_)
  | ((with_reducible show tOp _ _ _ _ _ _); refine rd_op ?_)
  | ((with_reducible show tCons _ _ _ _ _); refine rd_cons ?_)
  | ((with_reducible show tNil _ _ _); refine rd_nil ?_)
  | ((with_reducible show tCal _ _ _ _ _); refine rd_cal ?_)
  | ((with_reducible show tCB _ _ _ _ _); refine rd_cb ?_)
  | ((with_reducible show tTest _ _ _ _); refine rd_test ?_)
  | ((with_reducible show tB _ _ _ _); refine rd_B ?_)
  | ((with_reducible show tNot _ _ _ _); refine rd_not ?_)
  | ((with_reducible show tAnd _ _ _ _ _); refine rd_and ?_)
  | ((with_reducible show tOr _ _ _ _ _); refine rd_or ?_)
  | ((with_reducible show tAndV _ _ _ _ _); refine rd_andV ?_)
  | ((with_reducible show tNotV _ _ _ _); refine rd_notV ?_)
  | ((with_reducible show tChain _ _ _ _ _ _ _ _); refine rd_chain ?_)
  | ((with_reducible show tIfS _ _ _ _ _ _); refine rd_ifs ?_)
  | ((with_reducible show tDrop _ _ _ _); refine rd_drop ?_)
  | ((with_reducible show tFor _ _ _ _ _ _); refine rd_forG ?_)
  | ((with_reducible show iTup _ _ _ _ _); refine rd_itup ?_)
  | ((with_reducible show iList _ _ _ _ _); refine rd_ilist ?_)
  | ((with_reducible show rI0 _ _ _ _ _); refine ⟨_, _, rfl, rfl, ?_⟩)
  | ((with_reducible show rAdd _ _ _ _); refine ⟨_, _, rfl, rfl, ?_⟩)
  | ((with_reducible show rSub _ _ _ _); refine ⟨_, _, rfl, rfl, ?_⟩)
  | ((with_reducible show rIxT _ _ _ _ _); refine' rd_ix ?h ?a ?_; (case h => walk_at "hp"); (case a => first | rfl | assumption))
  | ((with_reducible show rIxL _ _ _ _ _); refine' rd_ixL ?h ?a ?_; (case h => walk_at "hp"); (case a => first | rfl | assumption))
  | ((with_reducible show tTup _ _ _ _); refine rd_tup ?_)
  | ((with_reducible show tLst _ _ _ _); refine rd_lst ?_)
  | ((with_reducible show tAllG _ _ _ _ _ _ _ _); refine rd_allG ?_)
  | ((with_reducible show tAnyG _ _ _ _ _ _ _ _); refine rd_anyG ?_)
  | ((with_reducible show tSumG _ _ _ _ _ _ _ _); refine rd_sumG ?_)
  | ((with_reducible show tLc _ _ _ _ _ _ _ _); refine rd_lc ?_)
  | ((with_reducible show tNext _ _ _); refine rd_next ?_)
  | ((with_reducible show tBreak _ _ _); refine rd_break ?_)
  | ((with_reducible show tDGet _ _ _ _ _); refine rd_dget ?_)
  | ((with_reducible show tDNewT _ _ _); refine rd_dnew ?_)
  | ((with_reducible show StX.tStar _ _ _ _ _ _); refine rd_star ?_)
  | ((with_reducible show tSl _ _ _ _ _ _ _); refine rd_sl ?_)
  | ((with_reducible show sDPut _ _ _ _ _ _); refine rd_dput ?_)
  | ((with_reducible show tBM _ _ _ _ _ _ _ _); refine rd_bm ?_)
  | ((with_reducible show tPar _ _ _ _ _ _); refine rd_par ?_)
  | ((with_reducible show tPar3 _ _ _ _ _ _ _); refine rd_par3 ?_)
  | ((with_reducible show iRng1 _ _ _ _); refine rd_rng1 ?_)
  | ((with_reducible show tUn _ _ _ _ _); refine rd_un ?_)
  | ((with_reducible show rU _ _ _ _); refine ⟨_, rfl, ?_⟩)
  | ((with_reducible show tPart _ _ _ _); refine rd_part ?_)
  | ((with_reducible show tNoPart _ _ _); refine rd_nopart ?_)
  | ((with_reducible show iRng2 _ _ _ _); refine rd_rng2 ?_)
  | ((with_reducible show iRng3 _ _ _ _); refine rd_rng3 ?_)
  | ((with_reducible show gSub _ _ _ _ _ _ _); refine rd_gsub ?_)
  | ((with_reducible show tDcT _ _ _ _ _ _ _ _); refine rd_dcT ?_)
  | ((with_reducible show tYes _ _ _); refine rd_yes ?_)
  | ((with_reducible show rLenS _ _ _ _); refine' rd_len ?h ?_; (case h => first | (refine' Or.inr (SqT.of ?z); (case z => walk_at "hp")) | (refine' Or.inl (SqL.of ?z); (case z => walk_at "hp"))))
  | ((with_reducible show gTup _ _ _ _ _ _ _); refine' rd_gtup ?h ?l ?_; (case h => refine' SqT.of ?z; (case z => walk_at "hp")); (case l => rfl))
  | ((with_reducible show gCons _ _ _ _ _ _); refine ⟨_, _, rfl, ?_⟩)
  | ((with_reducible show gNil _ _ _ _); refine ⟨rfl, ?_⟩))

/-- VKind, and no list of it is the row of draws -/
def VKl (l : Addr) (H : Hp) (x : V) : Prop := x = .non ∨ (∃ i, x = .int i) ∨ (∃ a ys, x = .ref a ∧ a ≠ l ∧ H a = some (.lst ys)) ∨ (∃ a b r ys, x = .ref a ∧ H a = some (.tup [.int b, .ref r]) ∧ r ≠ l ∧ H r = some (.lst ys)) ∨
  ∃ a b r, ∃ xs : List Int, x = .ref a ∧ H a = some (.tup [.int b, .ref r]) ∧ H r = some (iv xs) ∧ xs.length ≤ 30
theorem VKl.kind {l : Addr} {H : Hp} {x : V} (h : VKl l H x) : ∃ d, VKind H x d := by
  rcases h with h | h | ⟨a, ys, e, _, h⟩ | ⟨a, b, r, ys, e, h1, _, h2⟩ | ⟨a, b, r, xs, e, h1, h2, h3⟩
  · exact ⟨none, .inl h⟩
  · exact ⟨none, .inr (.inl h)⟩
  · exact ⟨none, .inr (.inr ⟨a, ys, e, h⟩)⟩
  · exact ⟨some (b, none), a, r, ys, e, h1, h2⟩
  · exact ⟨some (b, some xs), a, r, e, h1, h2, h3⟩
theorem VKl.kp {l : Addr} {H H' : Hp} {x : V} (h : VKl l H x) (k : Kp H H') : VKl l H' x := by
  rcases h with h | h | ⟨a, ys, e, n, h⟩ | ⟨a, b, r, ys, e, h1, n, h2⟩ | ⟨a, b, r, xs, e, h1, h2, h3⟩
  · exact .inl h
  · exact .inr (.inl h)
  · exact .inr (.inr (.inl ⟨a, ys, e, n, k.get h⟩))
  · exact .inr (.inr (.inr (.inl ⟨a, b, r, ys, e, k.get h1, n, k.get h2⟩)))
  · exact .inr (.inr (.inr (.inr ⟨a, b, r, xs, e, k.get h1, k.get h2, h3⟩)))
theorem VKl.kx {K : PySem.W.Frag} {sc : Addr} {cells : List Int} {l : Addr} {H H' : Hp} {x : V} (h : VKl l H x) (k : Kx l H H') (rs : RowS K sc cells H l) : VKl l H' x := by
  have tp : ∀ {a : Addr} {ys : List V}, H a = some (.tup ys) → H' a = some (.tup ys) := fun {a ys} h => k.keep a _ (rs.ne h fun xs z => by cases z) h rfl
  rcases h with h | h | ⟨a, ys, e, n, h⟩ | ⟨a, b, r, ys, e, h1, n, h2⟩ | ⟨a, b, r, xs, e, h1, h2, h3⟩
  · exact .inl h
  · exact .inr (.inl h)
  · exact .inr (.inr (.inl ⟨a, ys, e, n, k.keep a _ n h rfl⟩))
  · exact .inr (.inr (.inr (.inl ⟨a, b, r, ys, e, tp h1, n, k.keep r _ n h2 rfl⟩)))
  · exact .inr (.inr (.inr (.inr ⟨a, b, r, xs, e, tp h1, tp h2, h3⟩)))
theorem vk_pair {l : Addr} {H : Hp} {p r : Addr} {b : Int} {xs : List Int} (h : H p = some (.tup [.int b, .ref r])) (hr : H r = some (iv xs)) (hl : xs.length ≤ 30) : VKl l H (.ref p) := .inr (.inr (.inr (.inr ⟨p, b, r, xs, rfl, h, hr, hl⟩)))
section
variable {K : PySem.W.Frag} {T : List Addr}
/-- the facts of the law's middle part -/
structure Lv (T : List Addr) (H : Hp) (a gg cc S : Addr) (n : Nat) (ps : List (Int × Int)) (gs cs : List Int) (L : LP) (many : Nat) (R b fo wo : Addr) (LR : LP) (g row : List Int) : Prop where
  lw : Lw T H a gg cc S n ps gs cs L
  m1 : 1 ≤ many
  m3 : many ≤ 3
  hR : H R = some (.lst (refs LR))
  hLR : Its H LR
  hm : LR.map (·.2) = rowsV n many
  hb : H b = some (iv g)
  hg : g ∈ gathV n ps
  hfo : H fo = some (.tup [.int (tabV n ps gs cs many g), .ref wo])
  hwo : H wo = some (iv row)
  rl : row.length = many
  rx : ∀ x ∈ row, 0 ≤ x ∧ x < n
  rt : totalV ps gs cs g row = tabV n ps gs cs many g
variable {H H' : Hp} {a gg cc S : Addr} {n : Nat} {ps : List (Int × Int)} {gs cs : List Int} {L : LP} {many : Nat} {R b fo wo : Addr} {LR : LP} {g row : List Int}
theorem Lv.kp (h : Lv T H a gg cc S n ps gs cs L many R b fo wo LR g row) (k : Kp H H') : Lv T H' a gg cc S n ps gs cs L many R b fo wo LR g row :=
  ⟨h.lw.kp k, h.m1, h.m3, k.get h.hR, h.hLR.kp k, h.hm, k.get h.hb, h.hg, k.get h.hfo, k.get h.hwo, h.rl, h.rx, h.rt⟩
theorem RowS.neR {sc l S : Addr} {cells : List Int} {L : LP} (rs : RowS K sc cells H l) (h : H S = some (.lst (refs L))) : S ≠ l := by
  obtain ⟨pos, seed, rest, hl, _⟩ := rs
  intro e
  rw [e, hl] at h
  injection h with h
  injection h with h
  unfold refs at h
  cases L with
  | nil => cases h
  | cons p L =>
    injection h with _ h
    cases L with
    | nil => cases h
    | cons q L => injection h with h; cases h
theorem Web.kx {sc l a : Addr} {cells : List Int} {n : Nat} {ps : List (Int × Int)} (h : Web H a n ps) (k : Kx l H H') (rs : RowS K sc cells H l) : Web H' a n ps := by
  obtain ⟨b, L, h1, h2, h3, h4⟩ := h
  exact ⟨b, L, k.keep _ _ (rs.ne h1 fun xs z => by cases z) h1 rfl, k.keep _ _ (rs.ne h2 fun xs z => by cases z) h2 rfl, h3, its_x h4 k rs⟩
theorem Kx.tup {sc l a : Addr} {cells : List Int} {ys : List V} (k : Kx l H H') (rs : RowS K sc cells H l) (h : H a = some (.tup ys)) : H' a = some (.tup ys) := k.keep _ _ (rs.ne h fun xs z => by cases z) h rfl
theorem Lw.kx {sc l : Addr} {cells : List Int} (h : Lw T H a gg cc S n ps gs cs L) (k : Kx l H H') (rs : RowS K sc cells H l) : Lw T H' a gg cc S n ps gs cs L :=
  ⟨⟨fun P hP => k.tab P (h.gv.tb P hP), h.gv.web.kx k rs, h.gv.ok, k.tup rs h.gv.hgs, h.gv.gl, h.gv.gx, k.tup rs h.gv.hcs, h.gv.cl, h.gv.cx⟩, k.keep _ _ (rs.neR h.hS) h.hS rfl, its_x h.hL k rs, h.hm⟩
theorem Lv.kx {sc l : Addr} {cells : List Int} (h : Lv T H a gg cc S n ps gs cs L many R b fo wo LR g row) (k : Kx l H H') (rs : RowS K sc cells H l) : Lv T H' a gg cc S n ps gs cs L many R b fo wo LR g row :=
  ⟨h.lw.kx k rs, h.m1, h.m3, k.keep _ _ (rs.neR h.hR) h.hR rfl, its_x h.hLR k rs, h.hm, k.tup rs h.hb, h.hg, k.tup rs h.hfo, k.tup rs h.hwo, h.rl, h.rx, h.rt⟩
theorem cut_ints (xs : List Int) (lo hi : Option Int) : ∃ ys : List Int, cutV (xs.map V.int) lo hi = ys.map V.int ∧ ys.length ≤ xs.length := by
  refine ⟨(xs.drop (HT.sIx (xs.map V.int).length 0 lo)).take (HT.sIx (xs.map V.int).length (xs.map V.int).length hi - HT.sIx (xs.map V.int).length 0 lo), ?_, ?_⟩
  · unfold cutV
    rw [List.map_take, List.map_drop]
  · rw [List.length_take, List.length_drop]
    omega
theorem cut_refs (L : LP) (lo hi : Option Int) : ∃ M : LP, cutV (refs L) lo hi = refs M ∧ (∀ q ∈ M, q ∈ L) ∧ M.length ≤ L.length := by
  refine ⟨(L.drop (HT.sIx (refs L).length 0 lo)).take (HT.sIx (refs L).length (refs L).length hi - HT.sIx (refs L).length 0 lo), ?_, fun q hq => List.mem_of_mem_drop (List.mem_of_mem_take hq), ?_⟩
  · unfold cutV refs
    rw [List.map_take, List.map_drop]
  · rw [List.length_take, List.length_drop]
    omega
theorem newX {H : Hp} {p : Addr} (n : H p = none) (o : HO) : ∃ H1, upd H p o = H1 ∧ Kp H H1 ∧ H1 p = some o := ⟨_, rfl, Kp.new n, upd_same⟩
theorem rep_ints (k : Nat) (x : Int) : (List.replicate k [V.int x]).flatten = (List.replicate k x).map V.int := by
  induction k with
  | zero => rfl
  | succ k ih => rw [List.replicate_succ, List.replicate_succ, List.flatten_cons, ih]; rfl
theorem rep_u {z : Addr} {x : Int} {k : Nat} {Q : VK} (hz : H z = some (.tup [.int x])) (h1 : 1 ≤ k) (h2 : k ≤ 8) (q : ∀ d H', Kp H H' → H' d = some (iv (List.replicate k x)) → Q (.ref d) H') : rRepU K (.ref z) (.int k) H Q := by
  refine ⟨z, k, _, rfl, rfl, SqT.of hz, by simp, by omega, by omega, by simp, fun e => ?_, fun _ p np => ?_⟩
  · have : k = 1 := by omega
    subst this
    exact q z H (Kp.refl _) hz
  · refine q p _ (Kp.new np) ?_
    rw [upd_same, Int.toNat_natCast, rep_ints]
theorem rd_revT {te : TE} {σ : L2.St} {Q : VK} (q : te σ H fun x H1 => ∃ a xs, x = .ref a ∧ SqT K H1 a xs ∧ ∀ p, H1 p = none → Q (.ref p) (upd H1 p (.tup xs.reverse))) : tRevT K te σ H Q := q
theorem any_rows (L : List (List Int)) (xs : List Int) : ((L.map pI).any fun z => PyData.eqv z (pI xs)) = decide (xs ∈ L) := by
  rw [Bool.eq_iff_iff, List.any_eq_true, decide_eq_true_eq]
  constructor
  · rintro ⟨z, hz, e⟩
    obtain ⟨ys, hy, rfl⟩ := List.mem_map.mp hz
    rw [eqv_pI, decide_eq_true_eq] at e
    rw [← e]
    exact hy
  · intro h
    exact ⟨pI xs, List.mem_map_of_mem h, by rw [eqv_pI]; exact dt rfl⟩
theorem lawV {D : Ends} {sc l : Addr} {cells : List Int} {o0 o4 o10 o14 o15 o16 o17 o18 o19 o20 o21 o22 : Option V}
    (lv : Lv T H a gg cc S n ps gs cs L many R b fo wo LR g row) (rs : RowS K sc cells H l) (q : ∀ H', D.rt (.bl true) H') :
    tLawV K T D (lsg a gg cc S many o0 (some (.ref l)) o4 (some (.ref R)) (some (.ref b)) o10 (some (.int (tabV n ps gs cs many g))) (some (.ref fo)) (some (.ref wo)) o14 o15 o16 o17 o18 o19 o20 o21 o22) H := by
  have m1 := lv.m1
  have m3 := lv.m3
  have rl := lv.rl
  generalize hB : tabV n ps gs cs many g = B at *
  unfold tLawV
  repeat walk_at "rd"
  have hfo : H fo = some (.tup [.int B, .ref wo]) := by rw [← hB]; exact lv.hfo
  refine ⟨fo, _, rfl, .inr (SqT.of hfo), fun z1 n1 => ?_⟩
  obtain ⟨H1, e1, k1, h1⟩ := newX n1 (.lst [V.int B, .ref wo])
  rw [e1]
  have v1 : VKl l H1 (.ref z1) := .inr (.inr (.inl ⟨z1, _, rfl, rs.free n1, h1⟩))
  have v0 : VKl l H1 (.ref fo) := vk_pair (k1.get hfo) (k1.get lv.hwo) (by omega)
  have lv := lv.kp k1
  have rs := rs.kp k1
  repeat walk_at "rd"
  refine ⟨wo, _, rfl, .inr (SqT.of lv.hwo), fun z2 n2 => ?_⟩
  obtain ⟨H2, e2, k2, h2⟩ := newX n2 (.lst (row.map V.int))
  rw [e2]
  have nl2 := rs.free n2
  have lv := lv.kp k2
  have rs := rs.kp k2
  have v0 := v0.kp k2
  have v1 := v1.kp k2
  repeat walk_at "rd"
  refine ⟨sz (show (2 : Nat) ≤ 1000 by decide), fun z3 n3 => ?_⟩
  obtain ⟨H3, e3, k3, h3⟩ := newX n3 (.tup [V.int B, .ref z2])
  rw [e3]
  have v3 : VKl l H3 (.ref z3) := .inr (.inr (.inr (.inl ⟨z3, B, z2, _, rfl, h3, nl2, k3.get h2⟩)))
  have lv := lv.kp k3
  have rs := rs.kp k3
  have v0 := v0.kp k3
  have v1 := v1.kp k3
  repeat walk_at "rd"
  refine ⟨sz (show (2 : Nat) ≤ 1000 by decide), fun z4 n4 => ?_⟩
  obtain ⟨H4, e4, k4, h4⟩ := newX n4 (.tup [V.int (B + 1), .ref wo])
  rw [e4]
  have lv := lv.kp k4
  have rs := rs.kp k4
  have v0 := v0.kp k4
  have v1 := v1.kp k4
  have v3 := v3.kp k4
  have v4 : VKl l H4 (.ref z4) := vk_pair h4 lv.hwo (by omega)
  repeat walk_at "rd"
  refine ⟨1, rfl, ?_⟩
  repeat walk_at "rd"
  obtain ⟨ys, ey, yl⟩ := cut_ints row (some 1) none
  refine ⟨wo, _, rfl, SqT.of lv.hwo, fun hw => ?_, fun _ z5 n5 => ?_⟩
  · exfalso
    have e := hw.1
    rw [show (1 : Int) = ((1 : Nat) : Int) from rfl, HT.sIx_nat, List.length_map] at e
    omega
  rw [ey]
  obtain ⟨H5, e5, k5, h5⟩ := newX n5 (.tup (ys.map V.int))
  rw [e5]
  have lv := lv.kp k5
  have rs := rs.kp k5
  have v0 := v0.kp k5
  have v1 := v1.kp k5
  have v3 := v3.kp k5
  have v4 := v4.kp k5
  repeat walk_at "rd"
  refine ⟨sz (show (2 : Nat) ≤ 1000 by decide), fun z6 n6 => ?_⟩
  obtain ⟨H6, e6, k6, h6⟩ := newX n6 (.tup [V.int B, .ref z5])
  rw [e6]
  have lv := lv.kp k6
  have rs := rs.kp k6
  have v0 := v0.kp k6
  have v1 := v1.kp k6
  have v3 := v3.kp k6
  have v4 := v4.kp k6
  have v6 : VKl l H6 (.ref z6) := vk_pair h6 (k6.get h5) (by omega)
  repeat walk_at "rd"
  refine ⟨sz (show (1 : Nat) ≤ 1000 by decide), fun z7 n7 => ?_⟩
  obtain ⟨H7, e7, k7, h7⟩ := newX n7 (.tup [V.int 0])
  rw [e7]
  have lv := lv.kp k7
  refine cat1 lv.hwo h7 (by omega) fun z8 H8 k8 h8 => ?_
  have k78 := k7.trans k8
  have lv := lv.kp k8
  have rs := rs.kp k78
  have v0 := v0.kp k78
  have v1 := v1.kp k78
  have v3 := v3.kp k78
  have v4 := v4.kp k78
  have v6 := v6.kp k78
  repeat walk_at "rd"
  refine ⟨sz (show (2 : Nat) ≤ 1000 by decide), fun z9 n9 => ?_⟩
  obtain ⟨H9, e9, k9, h9⟩ := newX n9 (.tup [V.int B, .ref z8])
  rw [e9]
  have lv := lv.kp k9
  have rs := rs.kp k9
  have v0 := v0.kp k9
  have v1 := v1.kp k9
  have v3 := v3.kp k9
  have v4 := v4.kp k9
  have v6 := v6.kp k9
  have v9 : VKl l H9 (.ref z9) := vk_pair h9 (k9.get h8) (by rw [List.length_append, List.length_singleton]; omega)
  repeat walk_at "rd"
  refine ⟨sz (show (0 : Nat) ≤ 1000 by decide), fun z10 n10 => ?_⟩
  obtain ⟨H10, e10, k10, h10⟩ := newX n10 (.tup [])
  rw [e10]
  have lv := lv.kp k10
  have rs := rs.kp k10
  have v0 := v0.kp k10
  have v1 := v1.kp k10
  have v3 := v3.kp k10
  have v4 := v4.kp k10
  have v6 := v6.kp k10
  have v9 := v9.kp k10
  repeat walk_at "rd"
  refine ⟨sz (show (2 : Nat) ≤ 1000 by decide), fun z11 n11 => ?_⟩
  obtain ⟨H11, e11, k11, h11⟩ := newX n11 (.tup [V.int B, .ref z10])
  rw [e11]
  have lv := lv.kp k11
  have rs := rs.kp k11
  have v0 := v0.kp k11
  have v1 := v1.kp k11
  have v3 := v3.kp k11
  have v4 := v4.kp k11
  have v6 := v6.kp k11
  have v9 := v9.kp k11
  have v11 : VKl l H11 (.ref z11) := vk_pair (xs := []) h11 (k11.get h10) (Nat.zero_le _)
  obtain ⟨b', L', w1, w2, w3, w4⟩ := lv.lw.gv.web
  repeat walk_at "rd"
  refine ⟨sz (show (1 : Nat) ≤ 1000 by decide), fun z12 n12 => ?_⟩
  obtain ⟨H12, e12, k12, h12⟩ := newX n12 (.tup [V.int (n : Int)])
  rw [e12]
  repeat walk_at "rd"
  have k12' := k12
  have lv := lv.kp k12
  refine rep_u h12 m1 (by omega) fun zr H13 k13 h13 => ?_
  have kk := k12.trans k13
  have lv := lv.kp k13
  have rs := rs.kp kk
  have v0 := v0.kp kk
  have v1 := v1.kp kk
  have v3 := v3.kp kk
  have v4 := v4.kp kk
  have v6 := v6.kp kk
  have v9 := v9.kp kk
  have v11 := v11.kp kk
  repeat walk_at "rd"
  refine ⟨sz (show (2 : Nat) ≤ 1000 by decide), fun z13 n13 => ?_⟩
  obtain ⟨H14, e14, k14, h14⟩ := newX n13 (.tup [V.int B, .ref zr])
  rw [e14]
  have lv := lv.kp k14
  have rs := rs.kp k14
  have v0 := v0.kp k14
  have v1 := v1.kp k14
  have v3 := v3.kp k14
  have v4 := v4.kp k14
  have v6 := v6.kp k14
  have v9 := v9.kp k14
  have v11 := v11.kp k14
  have v13 : VKl l H14 (.ref z13) := vk_pair h14 (k14.get h13) (by rw [List.length_replicate]; omega)
  repeat walk_at "rd"
  refine ⟨sz (show (10 : Nat) ≤ 1000 by decide), fun V0 nV => ?_⟩
  have vs0 : ∀ x ∈ [V.ref fo, .ref z1, .ref z3, .ref z4, .ref z6, .ref z9, .ref z11, .non, .int 3, .ref z13], VKl l H14 x := by
    intro x hx
    simp only [List.mem_cons, List.mem_nil_iff, or_false] at hx
    rcases hx with rfl | rfl | rfl | rfl | rfl | rfl | rfl | rfl | rfl | rfl
    · exact v0
    · exact v1
    · exact v3
    · exact v4
    · exact v6
    · exact v9
    · exact v11
    · exact .inl rfl
    · exact .inr (.inl ⟨3, rfl⟩)
    · exact v13
  have len0 : [V.ref fo, .ref z1, .ref z3, .ref z4, .ref z6, .ref z9, .ref z11, .non, .int 3, .ref z13].length = 10 := rfl
  generalize [V.ref fo, .ref z1, .ref z3, .ref z4, .ref z6, .ref z9, .ref z11, .non, .int 3, .ref z13] = vals at vs0 len0 ⊢
  obtain ⟨H15, e15, k15, h15⟩ := newX nV (.lst vals)
  rw [e15]
  have nVl := rs.free nV
  have lv := lv.kp k15
  have rs := rs.kp k15
  have vs0 : ∀ x ∈ vals, VKl l H15 x := fun x hx => (vs0 x hx).kp k15
  clear v0 v1 v3 v4 v6 v9 v11 v13
  have L64 : LR.length ≤ 64 := by
    have := rowsV_64 (n := n) (t := many) lv.lw.gv.ok.hi m3
    rw [← lv.hm, List.length_map] at this
    exact this
  have L1 : 1 ≤ LR.length := by
    have h1 : row ∈ rowsV n many := (rowsV_mem many row).mpr ⟨rl, lv.rx⟩
    rw [← lv.hm] at h1
    obtain ⟨q0, m0, _⟩ := List.mem_map.mp h1
    exact List.length_pos_of_mem m0
  have lr30 : ∀ q ∈ LR, q.2.length ≤ 30 := fun q0 m0 => by
    have h1 := (rowsV_mem many q0.2).mp (by rw [← lv.hm]; exact List.mem_map_of_mem m0)
    omega
  repeat walk_at "rd"
  refine ⟨l, R, LR, sc, cells, rfl, rs, Ne.symm (rs.neR lv.hR), lv.hR, L1, by omega, fun pq H16 mpq k16 rs16 => ?_⟩
  have lv := lv.kx k16 rs
  have vs0 : ∀ x ∈ vals, VKl l H16 x := fun x hx => (vs0 x hx).kx k16 rs
  have h16 := k16.keep _ _ nVl h15 rfl
  clear rs
  repeat walk_at "rd"
  refine ⟨sz (show (2 : Nat) ≤ 1000 by decide), fun y1 ny1 => ?_⟩
  obtain ⟨H17, e17, k17, h17⟩ := newX ny1 (.tup [V.int B, .ref pq.1])
  rw [e17]
  have lv := lv.kp k17
  have u1 : VKl l H17 (.ref y1) := vk_pair h17 (lv.hLR pq mpq) (lr30 pq mpq)
  repeat walk_at "rd"
  refine rd_revT ?_
  repeat walk_at "rd"
  refine ⟨wo, _, rfl, SqT.of lv.hwo, fun y2 ny2 => ?_⟩
  rw [← List.map_reverse]
  obtain ⟨H18, e18, k18, h18⟩ := newX ny2 (.tup (row.reverse.map V.int))
  rw [e18]
  repeat walk_at "rd"
  refine ⟨sz (show (2 : Nat) ≤ 1000 by decide), fun y3 ny3 => ?_⟩
  obtain ⟨H19, e19, k19, h19⟩ := newX ny3 (.tup [V.int B, .ref y2])
  rw [e19]
  have u2 : VKl l H19 (.ref y3) := vk_pair h19 (k19.get h18) (by rw [List.length_reverse]; omega)
  repeat walk_at "rd"
  refine ⟨sz (show (2 : Nat) ≤ 1000 by decide), fun y4 ny4 => ?_⟩
  obtain ⟨H20, e20, k20, h20⟩ := newX ny4 (.lst [V.ref y1, .ref y3])
  rw [e20]
  have kq := k17.trans (k18.trans (k19.trans k20))
  have h16' := kq.get h16
  refine ⟨V0, y4, _, _, rfl, rfl, h16', h20, sz (by rw [len0]; show (12 : Nat) ≤ 1000; decide), fun y5 ny5 => ?_⟩
  obtain ⟨H21, e21, k21, h21⟩ := newX ny5 (.lst (vals ++ [V.ref y1, .ref y3]))
  rw [e21]
  have lv := lv.kp (k18.trans (k19.trans (k20.trans k21)))
  have vs1 : ∀ x ∈ vals ++ [V.ref y1, .ref y3], VKl l H21 x := by
    intro x hx
    rcases List.mem_append.mp hx with m | m
    · exact (vs0 x m).kp (kq.trans k21)
    · simp only [List.mem_cons, List.mem_nil_iff, or_false] at m
      rcases m with rfl | rfl
      · exact u1.kp (k18.trans (k19.trans (k20.trans k21)))
      · exact u2.kp (k20.trans k21)
  have len1 : (vals ++ [V.ref y1, .ref y3]).length = 12 := by rw [List.length_append, len0]; rfl
  generalize vals ++ [V.ref y1, .ref y3] = vals1 at vs1 len1 h21
  repeat walk_at "rd"
  refine ⟨20, rfl, ?_⟩
  obtain ⟨M, eM, mM, Ml⟩ := cut_refs LR none (some 20)
  refine ⟨R, _, rfl, SqL.of lv.hR, fun y6 ny6 => ?_⟩
  rw [eM]
  obtain ⟨H22, e22, k22, h22⟩ := newX ny6 (.lst (refs M))
  rw [e22]
  have lv := lv.kp k22
  have vs1 : ∀ x ∈ vals1, VKl l H22 x := fun x hx => (vs1 x hx).kp k22
  have h21 := k22.get h21
  refine ⟨_, rfl, ⟨_, SqL.of h22⟩, ?_⟩
  refine g_lc (tt := tYes) walk_list (by rw [refs_len]; omega) (fun H' k => SqL.of (k.get h22)) (fun _ acc H' => ∀ x ∈ acc, ∃ p r, ∃ xs : List Int, x = .ref p ∧ H' p = some (.tup [.int B, .ref r]) ∧ H' r = some (iv xs) ∧ xs.length ≤ 30) (fun _ _ x hx => absurd hx (by simp))
    (fun _ acc H' D xs ys hd r x hx => ?_) (fun Rt Rf i acc x H23 H24 hi k23 r y ht hf => ?_) (fun D9 H23 acc nD9 k23 hD9 al r => ?_)
  · obtain ⟨p, r', xs', e1, e2, e3, e4⟩ := r x hx
    exact ⟨p, r', xs', e1, by rw [upd_ne (fun z => by rw [z, hd] at e2; cases e2)]; exact e2, by rw [upd_ne (fun z => by rw [z, hd] at e3; cases e3)]; exact e3, e4⟩
  · obtain ⟨rfl, hx⟩ := y
    obtain ⟨q0, e0, rfl, m0⟩ := refs_get hx
    have mq := mM q0 m0
    have hq := k23.get (lv.hLR q0 mq)
    repeat walk_at "rd"
    refine ⟨rfl, ?_⟩
    repeat walk_at "rd"
    refine yes rfl ?_
    repeat walk_at "rd"
    refine ⟨sz (show (2 : Nat) ≤ 1000 by decide), fun y7 ny7 => ?_⟩
    refine ht _ _ (Kp.new ny7) fun x hx => ?_
    rcases List.mem_append.mp hx with m | m
    · obtain ⟨p, r', xs', e1, e2, e3, e4⟩ := r x m
      exact ⟨p, r', xs', e1, (Kp.new ny7).get e2, (Kp.new ny7).get e3, e4⟩
    · rw [List.mem_singleton.mp m]
      exact ⟨y7, q0.1, q0.2, rfl, upd_same, upd_old ny7 hq, lr30 q0 mq⟩
  have lv := lv.kp k23
  have h21 := k23.get h21
  have vs1 : ∀ x ∈ vals1, VKl l H23 x := fun x hx => (vs1 x hx).kp k23
  have vs2 : ∀ x ∈ vals1 ++ acc, VKl l H23 x := by
    intro x hx
    rcases List.mem_append.mp hx with m | m
    · exact vs1 x m
    · obtain ⟨p, r', xs', rfl, e2, e3, e4⟩ := r x m
      exact vk_pair e2 e3 e4
  rw [refs_len] at al
  refine ⟨y5, D9, _, _, rfl, rfl, h21, hD9, sz (by rw [len1]; omega), fun V9 nV9 => ?_⟩
  obtain ⟨H25, e25, k25, h25⟩ := newX nV9 (.lst (vals1 ++ acc))
  rw [e25]
  have lv := lv.kp k25
  have vs2 : ∀ x ∈ vals1 ++ acc, VKl l H25 x := fun x hx => (vs2 x hx).kp k25
  generalize vals1 ++ acc = vals2 at vs2 h25
  refine ⟨_, rfl, ⟨_, SqL.of h25⟩, ?_⟩
  refine g_for walk_list (fun i σ H' => (∃ o15 o16, σ = lsg a gg cc S many o0 (some (.ref l)) o4 (some (.ref R)) (some (.ref b)) o10 (some (.int B)) (some (.ref fo)) (some (.ref wo)) (some (.ref V0)) o15 o16 o17 o18 o19 o20 o21 o22) ∧ Kp H25 H')
    ⟨⟨_, _, rfl⟩, Kp.refl _⟩ (fun i σ H' _ pv => SqL.of (pv.2.get h25)) (fun i x σ H26 H27 hi pv y => ?_) (fun σ H26 pv => ?_)
  · obtain ⟨⟨o15, o16, rfl⟩, k26⟩ := pv
    obtain ⟨rfl, hx⟩ := y
    have lvx := lv.kp k26
    obtain ⟨d, vk⟩ := ((vs2 x (List.mem_of_getElem? hx)).kp k26).kind
    match d, vk with
    | none, vk =>
      rcases vk with rfl | ⟨iv0, rfl⟩ | ⟨v, ys', rfl, hv⟩
      · repeat walk_at "rd"
        refine rd_isi ty_non (b := false) (by decide +kernel) ⟨_, rfl, no rfl ?_⟩
        repeat walk_at "rd"
        refine ⟨_, rfl, no rfl ?_⟩
        repeat walk_at "rd"
        refine ⟨a, b, gg, cc, n, ps, gs, cs, g, many, _, none, rfl, lvx.lw.gv, lvx.hb, lvx.hg, m1, by omega, .inl rfl, fun HA kA => ?_⟩
        repeat walk_at "rd"
        refine ⟨_, _, rfl, .inr ⟨_, rfl, congrArg V.bl rfl⟩, fun HB kB => ⟨_, rfl, no rfl ?_⟩⟩
        repeat walk_at "rd"
        exact ⟨⟨_, _, rfl⟩, k26.trans (kA.trans kB)⟩
      · repeat walk_at "rd"
        refine rd_isi ty_int (b := false) (by decide +kernel) ⟨_, rfl, no rfl ?_⟩
        repeat walk_at "rd"
        refine ⟨_, rfl, no rfl ?_⟩
        repeat walk_at "rd"
        refine ⟨a, b, gg, cc, n, ps, gs, cs, g, many, _, none, rfl, lvx.lw.gv, lvx.hb, lvx.hg, m1, by omega, .inr (.inl ⟨_, rfl⟩), fun HA kA => ?_⟩
        repeat walk_at "rd"
        refine ⟨_, _, rfl, .inr ⟨_, rfl, congrArg V.bl rfl⟩, fun HB kB => ⟨_, rfl, no rfl ?_⟩⟩
        repeat walk_at "rd"
        exact ⟨⟨_, _, rfl⟩, k26.trans (kA.trans kB)⟩
      · repeat walk_at "rd"
        refine rd_isi (ty_lst hv) (b := false) (by decide +kernel) ⟨_, rfl, no rfl ?_⟩
        repeat walk_at "rd"
        refine ⟨_, rfl, no rfl ?_⟩
        repeat walk_at "rd"
        refine ⟨a, b, gg, cc, n, ps, gs, cs, g, many, _, none, rfl, lvx.lw.gv, lvx.hb, lvx.hg, m1, by omega, .inr (.inr ⟨v, ys', rfl, hv⟩), fun HA kA => ?_⟩
        repeat walk_at "rd"
        refine ⟨_, _, rfl, .inr ⟨_, rfl, congrArg V.bl rfl⟩, fun HB kB => ⟨_, rfl, no rfl ?_⟩⟩
        repeat walk_at "rd"
        exact ⟨⟨_, _, rfl⟩, k26.trans (kA.trans kB)⟩
    | some (bv, none), vk =>
      obtain ⟨v, r, ys', rfl, hv, hrr⟩ := vk
      repeat walk_at "rd"
      refine rd_isi (ty_tup hv) (b := true) (by decide +kernel) ⟨_, rfl, yes rfl ?_⟩
      repeat walk_at "rd"
      refine rd_eqI (b := true) rfl ⟨_, rfl, yes rfl ?_⟩
      repeat walk_at "rd"
      refine rd_isi (ty_lst hrr) (b := false) (by decide +kernel) ⟨_, rfl, no rfl ?_⟩
      repeat walk_at "rd"
      refine ⟨_, rfl, no rfl ?_⟩
      repeat walk_at "rd"
      refine ⟨a, b, gg, cc, n, ps, gs, cs, g, many, _, some (bv, none), rfl, lvx.lw.gv, lvx.hb, lvx.hg, m1, by omega, ⟨v, r, ys', rfl, hv, hrr⟩, fun HA kA => ?_⟩
      repeat walk_at "rd"
      refine ⟨_, _, rfl, .inr ⟨_, rfl, congrArg V.bl rfl⟩, fun HB kB => ⟨_, rfl, no rfl ?_⟩⟩
      repeat walk_at "rd"
      exact ⟨⟨_, _, rfl⟩, k26.trans (kA.trans kB)⟩
    | some (bv, some xs), vk =>
      obtain ⟨v, r, rfl, hv, hrr, xl⟩ := vk
      have gvx := lvx.lw.gv
      have eS : showsV n ps gs cs many g (some (bv, some xs)) = (decide (bv = B) && (inB (n - 1) xs && decide (xs.length = many) && decide (totalV ps gs cs g xs = B))) := by rw [← hB]; rfl
      repeat walk_at "rd"
      refine rd_isi (ty_tup hv) (b := true) (by decide +kernel) ⟨_, rfl, yes rfl ?_⟩
      repeat walk_at "rd"
      refine rd_eqI (b := true) rfl ⟨_, rfl, yes rfl ?_⟩
      repeat walk_at "rd"
      refine rd_isi (ty_tup hrr) (b := true) (by decide +kernel) ⟨_, rfl, yes rfl ?_⟩
      repeat walk_at "rd"
      refine ⟨pI xs, (LR.map (·.2)).map pI, dp_ints hrr, .lst (SqL.of lvx.hR) (dpAll_refs lvx.hLR), pI_shaped _, pIs_shapedL _, ⟨_, rfl, ?_⟩⟩
      rw [any_rows, lvx.hm]
      by_cases mem : xs ∈ rowsV n many
      · obtain ⟨xlen, xin⟩ := (rowsV_mem many xs).mp mem
        have eI : inB (n - 1) xs = true := inB_iff.mpr fun x hx => by have := xin x hx; omega
        refine yes (dt mem) ?_
        repeat walk_at "rd"
        refine rd_eqI rfl ?_
        repeat walk_at "rd"
        refine ⟨_, rfl, ?_⟩
        by_cases eb : bv = B
        · refine yes (dt eb) ?_
          repeat walk_at "rd"
          refine ⟨a, b, gg, cc, r, n, ps, g, gs, cs, xs, rfl, gvx.web, gvx.ok, lvx.hb, lvx.hg, gvx.hgs, gvx.gl, gvx.hcs, gvx.cl, hrr, xin, fun H28 k28 => ?_⟩
          repeat walk_at "rd"
          refine rd_eqI rfl ?_
          have lvy := lvx.kp k28
          repeat walk_at "rd"
          refine ⟨a, b, gg, cc, n, ps, gs, cs, g, many, _, some (bv, some xs), rfl, lvy.lw.gv, lvy.hb, lvy.hg, m1, by omega, ⟨v, r, rfl, k28.get hv, k28.get hrr, xl⟩, fun HA kA => ?_⟩
          repeat walk_at "rd"
          refine ⟨_, _, rfl, .inr ⟨_, rfl, congrArg V.bl (by rw [eS, dt eb, eI, dt xlen]; rfl)⟩, fun HB kB => ⟨_, rfl, no rfl ?_⟩⟩
          repeat walk_at "rd"
          exact ⟨⟨_, _, rfl⟩, (k26.trans k28).trans (kA.trans kB)⟩
        · refine no (df eb) ?_
          repeat walk_at "rd"
          refine ⟨a, b, gg, cc, n, ps, gs, cs, g, many, _, some (bv, some xs), rfl, lvx.lw.gv, lvx.hb, lvx.hg, m1, by omega, ⟨v, r, rfl, hv, hrr, xl⟩, fun HA kA => ?_⟩
          repeat walk_at "rd"
          refine ⟨_, _, rfl, .inr ⟨_, rfl, congrArg V.bl (by rw [eS, df eb]; rfl)⟩, fun HB kB => ⟨_, rfl, no rfl ?_⟩⟩
          repeat walk_at "rd"
          exact ⟨⟨_, _, rfl⟩, k26.trans (kA.trans kB)⟩
      · refine no (df mem) ?_
        have eN : (inB (n - 1) xs && decide (xs.length = many)) = false := by
          rw [Bool.eq_false_iff]
          intro z
          rw [Bool.and_eq_true, decide_eq_true_eq] at z
          exact mem ((rowsV_mem many xs).mpr ⟨z.2, fun x hx => by have := inB_iff.mp z.1 x hx; omega⟩)
        repeat walk_at "rd"
        refine ⟨_, rfl, no rfl ?_⟩
        repeat walk_at "rd"
        refine ⟨a, b, gg, cc, n, ps, gs, cs, g, many, _, some (bv, some xs), rfl, lvx.lw.gv, lvx.hb, lvx.hg, m1, by omega, ⟨v, r, rfl, hv, hrr, xl⟩, fun HA kA => ?_⟩
        repeat walk_at "rd"
        refine ⟨_, _, rfl, .inr ⟨_, rfl, congrArg V.bl (by rw [eS, eN, Bool.false_and, Bool.and_false])⟩, fun HB kB => ⟨_, rfl, no rfl ?_⟩⟩
        repeat walk_at "rd"
        exact ⟨⟨_, _, rfl⟩, k26.trans (kA.trans kB)⟩
  · obtain ⟨⟨o15, o16, rfl⟩, k26⟩ := pv
    have lvx := lv.kp k26
    repeat walk_at "rd"
    have hro : inB (n - 1) row = true := inB_iff.mpr fun x hx => by have := lvx.rx x hx; omega
    refine ⟨a, b, gg, cc, n, ps, gs, cs, g, many, _, some (B, some row), rfl, lvx.lw.gv, lvx.hb, lvx.hg, m1, by omega, ⟨fo, wo, rfl, by rw [← hB]; exact lvx.hfo, lvx.hwo, by omega⟩, fun HA kA => ?_⟩
    have eS : showsV n ps gs cs many g (some (B, some row)) = true := by
      show (decide (B = tabV n ps gs cs many g) && (inB (n - 1) row && decide (row.length = many) && decide (totalV ps gs cs g row = tabV n ps gs cs many g))) = true
      rw [dt hB.symm, hro, dt rl, dt lvx.rt]
      rfl
    rw [eS]
    repeat walk_at "rd"
    refine ⟨_, _, rfl, rfl, ⟨_, rfl, no rfl ?_⟩⟩
    repeat walk_at "rd"
    exact lawD (lvx.lw.kp kA) m1 (by omega) fun H' _ => q H'
end
end Fo
set_option maxHeartbeats 4000000
/-! FoW: the law, whole. -/
namespace Fo
open PySem PySem.Spec PyProof.Rows L2 GxR
local macro_rules | `(tactic| walk_at "hp") => `(tactic| first
  | assumption
  | exact upd_same
  | (refine' upd_old ?n ?h; (case n => assumption); (case h => walk_at "hp"))
  | (refine' Kp.get ?k ?h rfl; (case k => assumption); (case h => walk_at "hp")))
local macro_rules | `(tactic| walk_at "kp") => `(tactic| first
  | exact Kp.refl _
  | assumption
  | exact Kp.new (by assumption)
  | (refine' Kp.trans ?a ?b; (case b => first | assumption | exact Kp.new (by assumption)); (case a => walk_at "kp")))
local macro_rules | `(tactic| walk_at "rd") => `(tactic| first
  | ((with_reducible show tVar _ _ _ _); refine ⟨_, rfl, ?_⟩)
  | ((with_reducible show tC _ _ _ _); refine rd_c ?_)
  | ((with_reducible show tSeq _ _ _ _ _); refine rd_seq ?_)
  | ((with_reducible show tAsg _ _ _ _ _); refine rd_asg ?_)
  | ((with_reducible show gName _ _ _ _ _); refine rd_name ?_)
  | ((with_reducible show tRet _ _ _ _); refine rd_ret ?_)
  | ((with_reducible show tOp _ _ _ _ _ _); refine rd_op ?_)
  | ((with_reducible show tCons _ _ _ _ _); refine rd_cons ?_)
  | ((with_reducible show tNil _ _ _); refine rd_nil ?_)
  | ((with_reducible show tCal _ _ _ _ _); refine rd_cal ?_)
  | ((with_reducible show tCB _ _ _ _ _); refine rd_cb ?_)
  | ((with_reducible show tTest _ _ _ _); refine rd_test ?_)
  | ((with_reducible show tB _ _ _ _); refine rd_B ?_)
  | ((with_reducible show tNot _ _ _ _); refine rd_not ?_)
  | ((with_reducible show tAnd _ _ _ _ _); refine rd_and ?_)
  | ((with_reducible show tOr _ _ _ _ _); refine rd_or ?_)
  | ((with_reducible show tAndV _ _ _ _ _); refine rd_andV ?_)
  | ((with_reducible show tNotV _ _ _ _); refine rd_notV ?_)
  | ((with_reducible show tChain _ _ _ _ _ _ _ _); refine rd_chain ?_)
  | ((with_reducible show tIfS _ _ _ _ _ _); refine rd_ifs ?_)
  | ((with_reducible show tDrop _ _ _ _); refine rd_drop ?_)
  | ((with_reducible show tFor _ _ _ _ _ _); refine rd_forG ?_)
  | ((with_reducible show iTup _ _ _ _ _); refine rd_itup ?_)
  | ((with_reducible show iList _ _ _ _ _); refine rd_ilist ?_)
  | ((with_reducible show rI0 _ _ _ _ _); refine ⟨_, _, rfl, rfl, ?_⟩)
  | ((with_reducible show rAdd _ _ _ _); refine ⟨_, _, rfl, rfl, ?_⟩)
  | ((with_reducible show rSub _ _ _ _); refine ⟨_, _, rfl, rfl, ?_⟩)
  | ((with_reducible show rIxT _ _ _ _ _); refine' rd_ix ?h ?a ?_; (case h => walk_at "hp"); (case a => first | rfl | assumption))
  | ((with_reducible show rIxL _ _ _ _ _); refine' rd_ixL ?h ?a ?_; (case h => walk_at "hp"); (case a => first | rfl | assumption))
  | ((with_reducible show tTup _ _ _ _); refine rd_tup ?_)
  | ((with_reducible show tLst _ _ _ _); refine rd_lst ?_)
  | ((with_reducible show tAllG _ _ _ _ _ _ _ _); refine rd_allG ?_)
  | ((with_reducible show tAnyG _ _ _ _ _ _ _ _); refine rd_anyG ?_)
  | ((with_reducible show tSumG _ _ _ _ _ _ _ _); refine rd_sumG ?_)
  | ((with_reducible show tLc _ _ _ _ _ _ _ _); refine rd_lc ?_)
  | ((with_reducible show tNext _ _ _); refine rd_next ?_)
  | ((with_reducible show tBreak _ _ _); refine rd_break ?_)
  | ((with_reducible show tDGet _ _ _ _ _); refine rd_dget ?_)
  | ((with_reducible show tDNewT _ _ _); refine rd_dnew ?_)
  | ((with_reducible show StX.tStar _ _ _ _ _ _); refine rd_star ?_)
  | ((with_reducible show tSl _ _ _ _ _ _ _); refine rd_sl ?_)
  | ((with_reducible show sDPut _ _ _ _ _ _); refine rd_dput ?_)
  | ((with_reducible show tBM _ _ _ _ _ _ _ _); refine rd_bm ?_)
  | ((with_reducible show tPar _ _ _ _ _ _); refine rd_par ?_)
  | ((with_reducible show tPar3 _ _ _ _ _ _ _); refine rd_par3 ?_)
  | ((with_reducible show iRng1 _ _ _ _); refine rd_rng1 ?_)
  | ((with_reducible show tUn _ _ _ _ _); refine rd_un ?_)
  | ((with_reducible show rU _ _ _ _); refine ⟨_, rfl, ?_⟩)
  | ((with_reducible show tPart _ _ _ _); refine rd_part ?_)
  | ((with_reducible show tNoPart _ _ _); refine rd_nopart ?_)
  | ((with_reducible show iRng2 _ _ _ _); refine rd_rng2 ?_)
  | ((with_reducible show iRng3 _ _ _ _); refine rd_rng3 ?_)
  | ((with_reducible show gSub _ _ _ _ _ _ _); refine rd_gsub ?_)
  | ((with_reducible show tDcT _ _ _ _ _ _ _ _); refine rd_dcT ?_)
  | ((with_reducible show tYes _ _ _); refine rd_yes ?_)
  | ((with_reducible show rLenS _ _ _ _); refine' rd_len ?h ?_; (case h => first | (refine' Or.inr (SqT.of ?z); (case z => walk_at "hp")) | (refine' Or.inl (SqL.of ?z); (case z => walk_at "hp"))))
  | ((with_reducible show gTup _ _ _ _ _ _ _); refine' rd_gtup ?h ?l ?_; (case h => refine' SqT.of ?z; (case z => walk_at "hp")); (case l => rfl))
  | ((with_reducible show gCons _ _ _ _ _ _); refine ⟨_, _, rfl, ?_⟩)
  | ((with_reducible show gNil _ _ _ _); refine ⟨rfl, ?_⟩))

theorem Kx.mutL {l : Addr} {H H' : Hp} {p : Addr} {o : HO} {xs : List V} (k : Kx l H H') (h : H p = none) (ht : H' p = some (.lst xs)) : Kx l H (upd H' p o) :=
  ⟨fun a u n e t => by rw [upd_ne (fun z => by rw [z, h] at e; cases e)]; exact k.keep a u n e t,
   fun P t => by
    obtain ⟨ps, e, z⟩ := k.tab P t
    exact ⟨ps, by rw [upd_ne (fun q => by rw [q, ht] at e; cases e)]; exact e, z⟩,
   fun a e => k.dom a (upd_none e).2⟩
section
variable {K : PySem.W.Frag} {T : List Addr}
theorem g_lcX {J : It} {n : Nat} {Y : Nat → Hp → V → Hp → Prop} {g : TG} {te : TE} {vs : List Nat} {σ : L2.St} {H1 : Hp} {Q : VK} {sc l : Addr} {cells : List Int} (w : Walk J n (fun _ => True) Y) (hn : n ≤ 1000) (rs : RowS K sc cells H1 l) (m : Int)
    (body : ∀ (Rt : VK) i x H H', i < n → RowS K sc cells H l → Y i H x H' → (∀ v H4, 0 ≤ v → v < m → Kx l H H4 → RowS K sc cells H4 l → Rt (.int v) H4) → g x (wipe σ vs) H' fun σ2 H2 => wipe σ2 vs = wipe σ vs ∧ te σ2 H2 Rt)
    (q : ∀ D H (xs : List Int), Kx l H1 H → RowS K sc cells H l → D ≠ l → H D = some (.lst (xs.map V.int)) → xs.length = n → (∀ x ∈ xs, 0 ≤ x ∧ x < m) → Q (.ref D) H) : LcGo g tYes te vs σ Q J H1 := by
  intro D nD
  have nDl := rs.free nD
  refine lc_it w (Qd := fun H => Q (.ref D) H) (fun i H => Kx l H1 H ∧ RowS K sc cells H l ∧ ∃ xs : List Int, H D = some (.lst (xs.map V.int)) ∧ xs.length = i ∧ ∀ x ∈ xs, 0 ≤ x ∧ x < m) ⟨(Kp.new nD).x, rs.kp (Kp.new nD), [], upd_same, rfl, fun x hx => absurd hx (by simp)⟩ (fun _ _ _ _ => trivial) (fun i x H H' hi p y => ?_) fun H ⟨k, r, xs, hd, hl, hx⟩ => q D H xs k r nDl hd hl hx
  obtain ⟨k, r, xs, hd, hl, hx⟩ := p
  refine body _ i x H H' hi r y fun v H4 v0 v1 k4 r4 => ?_
  have hd4 := k4.keep _ _ nDl hd rfl
  refine ⟨_, hd4, small1000 (by rw [List.length_map]; omega), (k.trans k4).mutL nD hd4, ?_, xs ++ [v], ?_, by rw [List.length_append, hl]; rfl, fun x hx' => ?_⟩
  · obtain ⟨pos, seed, rest, g1, g2, g3⟩ := r4
    obtain ⟨_, _, _, _, g0, _⟩ := rs
    refine ⟨pos, seed, rest, ?_, sq_new g0 nD g2, g3⟩
    rw [upd_ne (Ne.symm nDl)]
    exact g1
  · rw [upd_same, List.map_append]
    rfl
  · rcases List.mem_append.mp hx' with m' | m'
    · exact hx x m'
    · rw [List.mem_singleton.mp m']
      exact ⟨v0, v1⟩
theorem lawA {D : Ends} {H : Hp} {a0 : Addr} {cells : List Int} (tb : Tb T H) (hs : SqL K H a0 (cells.map V.int)) (q : ∀ H', D.rt (.bl true) H') : tLaw K T D (L2.start N_law [.ref a0]) H := by
  unfold tLaw
  repeat walk_at "rd"
  refine ⟨sz (show (4 : Nat) ≤ 1000 by decide), fun l nl => ?_⟩
  obtain ⟨H1, e1, k1, h1⟩ := newX nl (.lst [V.ref a0, .int 0, .int 13525, .int 0])
  rw [e1]
  have rs : RowS K a0 cells H1 l := ⟨0, 13525, 0, h1, k1.sqL hs, by omega, by omega, by omega, by omega⟩
  have tb := tb.kp k1
  repeat walk_at "rd"
  refine ⟨l, a0, cells, rfl, rs, fun a H2 n ps k2 rs2 web ok => ?_⟩
  have tb : Tb T H2 := fun P hP => k2.tab P (tb P hP)
  have hi4 := ok.hi
  have lo1 := ok.lo
  clear rs
  have rs := rs2
  repeat walk_at "rd"
  refine ⟨l, 3, a0, cells, rfl, rs, by omega, by omega, fun v H3 v0 v1 k3 rs3 => ?_⟩
  have web := web.kx k3 rs
  have tb : Tb T H3 := fun P hP => k3.tab P (tb P hP)
  have rs := rs3
  obtain ⟨many, em⟩ : ∃ many : Nat, 1 + v = (many : Int) := ⟨(1 + v).toNat, by omega⟩
  have m1 : 1 ≤ many := by omega
  have m3 : many ≤ 3 := by omega
  repeat walk_at "rd"
  refine ⟨sz (show (2 : Nat) ≤ 1000 by decide), fun p4 n4 => ?_⟩
  have em' : (fun i j : Int => V.int (i + j)) 1 v = V.int (many : Int) := congrArg V.int em
  rw [em']
  obtain ⟨H4, e4, k4, h4⟩ := newX n4 (.tup [V.ref a, .int (many : Int)])
  rw [e4]
  have web := web.kp k4
  have tb := tb.kp k4
  have rs := rs.kp k4
  obtain ⟨b', L', w1, _⟩ := id web
  repeat walk_at "rd"
  refine ⟨n, rfl, by omega, by omega, ?_⟩
  refine g_lcX walk_range (by omega) rs 6 (fun Rt i x H5 H6 hi r y hR => ?_) (fun D5 H5 cs k5 rs5 nDl hD cl cx => ?_)
  · obtain ⟨rfl, rfl⟩ := y
    repeat walk_at "rd"
    refine ⟨rfl, ?_⟩
    repeat walk_at "rd"
    exact ⟨l, 6, a0, cells, rfl, r, by omega, by omega, hR⟩
  rw [Int.toNat_natCast] at cl
  have web := web.kx k5 rs
  have tb : Tb T H5 := fun P hP => k5.tab P (tb P hP)
  have rs := rs5
  repeat walk_at "rd"
  refine rd_tupOfL hD fun cc ncc => ?_
  obtain ⟨H6, e6, k6, h6⟩ := newX ncc (iv cs)
  rw [e6]
  have web := web.kp k6
  have tb := tb.kp k6
  have rs := rs.kp k6
  obtain ⟨b', L', w1, _⟩ := id web
  repeat walk_at "rd"
  refine ⟨n, rfl, by omega, by omega, ?_⟩
  refine g_lcX walk_range (by omega) rs 9 (fun Rt i x H7 H8 hi r y hR => ?_) (fun D7 H7 gs k7 rs7 nDl7 hD7 gl gx => ?_)
  · obtain ⟨rfl, rfl⟩ := y
    repeat walk_at "rd"
    refine ⟨rfl, ?_⟩
    repeat walk_at "rd"
    exact ⟨l, 9, a0, cells, rfl, r, by omega, by omega, hR⟩
  rw [Int.toNat_natCast] at gl
  have web := web.kx k7 rs
  have tb : Tb T H7 := fun P hP => k7.tab P (tb P hP)
  have hcc := k7.tup rs h6
  have rs := rs7
  repeat walk_at "rd"
  refine rd_tupOfL hD7 fun gg ngg => ?_
  obtain ⟨H8, e8, k8, hgg⟩ := newX ngg (iv gs)
  rw [e8]
  repeat walk_at "rd"
  refine ⟨sz (show (2 : Nat) ≤ 1000 by decide), fun p9 n9 => ?_⟩
  obtain ⟨H9, e9, k9, h9⟩ := newX n9 (.tup [V.ref cc, .ref gg])
  rw [e9]
  have k89 := k8.trans k9
  have web := web.kp k89
  have tb := tb.kp k89
  have rs := rs.kp k89
  have hcc := k89.get hcc
  have hgg := k9.get hgg
  have gv : Given T H9 a gg cc n ps gs cs := ⟨tb, web, ok, hgg, gl, fun x hx => by have := gx x hx; omega, hcc, cl, fun x hx => by have := cx x hx; omega⟩
  repeat walk_at "rd"
  refine ⟨a, n, ps, rfl, web, ok, fun S H10 L k10 hS hL hm => ?_⟩
  have gv := gv.kp k10
  repeat walk_at "rd"
  refine ⟨a, n, ps, many, rfl, gv.web, ok, m3, fun R H11 LR k11 hR hLR hRm => ?_⟩
  have lw : Lw T H11 a gg cc S n ps gs cs L := ⟨gv.kp k11, k11.get hS, hL.kp k11, hm⟩
  have rs := rs.kp (k10.trans k11)
  have L16 : L.length ≤ 16 := by
    have := gathV_len (n := n) ps ok.hi
    rw [← hm, List.length_map] at this
    exact this
  have L1 : 1 ≤ L.length := by
    obtain ⟨G, eG⟩ := gathV_head n ps
    rw [← hm] at eG
    cases L with
    | nil => cases eG
    | cons _ _ => simp
  repeat walk_at "rd"
  refine ⟨_, _, rfl, ?_⟩
  repeat walk_at "rd"
  refine ⟨l, S, L, a0, cells, rfl, rs, Ne.symm (rs.neR lw.hS), lw.hS, L1, by omega, fun qs H12 mqs k12 rs12 => ?_⟩
  have hb := lw.hL qs mqs
  have lw := lw.kx k12 rs
  have hb := k12.tup rs hb
  have hR := k12.keep _ _ (rs.neR hR) hR rfl
  have hLR := its_x hLR k12 rs
  have rs := rs12
  have hg : qs.2 ∈ gathV n ps := by rw [← hm]; exact List.mem_map_of_mem mqs
  have gv := lw.gv
  have R64 : LR.length ≤ 64 := by
    have := rowsV_64 (n := n) (t := many) ok.hi m3
    rw [← hRm, List.length_map] at this
    exact this
  repeat walk_at "rd"
  refine ⟨_, rfl, ⟨_, SqL.of hR⟩, ?_⟩
  refine g_lcI walk_list (by rw [refs_len]; omega) (fun H' k => SqL.of (k.get hR)) (fun i => totalV ps gs cs qs.2 ((rowsV n many).getD i [])) (fun Rt i x H13 H14 hi k13 y hRt => ?_) (fun D13 H13 nD13 k13 hD13 => ?_)
  · obtain ⟨rfl, hx⟩ := y
    obtain ⟨q0, e0, rfl, m0⟩ := refs_get hx
    have e2 : (rowsV n many).getD i [] = q0.2 := by
      rw [← hRm, List.getD_eq_getElem?_getD, List.getElem?_map, e0]
      rfl
    have gvx := gv.kp k13
    repeat walk_at "rd"
    refine ⟨rfl, ?_⟩
    repeat walk_at "rd"
    refine ⟨a, qs.1, gg, cc, q0.1, n, ps, qs.2, gs, cs, q0.2, rfl, gvx.web, ok, k13.get hb, hg, gvx.hgs, gl, gvx.hcs, cl, k13.get (hLR q0 m0), ((rowsV_mem many q0.2).mp (by rw [← hRm]; exact List.mem_map_of_mem m0)).2, fun H15 k15 => ?_⟩
    have := hRt H15 k15
    rw [e2] at this
    exact this
  rw [range_map hRm (totalV ps gs cs qs.2)] at hD13
  have lw := lw.kp k13
  have hb := k13.get hb
  have hR := k13.get hR
  have hLR := hLR.kp k13
  have rs := rs.kp k13
  repeat walk_at "rd"
  have rne : rowsV n many ≠ [] := by
    obtain ⟨row, h1, h2, _⟩ := total_get (ps := ps) (gs := gs) (cs := cs) lo1 many qs.2
    exact List.ne_nil_of_mem ((rowsV_mem many row).mpr ⟨h1, h2⟩)
  refine ⟨D13, _, rfl, SqL.of hD13, by rw [List.length_map]; exact List.length_pos_iff.mpr rne, fun m hm1 hm2 => ?_⟩
  have eB : m = tabV n ps gs cs many qs.2 := by
    obtain ⟨row, r1, r2, r3⟩ := total_get (ps := ps) (gs := gs) (cs := cs) lo1 many qs.2
    have h1 := hm2 _ (List.mem_map_of_mem (f := totalV ps gs cs qs.2) ((rowsV_mem many row).mpr ⟨r1, r2⟩))
    obtain ⟨row2, r4, r5⟩ := List.mem_map.mp hm1
    obtain ⟨r6, r7⟩ := (rowsV_mem many row2).mp r4
    have h2 := total_le (n := n) (ps := ps) (gs := gs) (cs := cs) row2 qs.2 r7
    rw [r6] at h2
    omega
  subst eB
  repeat walk_at "rd"
  refine ⟨a, qs.1, gg, cc, n, ps, gs, cs, qs.2, many, rfl, lw.gv, hb, hg, m1, by omega, fun fo wo H16 row k16 hfo hwo rl rx rt => ?_⟩
  repeat walk_at "rd"
  exact lawV (K := K) (o0 := some (.ref a0)) (o4 := none) (o10 := none) (o14 := none) (o15 := none) (o16 := none) (o17 := none) (o18 := none) (o19 := none) (o20 := none) (o21 := none) (o22 := none) (sc := a0) (l := l) (cells := cells) (R := R) (b := qs.1) (fo := fo) (wo := wo) (LR := LR) (g := qs.2) (row := row)
    ⟨lw.kp k16, m1, m3, k16.get hR, hLR.kp k16, hRm, k16.get hb, hg, hfo, hwo, rl, rx, rt⟩ (rs.kp k16) q
end
section
variable {P : Program} {w : World} {K : PySem.W.Frag} {mg : Str → Option Value} {base : Heap}
theorem ok_law {f : Addr} {fd : FuncData} {T : List Addr} (F : Fun K "law" "law" s_law f fd) (nm : Nm mg) (C : Calls P w K mg base T) : FnOk P w K mg base CX0 9 f fd P_law (sp_law K T) := by
  refine F.ok sc_law (fun vs H Q E h => ?_) (fun cdv A outer s H vs Q E hr h => ?_)
  · obtain ⟨a, cells, rfl, _⟩ := h
    rfl
  · obtain ⟨a, cells, rfl, tb, hs, q⟩ := h
    exact ⟨_, ps_law nm C hr, lawA tb hs q⟩
end
end Fo
set_option maxHeartbeats 4000000
/-! FoX: the end: the tables of the defs with generator expressions; the defs' promises joined. -/
namespace Fo
open PySem PySem.Spec PyProof.Rows L2 GxR
/-- the code objects of the named defs and their empty tables -/
def TabsX (xs : List Str) (mg : Str → Option Value) (h : Heap) : Prop := ∀ x ∈ xs, ∃ (a : Addr) (o : Obj) (fd : FuncData) (c P : Addr), mg x = some (.ref a) ∧ h.get? a = some o ∧ o.data = .func fd ∧ fd.code = .ref c ∧ h.IsCode c P #[] ∧ h.TableAt c P #[]
theorem walk_ofAll {l : PySem.W.OpenLaw} {n k : Nat} {q : Program} {loose : List Str} {XP : (Str → Option Value) → Heap → Prop} {YP : World → Heap → Prop} {d : DefRec} {K : Params → PySem.W.Frag} {CX : World → CXT} {x : Str} (xs : List Str)
    (hn : l.most = some n) (hn2 : n ≤ sizeLine) (hdf : d.params.defaults = []) (hr : Room k callerA) (hrec : (xs.all fun x => (recsOf q).any fun e => e.name == x) = true) (hY : ∀ (w : World) (h : Heap), YP w h → (K w.params).In h)
    (F : ∀ (w : World) (mg : Str → Option Value) (fa : Addr) (h : Heap), (K w.params).In h → h.Ns mainGlobals mg → mg d.name = some (.ref fa) → TabsX xs mg h → LamX.LawAtS l w (K w.params) (CX w) k n x mg fa h)
    (hCX : ∀ (w : World) (H : Hp) (s : Shared) (e : Value) (s' : Shared), CX w [] H s (fun _ _ _ => False) e s' → False) :
    PySem.W.WalkO q loose XP YP l.row.toRowW d [] (fun f vs => PySem.call f vs) := by
  refine Att.attach_callB hn hdf fun w s₀ s₁ mg mb fa o pm cd doc a vs ns G Y ho hd hcd hmg hobj hints hlen hbits hg => ?_
  have KX := hY w _ Y
  have tabs : TabsX xs mg s₁.heap := fun x hx => by
    obtain ⟨dL, hm, hn1⟩ := List.any_eq_true.mp (List.all_eq_true.mp hrec x hx)
    have hn2 : dL.name = x := beq_iff_eq.mp hn1
    obtain ⟨a', o', fd', c', P', h1, h2, h3, h4, h5, h6⟩ := G.T.tab dL hm
    rw [hn2] at h1
    exact ⟨a', o', fd', c', P', h1, h2, h3, h4, h5, h6⟩
  obtain ⟨fd, cs, sp, hT, nT, C, hb, hsp, hF⟩ := F w mg fa _ KX G.T.g hmg tabs
  exact LamX.law_callTs KX G.T.g G.T.b G.T.builtins G.T.nolimit hg hT nT C G.T.bmain hobj hints (Nat.le_trans hlen hn2) hr hF hb (fun H hH hS => hsp H a ns hlen hbits hH hS) fun H e s' => hCX w H s₁ e s'
theorem tabX_at {K : PySem.W.Frag} {h : Heap} {mg : Str → Option Value} {xs : List Str} {x : Str} {f c P : Addr} {oc e : Value} {od dd : Option Addr} {fd : FuncData} {sl sl2 : Array (Option Value)} {vs : Array Value} (X : K.In h) (t : TabsX xs mg h) (hx : x ∈ xs) (hm : mg x = some (.ref f))
    (l : K.lookup f = some ⟨oc, od, .func fd, sl⟩) (hc : fd.code = .ref c) (lc : K.lookup c = some ⟨e, dd, .fields vs, sl2⟩) (hv : vs[11]? = some (.ref P)) : PySem.W.CodeHd h c P ∧ h.get? P = some { cls := .none, data := .fields #[] } := by
  obtain ⟨a, o, fd', c', P', h1, h2, h3, h4, h5, h6⟩ := t x hx
  rw [hm] at h1
  cases h1
  rw [X _ _ l] at h2
  cases h2
  cases h3
  rw [hc] at h4
  cases h4
  have hd := PySem.W.CodeHd.of h5 h6
  obtain ⟨⟨o2, vs2, e1, e2, e3, e4⟩, e5⟩ := h6
  rw [X _ _ lc] at e1
  cases e1
  cases e3
  rw [hv] at e4
  cases e4
  exact ⟨hd, e5⟩
abbrev genDefs : List Str := ["need_web", "is_lot", "is_gathering", "is_row", "need_gains", "gain_of", "need_row_costs", "total_of"]
theorem all_mk {l : PySem.W.OpenLaw} {w : World} {K : PySem.W.Frag} {h : Heap} {mg : Str → Option Value} {fa : Addr} (X : K.In h) (G : h.Ns mainGlobals mg) (hfa : mg "law" = some (.ref fa)) (tabs : TabsX genDefs mg h)
    {f_is_in : Addr} {oc_is_in kV_is_in dc_is_in pm_is_in ct_is_in cd_is_in : Value} {od_is_in an_is_in : Option Addr} {sl_is_in : Array (Option Value)}
    {f_are_foes : Addr} {oc_are_foes kV_are_foes dc_are_foes pm_are_foes ct_are_foes cd_are_foes : Value} {od_are_foes an_are_foes : Option Addr} {sl_are_foes : Array (Option Value)}
    {f_need_web : Addr} {oc_need_web kV_need_web dc_need_web pm_need_web ct_need_web : Value} {od_need_web an_need_web : Option Addr} {sl_need_web : Array (Option Value)}
    {c_need_web q_need_web : Addr} {e_need_web : Value} {dd_need_web : Option Addr} {vs_need_web : Array Value} {sk_need_web : Array (Option Value)}
    {f_is_lot : Addr} {oc_is_lot kV_is_lot dc_is_lot pm_is_lot ct_is_lot : Value} {od_is_lot an_is_lot : Option Addr} {sl_is_lot : Array (Option Value)}
    {c_is_lot q_is_lot : Addr} {e_is_lot : Value} {dd_is_lot : Option Addr} {vs_is_lot : Array Value} {sk_is_lot : Array (Option Value)}
    {f_is_gathering : Addr} {oc_is_gathering kV_is_gathering dc_is_gathering pm_is_gathering ct_is_gathering : Value} {od_is_gathering an_is_gathering : Option Addr} {sl_is_gathering : Array (Option Value)}
    {c_is_gathering q_is_gathering : Addr} {e_is_gathering : Value} {dd_is_gathering : Option Addr} {vs_is_gathering : Array Value} {sk_is_gathering : Array (Option Value)}
    {f_need_gathering : Addr} {oc_need_gathering kV_need_gathering dc_need_gathering pm_need_gathering ct_need_gathering cd_need_gathering : Value} {od_need_gathering an_need_gathering : Option Addr} {sl_need_gathering : Array (Option Value)}
    {f_all_lots : Addr} {oc_all_lots kV_all_lots dc_all_lots pm_all_lots ct_all_lots cd_all_lots : Value} {od_all_lots an_all_lots : Option Addr} {sl_all_lots : Array (Option Value)}
    {f_all_gatherings : Addr} {oc_all_gatherings kV_all_gatherings dc_all_gatherings pm_all_gatherings ct_all_gatherings cd_all_gatherings : Value} {od_all_gatherings an_all_gatherings : Option Addr} {sl_all_gatherings : Array (Option Value)}
    {f_came : Addr} {oc_came kV_came dc_came pm_came ct_came cd_came : Value} {od_came an_came : Option Addr} {sl_came : Array (Option Value)}
    {f_is_row : Addr} {oc_is_row kV_is_row dc_is_row pm_is_row ct_is_row : Value} {od_is_row an_is_row : Option Addr} {sl_is_row : Array (Option Value)}
    {c_is_row q_is_row : Addr} {e_is_row : Value} {dd_is_row : Option Addr} {vs_is_row : Array Value} {sk_is_row : Array (Option Value)}
    {f_trace : Addr} {oc_trace kV_trace dc_trace pm_trace ct_trace cd_trace : Value} {od_trace an_trace : Option Addr} {sl_trace : Array (Option Value)}
    {f_need_gains : Addr} {oc_need_gains kV_need_gains dc_need_gains pm_need_gains ct_need_gains : Value} {od_need_gains an_need_gains : Option Addr} {sl_need_gains : Array (Option Value)}
    {c_need_gains q_need_gains : Addr} {e_need_gains : Value} {dd_need_gains : Option Addr} {vs_need_gains : Array Value} {sk_need_gains : Array (Option Value)}
    {f_gain_of : Addr} {oc_gain_of kV_gain_of dc_gain_of pm_gain_of ct_gain_of : Value} {od_gain_of an_gain_of : Option Addr} {sl_gain_of : Array (Option Value)}
    {c_gain_of q_gain_of : Addr} {e_gain_of : Value} {dd_gain_of : Option Addr} {vs_gain_of : Array Value} {sk_gain_of : Array (Option Value)}
    {f_need_row_costs : Addr} {oc_need_row_costs kV_need_row_costs dc_need_row_costs pm_need_row_costs ct_need_row_costs : Value} {od_need_row_costs an_need_row_costs : Option Addr} {sl_need_row_costs : Array (Option Value)}
    {c_need_row_costs q_need_row_costs : Addr} {e_need_row_costs : Value} {dd_need_row_costs : Option Addr} {vs_need_row_costs : Array Value} {sk_need_row_costs : Array (Option Value)}
    {f_tables : Addr} {oc_tables kV_tables dc_tables pm_tables ct_tables cd_tables : Value} {od_tables an_tables : Option Addr} {sl_tables : Array (Option Value)}
    {f_need_stay : Addr} {oc_need_stay kV_need_stay dc_need_stay pm_need_stay ct_need_stay cd_need_stay : Value} {od_need_stay an_need_stay : Option Addr} {sl_need_stay : Array (Option Value)}
    {f_best_stay : Addr} {oc_best_stay kV_best_stay dc_best_stay pm_best_stay ct_best_stay cd_best_stay : Value} {od_best_stay an_best_stay : Option Addr} {sl_best_stay : Array (Option Value)}
    {f_total_of : Addr} {oc_total_of kV_total_of dc_total_of pm_total_of ct_total_of : Value} {od_total_of an_total_of : Option Addr} {sl_total_of : Array (Option Value)}
    {c_total_of q_total_of : Addr} {e_total_of : Value} {dd_total_of : Option Addr} {vs_total_of : Array Value} {sk_total_of : Array (Option Value)}
    {f_shows_best_stay : Addr} {oc_shows_best_stay kV_shows_best_stay dc_shows_best_stay pm_shows_best_stay ct_shows_best_stay cd_shows_best_stay : Value} {od_shows_best_stay an_shows_best_stay : Option Addr} {sl_shows_best_stay : Array (Option Value)}
    {f_stay_worths : Addr} {oc_stay_worths kV_stay_worths dc_stay_worths pm_stay_worths ct_stay_worths cd_stay_worths : Value} {od_stay_worths an_stay_worths : Option Addr} {sl_stay_worths : Array (Option Value)}
    {f_law_taken : Addr} {oc_law_taken kV_law_taken dc_law_taken pm_law_taken ct_law_taken cd_law_taken : Value} {od_law_taken an_law_taken : Option Addr} {sl_law_taken : Array (Option Value)}
    {f_law_pick : Addr} {oc_law_pick kV_law_pick dc_law_pick pm_law_pick ct_law_pick cd_law_pick : Value} {od_law_pick an_law_pick : Option Addr} {sl_law_pick : Array (Option Value)}
    {f_law_web : Addr} {oc_law_web kV_law_web dc_law_web pm_law_web ct_law_web cd_law_web : Value} {od_law_web an_law_web : Option Addr} {sl_law_web : Array (Option Value)}
    {f_law_foes : Addr} {oc_law_foes kV_law_foes dc_law_foes pm_law_foes ct_law_foes cd_law_foes : Value} {od_law_foes an_law_foes : Option Addr} {sl_law_foes : Array (Option Value)}
    {f_law_come : Addr} {oc_law_come kV_law_come dc_law_come pm_law_come ct_law_come cd_law_come : Value} {od_law_come an_law_come : Option Addr} {sl_law_come : Array (Option Value)}
    {f_law_lots : Addr} {oc_law_lots kV_law_lots dc_law_lots pm_law_lots ct_law_lots cd_law_lots : Value} {od_law_lots an_law_lots : Option Addr} {sl_law_lots : Array (Option Value)}
    {f_law_is_gathering : Addr} {oc_law_is_gathering kV_law_is_gathering dc_law_is_gathering pm_law_is_gathering ct_law_is_gathering cd_law_is_gathering : Value} {od_law_is_gathering an_law_is_gathering : Option Addr} {sl_law_is_gathering : Array (Option Value)}
    {f_law_gatherings : Addr} {oc_law_gatherings kV_law_gatherings dc_law_gatherings pm_law_gatherings ct_law_gatherings cd_law_gatherings : Value} {od_law_gatherings an_law_gatherings : Option Addr} {sl_law_gatherings : Array (Option Value)}
    {f_law_total : Addr} {oc_law_total kV_law_total dc_law_total pm_law_total ct_law_total cd_law_total : Value} {od_law_total an_law_total : Option Addr} {sl_law_total : Array (Option Value)}
    {f_law_rows : Addr} {oc_law_rows kV_law_rows dc_law_rows pm_law_rows ct_law_rows cd_law_rows : Value} {od_law_rows an_law_rows : Option Addr} {sl_law_rows : Array (Option Value)}
    {f_law_alike : Addr} {oc_law_alike kV_law_alike dc_law_alike pm_law_alike ct_law_alike cd_law_alike : Value} {od_law_alike an_law_alike : Option Addr} {sl_law_alike : Array (Option Value)}
    {f_law : Addr} {oc_law kV_law dc_law pm_law ct_law cd_law : Value} {od_law an_law : Option Addr} {sl_law : Array (Option Value)}
    {t_MOST_PEOPLE : Tok}
    {t_MOST_ROW : Tok}
    {t_MOST_GAIN : Tok}
    {t_MOST_COST : Tok}
    {t_MOST_TURNS : Tok}
    (a_is_in : PySem.W.nsIn K mainGlobals "is_in" = some (some (.ref f_is_in)))
    (l_is_in : K.lookup f_is_in = some ⟨oc_is_in, od_is_in, .func (PySem.W.fnOf "is_in" "is_in" (defArgs s_is_in) (defBody s_is_in) (defScope s_is_in) .none kV_is_in dc_is_in pm_is_in an_is_in cd_is_in ct_is_in), sl_is_in⟩)
    (h_is_in : PySem.W.codeIn K cd_is_in "is_in" = true)
    (k_is_in : PySem.W.keepIn K (.ref f_is_in) = true)
    (a_are_foes : PySem.W.nsIn K mainGlobals "are_foes" = some (some (.ref f_are_foes)))
    (l_are_foes : K.lookup f_are_foes = some ⟨oc_are_foes, od_are_foes, .func (PySem.W.fnOf "are_foes" "are_foes" (defArgs s_are_foes) (defBody s_are_foes) (defScope s_are_foes) .none kV_are_foes dc_are_foes pm_are_foes an_are_foes cd_are_foes ct_are_foes), sl_are_foes⟩)
    (h_are_foes : PySem.W.codeIn K cd_are_foes "are_foes" = true)
    (k_are_foes : PySem.W.keepIn K (.ref f_are_foes) = true)
    (a_need_web : PySem.W.nsIn K mainGlobals "need_web" = some (some (.ref f_need_web)))
    (l_need_web : K.lookup f_need_web = some ⟨oc_need_web, od_need_web, .func (PySem.W.fnOf "need_web" "need_web" (defArgs s_need_web) (defBody s_need_web) (defScope s_need_web) .none kV_need_web dc_need_web pm_need_web an_need_web (.ref c_need_web) ct_need_web), sl_need_web⟩)
    (h_need_web : PySem.W.codeIn K (.ref c_need_web) "need_web" = true)
    (k_need_web : PySem.W.keepIn K (.ref f_need_web) = true)
    (lc_need_web : K.lookup c_need_web = some ⟨e_need_web, dd_need_web, .fields vs_need_web, sk_need_web⟩)
    (v_need_web : vs_need_web[11]? = some (.ref q_need_web))
    (n_need_web : K.lookup q_need_web = none)
    (a_is_lot : PySem.W.nsIn K mainGlobals "is_lot" = some (some (.ref f_is_lot)))
    (l_is_lot : K.lookup f_is_lot = some ⟨oc_is_lot, od_is_lot, .func (PySem.W.fnOf "is_lot" "is_lot" (defArgs s_is_lot) (defBody s_is_lot) (defScope s_is_lot) .none kV_is_lot dc_is_lot pm_is_lot an_is_lot (.ref c_is_lot) ct_is_lot), sl_is_lot⟩)
    (h_is_lot : PySem.W.codeIn K (.ref c_is_lot) "is_lot" = true)
    (k_is_lot : PySem.W.keepIn K (.ref f_is_lot) = true)
    (lc_is_lot : K.lookup c_is_lot = some ⟨e_is_lot, dd_is_lot, .fields vs_is_lot, sk_is_lot⟩)
    (v_is_lot : vs_is_lot[11]? = some (.ref q_is_lot))
    (n_is_lot : K.lookup q_is_lot = none)
    (a_is_gathering : PySem.W.nsIn K mainGlobals "is_gathering" = some (some (.ref f_is_gathering)))
    (l_is_gathering : K.lookup f_is_gathering = some ⟨oc_is_gathering, od_is_gathering, .func (PySem.W.fnOf "is_gathering" "is_gathering" (defArgs s_is_gathering) (defBody s_is_gathering) (defScope s_is_gathering) .none kV_is_gathering dc_is_gathering pm_is_gathering an_is_gathering (.ref c_is_gathering) ct_is_gathering), sl_is_gathering⟩)
    (h_is_gathering : PySem.W.codeIn K (.ref c_is_gathering) "is_gathering" = true)
    (k_is_gathering : PySem.W.keepIn K (.ref f_is_gathering) = true)
    (lc_is_gathering : K.lookup c_is_gathering = some ⟨e_is_gathering, dd_is_gathering, .fields vs_is_gathering, sk_is_gathering⟩)
    (v_is_gathering : vs_is_gathering[11]? = some (.ref q_is_gathering))
    (n_is_gathering : K.lookup q_is_gathering = none)
    (a_need_gathering : PySem.W.nsIn K mainGlobals "need_gathering" = some (some (.ref f_need_gathering)))
    (l_need_gathering : K.lookup f_need_gathering = some ⟨oc_need_gathering, od_need_gathering, .func (PySem.W.fnOf "need_gathering" "need_gathering" (defArgs s_need_gathering) (defBody s_need_gathering) (defScope s_need_gathering) .none kV_need_gathering dc_need_gathering pm_need_gathering an_need_gathering cd_need_gathering ct_need_gathering), sl_need_gathering⟩)
    (h_need_gathering : PySem.W.codeIn K cd_need_gathering "need_gathering" = true)
    (k_need_gathering : PySem.W.keepIn K (.ref f_need_gathering) = true)
    (a_all_lots : PySem.W.nsIn K mainGlobals "all_lots" = some (some (.ref f_all_lots)))
    (l_all_lots : K.lookup f_all_lots = some ⟨oc_all_lots, od_all_lots, .func (PySem.W.fnOf "all_lots" "all_lots" (defArgs s_all_lots) (defBody s_all_lots) (defScope s_all_lots) .none kV_all_lots dc_all_lots pm_all_lots an_all_lots cd_all_lots ct_all_lots), sl_all_lots⟩)
    (h_all_lots : PySem.W.codeIn K cd_all_lots "all_lots" = true)
    (k_all_lots : PySem.W.keepIn K (.ref f_all_lots) = true)
    (a_all_gatherings : PySem.W.nsIn K mainGlobals "all_gatherings" = some (some (.ref f_all_gatherings)))
    (l_all_gatherings : K.lookup f_all_gatherings = some ⟨oc_all_gatherings, od_all_gatherings, .func (PySem.W.fnOf "all_gatherings" "all_gatherings" (defArgs s_all_gatherings) (defBody s_all_gatherings) (defScope s_all_gatherings) .none kV_all_gatherings dc_all_gatherings pm_all_gatherings an_all_gatherings cd_all_gatherings ct_all_gatherings), sl_all_gatherings⟩)
    (h_all_gatherings : PySem.W.codeIn K cd_all_gatherings "all_gatherings" = true)
    (k_all_gatherings : PySem.W.keepIn K (.ref f_all_gatherings) = true)
    (a_came : PySem.W.nsIn K mainGlobals "came" = some (some (.ref f_came)))
    (l_came : K.lookup f_came = some ⟨oc_came, od_came, .func (PySem.W.fnOf "came" "came" (defArgs s_came) (defBody s_came) (defScope s_came) .none kV_came dc_came pm_came an_came cd_came ct_came), sl_came⟩)
    (h_came : PySem.W.codeIn K cd_came "came" = true)
    (k_came : PySem.W.keepIn K (.ref f_came) = true)
    (a_is_row : PySem.W.nsIn K mainGlobals "is_row" = some (some (.ref f_is_row)))
    (l_is_row : K.lookup f_is_row = some ⟨oc_is_row, od_is_row, .func (PySem.W.fnOf "is_row" "is_row" (defArgs s_is_row) (defBody s_is_row) (defScope s_is_row) .none kV_is_row dc_is_row pm_is_row an_is_row (.ref c_is_row) ct_is_row), sl_is_row⟩)
    (h_is_row : PySem.W.codeIn K (.ref c_is_row) "is_row" = true)
    (k_is_row : PySem.W.keepIn K (.ref f_is_row) = true)
    (lc_is_row : K.lookup c_is_row = some ⟨e_is_row, dd_is_row, .fields vs_is_row, sk_is_row⟩)
    (v_is_row : vs_is_row[11]? = some (.ref q_is_row))
    (n_is_row : K.lookup q_is_row = none)
    (a_trace : PySem.W.nsIn K mainGlobals "trace" = some (some (.ref f_trace)))
    (l_trace : K.lookup f_trace = some ⟨oc_trace, od_trace, .func (PySem.W.fnOf "trace" "trace" (defArgs s_trace) (defBody s_trace) (defScope s_trace) .none kV_trace dc_trace pm_trace an_trace cd_trace ct_trace), sl_trace⟩)
    (h_trace : PySem.W.codeIn K cd_trace "trace" = true)
    (k_trace : PySem.W.keepIn K (.ref f_trace) = true)
    (a_need_gains : PySem.W.nsIn K mainGlobals "need_gains" = some (some (.ref f_need_gains)))
    (l_need_gains : K.lookup f_need_gains = some ⟨oc_need_gains, od_need_gains, .func (PySem.W.fnOf "need_gains" "need_gains" (defArgs s_need_gains) (defBody s_need_gains) (defScope s_need_gains) .none kV_need_gains dc_need_gains pm_need_gains an_need_gains (.ref c_need_gains) ct_need_gains), sl_need_gains⟩)
    (h_need_gains : PySem.W.codeIn K (.ref c_need_gains) "need_gains" = true)
    (k_need_gains : PySem.W.keepIn K (.ref f_need_gains) = true)
    (lc_need_gains : K.lookup c_need_gains = some ⟨e_need_gains, dd_need_gains, .fields vs_need_gains, sk_need_gains⟩)
    (v_need_gains : vs_need_gains[11]? = some (.ref q_need_gains))
    (n_need_gains : K.lookup q_need_gains = none)
    (a_gain_of : PySem.W.nsIn K mainGlobals "gain_of" = some (some (.ref f_gain_of)))
    (l_gain_of : K.lookup f_gain_of = some ⟨oc_gain_of, od_gain_of, .func (PySem.W.fnOf "gain_of" "gain_of" (defArgs s_gain_of) (defBody s_gain_of) (defScope s_gain_of) .none kV_gain_of dc_gain_of pm_gain_of an_gain_of (.ref c_gain_of) ct_gain_of), sl_gain_of⟩)
    (h_gain_of : PySem.W.codeIn K (.ref c_gain_of) "gain_of" = true)
    (k_gain_of : PySem.W.keepIn K (.ref f_gain_of) = true)
    (lc_gain_of : K.lookup c_gain_of = some ⟨e_gain_of, dd_gain_of, .fields vs_gain_of, sk_gain_of⟩)
    (v_gain_of : vs_gain_of[11]? = some (.ref q_gain_of))
    (n_gain_of : K.lookup q_gain_of = none)
    (a_need_row_costs : PySem.W.nsIn K mainGlobals "need_row_costs" = some (some (.ref f_need_row_costs)))
    (l_need_row_costs : K.lookup f_need_row_costs = some ⟨oc_need_row_costs, od_need_row_costs, .func (PySem.W.fnOf "need_row_costs" "need_row_costs" (defArgs s_need_row_costs) (defBody s_need_row_costs) (defScope s_need_row_costs) .none kV_need_row_costs dc_need_row_costs pm_need_row_costs an_need_row_costs (.ref c_need_row_costs) ct_need_row_costs), sl_need_row_costs⟩)
    (h_need_row_costs : PySem.W.codeIn K (.ref c_need_row_costs) "need_row_costs" = true)
    (k_need_row_costs : PySem.W.keepIn K (.ref f_need_row_costs) = true)
    (lc_need_row_costs : K.lookup c_need_row_costs = some ⟨e_need_row_costs, dd_need_row_costs, .fields vs_need_row_costs, sk_need_row_costs⟩)
    (v_need_row_costs : vs_need_row_costs[11]? = some (.ref q_need_row_costs))
    (n_need_row_costs : K.lookup q_need_row_costs = none)
    (a_tables : PySem.W.nsIn K mainGlobals "tables" = some (some (.ref f_tables)))
    (l_tables : K.lookup f_tables = some ⟨oc_tables, od_tables, .func (PySem.W.fnOf "tables" "tables" (defArgs s_tables) (defBody s_tables) (defScope s_tables) .none kV_tables dc_tables pm_tables an_tables cd_tables ct_tables), sl_tables⟩)
    (h_tables : PySem.W.codeIn K cd_tables "tables" = true)
    (k_tables : PySem.W.keepIn K (.ref f_tables) = true)
    (a_need_stay : PySem.W.nsIn K mainGlobals "need_stay" = some (some (.ref f_need_stay)))
    (l_need_stay : K.lookup f_need_stay = some ⟨oc_need_stay, od_need_stay, .func (PySem.W.fnOf "need_stay" "need_stay" (defArgs s_need_stay) (defBody s_need_stay) (defScope s_need_stay) .none kV_need_stay dc_need_stay pm_need_stay an_need_stay cd_need_stay ct_need_stay), sl_need_stay⟩)
    (h_need_stay : PySem.W.codeIn K cd_need_stay "need_stay" = true)
    (k_need_stay : PySem.W.keepIn K (.ref f_need_stay) = true)
    (a_best_stay : PySem.W.nsIn K mainGlobals "best_stay" = some (some (.ref f_best_stay)))
    (l_best_stay : K.lookup f_best_stay = some ⟨oc_best_stay, od_best_stay, .func (PySem.W.fnOf "best_stay" "best_stay" (defArgs s_best_stay) (defBody s_best_stay) (defScope s_best_stay) .none kV_best_stay dc_best_stay pm_best_stay an_best_stay cd_best_stay ct_best_stay), sl_best_stay⟩)
    (h_best_stay : PySem.W.codeIn K cd_best_stay "best_stay" = true)
    (k_best_stay : PySem.W.keepIn K (.ref f_best_stay) = true)
    (a_total_of : PySem.W.nsIn K mainGlobals "total_of" = some (some (.ref f_total_of)))
    (l_total_of : K.lookup f_total_of = some ⟨oc_total_of, od_total_of, .func (PySem.W.fnOf "total_of" "total_of" (defArgs s_total_of) (defBody s_total_of) (defScope s_total_of) .none kV_total_of dc_total_of pm_total_of an_total_of (.ref c_total_of) ct_total_of), sl_total_of⟩)
    (h_total_of : PySem.W.codeIn K (.ref c_total_of) "total_of" = true)
    (k_total_of : PySem.W.keepIn K (.ref f_total_of) = true)
    (lc_total_of : K.lookup c_total_of = some ⟨e_total_of, dd_total_of, .fields vs_total_of, sk_total_of⟩)
    (v_total_of : vs_total_of[11]? = some (.ref q_total_of))
    (n_total_of : K.lookup q_total_of = none)
    (a_shows_best_stay : PySem.W.nsIn K mainGlobals "shows_best_stay" = some (some (.ref f_shows_best_stay)))
    (l_shows_best_stay : K.lookup f_shows_best_stay = some ⟨oc_shows_best_stay, od_shows_best_stay, .func (PySem.W.fnOf "shows_best_stay" "shows_best_stay" (defArgs s_shows_best_stay) (defBody s_shows_best_stay) (defScope s_shows_best_stay) .none kV_shows_best_stay dc_shows_best_stay pm_shows_best_stay an_shows_best_stay cd_shows_best_stay ct_shows_best_stay), sl_shows_best_stay⟩)
    (h_shows_best_stay : PySem.W.codeIn K cd_shows_best_stay "shows_best_stay" = true)
    (k_shows_best_stay : PySem.W.keepIn K (.ref f_shows_best_stay) = true)
    (a_stay_worths : PySem.W.nsIn K mainGlobals "stay_worths" = some (some (.ref f_stay_worths)))
    (l_stay_worths : K.lookup f_stay_worths = some ⟨oc_stay_worths, od_stay_worths, .func (PySem.W.fnOf "stay_worths" "stay_worths" (defArgs s_stay_worths) (defBody s_stay_worths) (defScope s_stay_worths) .none kV_stay_worths dc_stay_worths pm_stay_worths an_stay_worths cd_stay_worths ct_stay_worths), sl_stay_worths⟩)
    (h_stay_worths : PySem.W.codeIn K cd_stay_worths "stay_worths" = true)
    (k_stay_worths : PySem.W.keepIn K (.ref f_stay_worths) = true)
    (a_law_taken : PySem.W.nsIn K mainGlobals "_law_taken" = some (some (.ref f_law_taken)))
    (l_law_taken : K.lookup f_law_taken = some ⟨oc_law_taken, od_law_taken, .func (PySem.W.fnOf "_law_taken" "_law_taken" (defArgs s_law_taken) (defBody s_law_taken) (defScope s_law_taken) .none kV_law_taken dc_law_taken pm_law_taken an_law_taken cd_law_taken ct_law_taken), sl_law_taken⟩)
    (h_law_taken : PySem.W.codeIn K cd_law_taken "_law_taken" = true)
    (k_law_taken : PySem.W.keepIn K (.ref f_law_taken) = true)
    (a_law_pick : PySem.W.nsIn K mainGlobals "_law_pick" = some (some (.ref f_law_pick)))
    (l_law_pick : K.lookup f_law_pick = some ⟨oc_law_pick, od_law_pick, .func (PySem.W.fnOf "_law_pick" "_law_pick" (defArgs s_law_pick) (defBody s_law_pick) (defScope s_law_pick) .none kV_law_pick dc_law_pick pm_law_pick an_law_pick cd_law_pick ct_law_pick), sl_law_pick⟩)
    (h_law_pick : PySem.W.codeIn K cd_law_pick "_law_pick" = true)
    (k_law_pick : PySem.W.keepIn K (.ref f_law_pick) = true)
    (a_law_web : PySem.W.nsIn K mainGlobals "_law_web" = some (some (.ref f_law_web)))
    (l_law_web : K.lookup f_law_web = some ⟨oc_law_web, od_law_web, .func (PySem.W.fnOf "_law_web" "_law_web" (defArgs s_law_web) (defBody s_law_web) (defScope s_law_web) .none kV_law_web dc_law_web pm_law_web an_law_web cd_law_web ct_law_web), sl_law_web⟩)
    (h_law_web : PySem.W.codeIn K cd_law_web "_law_web" = true)
    (k_law_web : PySem.W.keepIn K (.ref f_law_web) = true)
    (a_law_foes : PySem.W.nsIn K mainGlobals "_law_foes" = some (some (.ref f_law_foes)))
    (l_law_foes : K.lookup f_law_foes = some ⟨oc_law_foes, od_law_foes, .func (PySem.W.fnOf "_law_foes" "_law_foes" (defArgs s_law_foes) (defBody s_law_foes) (defScope s_law_foes) .none kV_law_foes dc_law_foes pm_law_foes an_law_foes cd_law_foes ct_law_foes), sl_law_foes⟩)
    (h_law_foes : PySem.W.codeIn K cd_law_foes "_law_foes" = true)
    (k_law_foes : PySem.W.keepIn K (.ref f_law_foes) = true)
    (a_law_come : PySem.W.nsIn K mainGlobals "_law_come" = some (some (.ref f_law_come)))
    (l_law_come : K.lookup f_law_come = some ⟨oc_law_come, od_law_come, .func (PySem.W.fnOf "_law_come" "_law_come" (defArgs s_law_come) (defBody s_law_come) (defScope s_law_come) .none kV_law_come dc_law_come pm_law_come an_law_come cd_law_come ct_law_come), sl_law_come⟩)
    (h_law_come : PySem.W.codeIn K cd_law_come "_law_come" = true)
    (k_law_come : PySem.W.keepIn K (.ref f_law_come) = true)
    (a_law_lots : PySem.W.nsIn K mainGlobals "_law_lots" = some (some (.ref f_law_lots)))
    (l_law_lots : K.lookup f_law_lots = some ⟨oc_law_lots, od_law_lots, .func (PySem.W.fnOf "_law_lots" "_law_lots" (defArgs s_law_lots) (defBody s_law_lots) (defScope s_law_lots) .none kV_law_lots dc_law_lots pm_law_lots an_law_lots cd_law_lots ct_law_lots), sl_law_lots⟩)
    (h_law_lots : PySem.W.codeIn K cd_law_lots "_law_lots" = true)
    (k_law_lots : PySem.W.keepIn K (.ref f_law_lots) = true)
    (a_law_is_gathering : PySem.W.nsIn K mainGlobals "_law_is_gathering" = some (some (.ref f_law_is_gathering)))
    (l_law_is_gathering : K.lookup f_law_is_gathering = some ⟨oc_law_is_gathering, od_law_is_gathering, .func (PySem.W.fnOf "_law_is_gathering" "_law_is_gathering" (defArgs s_law_is_gathering) (defBody s_law_is_gathering) (defScope s_law_is_gathering) .none kV_law_is_gathering dc_law_is_gathering pm_law_is_gathering an_law_is_gathering cd_law_is_gathering ct_law_is_gathering), sl_law_is_gathering⟩)
    (h_law_is_gathering : PySem.W.codeIn K cd_law_is_gathering "_law_is_gathering" = true)
    (k_law_is_gathering : PySem.W.keepIn K (.ref f_law_is_gathering) = true)
    (a_law_gatherings : PySem.W.nsIn K mainGlobals "_law_gatherings" = some (some (.ref f_law_gatherings)))
    (l_law_gatherings : K.lookup f_law_gatherings = some ⟨oc_law_gatherings, od_law_gatherings, .func (PySem.W.fnOf "_law_gatherings" "_law_gatherings" (defArgs s_law_gatherings) (defBody s_law_gatherings) (defScope s_law_gatherings) .none kV_law_gatherings dc_law_gatherings pm_law_gatherings an_law_gatherings cd_law_gatherings ct_law_gatherings), sl_law_gatherings⟩)
    (h_law_gatherings : PySem.W.codeIn K cd_law_gatherings "_law_gatherings" = true)
    (k_law_gatherings : PySem.W.keepIn K (.ref f_law_gatherings) = true)
    (a_law_total : PySem.W.nsIn K mainGlobals "_law_total" = some (some (.ref f_law_total)))
    (l_law_total : K.lookup f_law_total = some ⟨oc_law_total, od_law_total, .func (PySem.W.fnOf "_law_total" "_law_total" (defArgs s_law_total) (defBody s_law_total) (defScope s_law_total) .none kV_law_total dc_law_total pm_law_total an_law_total cd_law_total ct_law_total), sl_law_total⟩)
    (h_law_total : PySem.W.codeIn K cd_law_total "_law_total" = true)
    (k_law_total : PySem.W.keepIn K (.ref f_law_total) = true)
    (a_law_rows : PySem.W.nsIn K mainGlobals "_law_rows" = some (some (.ref f_law_rows)))
    (l_law_rows : K.lookup f_law_rows = some ⟨oc_law_rows, od_law_rows, .func (PySem.W.fnOf "_law_rows" "_law_rows" (defArgs s_law_rows) (defBody s_law_rows) (defScope s_law_rows) .none kV_law_rows dc_law_rows pm_law_rows an_law_rows cd_law_rows ct_law_rows), sl_law_rows⟩)
    (h_law_rows : PySem.W.codeIn K cd_law_rows "_law_rows" = true)
    (k_law_rows : PySem.W.keepIn K (.ref f_law_rows) = true)
    (a_law_alike : PySem.W.nsIn K mainGlobals "_law_alike" = some (some (.ref f_law_alike)))
    (l_law_alike : K.lookup f_law_alike = some ⟨oc_law_alike, od_law_alike, .func (PySem.W.fnOf "_law_alike" "_law_alike" (defArgs s_law_alike) (defBody s_law_alike) (defScope s_law_alike) .none kV_law_alike dc_law_alike pm_law_alike an_law_alike cd_law_alike ct_law_alike), sl_law_alike⟩)
    (h_law_alike : PySem.W.codeIn K cd_law_alike "_law_alike" = true)
    (k_law_alike : PySem.W.keepIn K (.ref f_law_alike) = true)
    (a_law : PySem.W.nsIn K mainGlobals "law" = some (some (.ref f_law)))
    (l_law : K.lookup f_law = some ⟨oc_law, od_law, .func (PySem.W.fnOf "law" "law" (defArgs s_law) (defBody s_law) (defScope s_law) .none kV_law dc_law pm_law an_law cd_law ct_law), sl_law⟩)
    (h_law : PySem.W.codeIn K cd_law "law" = true)
    (k_law : PySem.W.keepIn K (.ref f_law) = true)
    (z_isinstance : PySem.W.nsIn K mainGlobals "isinstance" = some none)
    (z_int : PySem.W.nsIn K mainGlobals "int" = some none)
    (z_bool : PySem.W.nsIn K mainGlobals "bool" = some none)
    (z_tuple : PySem.W.nsIn K mainGlobals "tuple" = some none)
    (z_list : PySem.W.nsIn K mainGlobals "list" = some none)
    (z_str : PySem.W.nsIn K mainGlobals "str" = some none)
    (z_len : PySem.W.nsIn K mainGlobals "len" = some none)
    (z_any : PySem.W.nsIn K mainGlobals "any" = some none)
    (z_all : PySem.W.nsIn K mainGlobals "all" = some none)
    (z_sum : PySem.W.nsIn K mainGlobals "sum" = some none)
    (z_range : PySem.W.nsIn K mainGlobals "range" = some none)
    (z_min : PySem.W.nsIn K mainGlobals "min" = some none)
    (z_max : PySem.W.nsIn K mainGlobals "max" = some none)
    (z_sorted : PySem.W.nsIn K mainGlobals "sorted" = some none)
    (z_zip : PySem.W.nsIn K mainGlobals "zip" = some none)
    (y_MOST_PEOPLE : PySem.W.nsIn K mainGlobals "MOST_PEOPLE" = some (some (.int 7 t_MOST_PEOPLE)))
    (y_MOST_ROW : PySem.W.nsIn K mainGlobals "MOST_ROW" = some (some (.int 30 t_MOST_ROW)))
    (y_MOST_GAIN : PySem.W.nsIn K mainGlobals "MOST_GAIN" = some (some (.int 1000 t_MOST_GAIN)))
    (y_MOST_COST : PySem.W.nsIn K mainGlobals "MOST_COST" = some (some (.int 1000 t_MOST_COST)))
    (y_MOST_TURNS : PySem.W.nsIn K mainGlobals "MOST_TURNS" = some (some (.int 8 t_MOST_TURNS)))
    : LamX.LawAtS l w K CX0 9 63 "_law_script" mg fa h := by
  have e0 := hfa.symm.trans (PySem.W.mg_of X G a_law)
  cases e0
  obtain ⟨C_need_web, T_need_web⟩ := tabX_at (x := "need_web") X tabs (by simp [genDefs]) (PySem.W.mg_of X G a_need_web) l_need_web rfl lc_need_web v_need_web
  obtain ⟨C_is_lot, T_is_lot⟩ := tabX_at (x := "is_lot") X tabs (by simp [genDefs]) (PySem.W.mg_of X G a_is_lot) l_is_lot rfl lc_is_lot v_is_lot
  obtain ⟨C_is_gathering, T_is_gathering⟩ := tabX_at (x := "is_gathering") X tabs (by simp [genDefs]) (PySem.W.mg_of X G a_is_gathering) l_is_gathering rfl lc_is_gathering v_is_gathering
  obtain ⟨C_is_row, T_is_row⟩ := tabX_at (x := "is_row") X tabs (by simp [genDefs]) (PySem.W.mg_of X G a_is_row) l_is_row rfl lc_is_row v_is_row
  obtain ⟨C_need_gains, T_need_gains⟩ := tabX_at (x := "need_gains") X tabs (by simp [genDefs]) (PySem.W.mg_of X G a_need_gains) l_need_gains rfl lc_need_gains v_need_gains
  obtain ⟨C_gain_of, T_gain_of⟩ := tabX_at (x := "gain_of") X tabs (by simp [genDefs]) (PySem.W.mg_of X G a_gain_of) l_gain_of rfl lc_gain_of v_gain_of
  obtain ⟨C_need_row_costs, T_need_row_costs⟩ := tabX_at (x := "need_row_costs") X tabs (by simp [genDefs]) (PySem.W.mg_of X G a_need_row_costs) l_need_row_costs rfl lc_need_row_costs v_need_row_costs
  obtain ⟨C_total_of, T_total_of⟩ := tabX_at (x := "total_of") X tabs (by simp [genDefs]) (PySem.W.mg_of X G a_total_of) l_total_of rfl lc_total_of v_total_of
  refine ⟨PySem.W.fnOf "law" "law" (defArgs s_law) (defBody s_law) (defScope s_law) .none kV_law dc_law pm_law an_law cd_law ct_law, [(c_need_web, q_need_web), (c_is_lot, q_is_lot), (c_is_gathering, q_is_gathering), (c_is_row, q_is_row), (c_need_gains, q_need_gains), (c_gain_of, q_gain_of), (c_need_row_costs, q_need_row_costs), (c_total_of, q_total_of)], sp_law K ([(c_need_web, q_need_web), (c_is_lot, q_is_lot), (c_is_gathering, q_is_gathering), (c_is_row, q_is_row), (c_need_gains, q_need_gains), (c_gain_of, q_gain_of), (c_need_row_costs, q_need_row_costs), (c_total_of, q_total_of)].map (·.2)), ?_, ?_, ?_, fun s v => .of_eq rfl, ?_, ?_⟩
  · exact (List.forall_mem_cons.mpr ⟨T_need_web, (List.forall_mem_cons.mpr ⟨T_is_lot, (List.forall_mem_cons.mpr ⟨T_is_gathering, (List.forall_mem_cons.mpr ⟨T_is_row, (List.forall_mem_cons.mpr ⟨T_need_gains, (List.forall_mem_cons.mpr ⟨T_gain_of, (List.forall_mem_cons.mpr ⟨T_need_row_costs, (List.forall_mem_cons.mpr ⟨T_total_of, (fun _ h => nomatch h)⟩)⟩)⟩)⟩)⟩)⟩)⟩)⟩)
  · exact (List.forall_mem_cons.mpr ⟨n_need_web, (List.forall_mem_cons.mpr ⟨n_is_lot, (List.forall_mem_cons.mpr ⟨n_is_gathering, (List.forall_mem_cons.mpr ⟨n_is_row, (List.forall_mem_cons.mpr ⟨n_need_gains, (List.forall_mem_cons.mpr ⟨n_gain_of, (List.forall_mem_cons.mpr ⟨n_need_row_costs, (List.forall_mem_cons.mpr ⟨n_total_of, (fun _ h => nomatch h)⟩)⟩)⟩)⟩)⟩)⟩)⟩)⟩)
  · exact (List.forall_mem_cons.mpr ⟨C_need_web, (List.forall_mem_cons.mpr ⟨C_is_lot, (List.forall_mem_cons.mpr ⟨C_is_gathering, (List.forall_mem_cons.mpr ⟨C_is_row, (List.forall_mem_cons.mpr ⟨C_need_gains, (List.forall_mem_cons.mpr ⟨C_gain_of, (List.forall_mem_cons.mpr ⟨C_need_row_costs, (List.forall_mem_cons.mpr ⟨C_total_of, (fun _ h => nomatch h)⟩)⟩)⟩)⟩)⟩)⟩)⟩)⟩)
  · intro H a ns _ _ hH hS
    refine ⟨a, ns, rfl, fun P hP => ?_, hS, fun _ => rfl⟩
    obtain ⟨p, hp, e⟩ := List.mem_map.mp hP
    exact ⟨#[], by rw [← e]; exact hH p hp, trivial⟩
  · intro base KB GB TBs
    have nm : Nm mg := ⟨PySem.W.mg_none_of X G z_isinstance, PySem.W.mg_none_of X G z_int, PySem.W.mg_none_of X G z_bool, PySem.W.mg_none_of X G z_tuple, PySem.W.mg_none_of X G z_list, PySem.W.mg_none_of X G z_str, PySem.W.mg_none_of X G z_len, PySem.W.mg_none_of X G z_any, PySem.W.mg_none_of X G z_all, PySem.W.mg_none_of X G z_sum, PySem.W.mg_none_of X G z_range, PySem.W.mg_none_of X G z_min, PySem.W.mg_none_of X G z_max, PySem.W.mg_none_of X G z_sorted, PySem.W.mg_none_of X G z_zip, ⟨_, PySem.W.mg_of X G y_MOST_PEOPLE⟩, ⟨_, PySem.W.mg_of X G y_MOST_ROW⟩, ⟨_, PySem.W.mg_of X G y_MOST_GAIN⟩, ⟨_, PySem.W.mg_of X G y_MOST_COST⟩, ⟨_, PySem.W.mg_of X G y_MOST_TURNS⟩⟩
    have F_is_in := fun_mk (st := s_is_in) l_is_in h_is_in k_is_in
    have F_are_foes := fun_mk (st := s_are_foes) l_are_foes h_are_foes k_are_foes
    have F_need_web := funT_mk (st := s_need_web) l_need_web h_need_web k_need_web
    have TB_need_web := TBs (c_need_web, q_need_web) (by simp)
    have F_is_lot := funT_mk (st := s_is_lot) l_is_lot h_is_lot k_is_lot
    have TB_is_lot := TBs (c_is_lot, q_is_lot) (by simp)
    have F_is_gathering := funT_mk (st := s_is_gathering) l_is_gathering h_is_gathering k_is_gathering
    have TB_is_gathering := TBs (c_is_gathering, q_is_gathering) (by simp)
    have F_need_gathering := fun_mk (st := s_need_gathering) l_need_gathering h_need_gathering k_need_gathering
    have F_all_lots := fun_mk (st := s_all_lots) l_all_lots h_all_lots k_all_lots
    have F_all_gatherings := fun_mk (st := s_all_gatherings) l_all_gatherings h_all_gatherings k_all_gatherings
    have F_came := fun_mk (st := s_came) l_came h_came k_came
    have F_is_row := funT_mk (st := s_is_row) l_is_row h_is_row k_is_row
    have TB_is_row := TBs (c_is_row, q_is_row) (by simp)
    have F_trace := fun_mk (st := s_trace) l_trace h_trace k_trace
    have F_need_gains := funT_mk (st := s_need_gains) l_need_gains h_need_gains k_need_gains
    have TB_need_gains := TBs (c_need_gains, q_need_gains) (by simp)
    have F_gain_of := funT_mk (st := s_gain_of) l_gain_of h_gain_of k_gain_of
    have TB_gain_of := TBs (c_gain_of, q_gain_of) (by simp)
    have F_need_row_costs := funT_mk (st := s_need_row_costs) l_need_row_costs h_need_row_costs k_need_row_costs
    have TB_need_row_costs := TBs (c_need_row_costs, q_need_row_costs) (by simp)
    have F_tables := fun_mk (st := s_tables) l_tables h_tables k_tables
    have F_need_stay := fun_mk (st := s_need_stay) l_need_stay h_need_stay k_need_stay
    have F_best_stay := fun_mk (st := s_best_stay) l_best_stay h_best_stay k_best_stay
    have F_total_of := funT_mk (st := s_total_of) l_total_of h_total_of k_total_of
    have TB_total_of := TBs (c_total_of, q_total_of) (by simp)
    have F_shows_best_stay := fun_mk (st := s_shows_best_stay) l_shows_best_stay h_shows_best_stay k_shows_best_stay
    have F_stay_worths := fun_mk (st := s_stay_worths) l_stay_worths h_stay_worths k_stay_worths
    have F_law_taken := fun_mk (st := s_law_taken) l_law_taken h_law_taken k_law_taken
    have F_law_pick := fun_mk (st := s_law_pick) l_law_pick h_law_pick k_law_pick
    have F_law_web := fun_mk (st := s_law_web) l_law_web h_law_web k_law_web
    have F_law_foes := fun_mk (st := s_law_foes) l_law_foes h_law_foes k_law_foes
    have F_law_come := fun_mk (st := s_law_come) l_law_come h_law_come k_law_come
    have F_law_lots := fun_mk (st := s_law_lots) l_law_lots h_law_lots k_law_lots
    have F_law_is_gathering := fun_mk (st := s_law_is_gathering) l_law_is_gathering h_law_is_gathering k_law_is_gathering
    have F_law_gatherings := fun_mk (st := s_law_gatherings) l_law_gatherings h_law_gatherings k_law_gatherings
    have F_law_total := fun_mk (st := s_law_total) l_law_total h_law_total k_law_total
    have F_law_rows := fun_mk (st := s_law_rows) l_law_rows h_law_rows k_law_rows
    have F_law_alike := fun_mk (st := s_law_alike) l_law_alike h_law_alike k_law_alike
    have F_law := fun_mk (st := s_law) l_law h_law k_law
    generalize hT0 : ([(c_need_web, q_need_web), (c_is_lot, q_is_lot), (c_is_gathering, q_is_gathering), (c_is_row, q_is_row), (c_need_gains, q_need_gains), (c_gain_of, q_gain_of), (c_need_row_costs, q_need_row_costs), (c_total_of, q_total_of)].map (·.2) : List Addr) = T
    have K_is_in : Cal l.prog w K mg base "is_in" 1 P_is_in sp_is_in := ⟨_, _, ok_is_in F_is_in nm, PySem.W.mg_of X G a_is_in, k_is_in, (F_is_in.binds (ps := P_is_in) fun _ _ _ _ _ _ us hl => match us, hl with | [_, _, _], _ => rfl)⟩
    have K_are_foes : Cal l.prog w K mg base "are_foes" 1 P_are_foes sp_are_foes := ⟨_, _, ok_are_foes F_are_foes nm, PySem.W.mg_of X G a_are_foes, k_are_foes, (F_are_foes.binds (ps := P_are_foes) fun _ _ _ _ _ _ us hl => match us, hl with | [_, _, _], _ => rfl)⟩
    have K_need_web : Cal l.prog w K mg base "need_web" 2 P_need_web (sp_need_web T) := ⟨_, _, ok_need_web F_need_web nm TB_need_web (T := T) (by rw [← hT0]; simp) K_is_in, PySem.W.mg_of X G a_need_web, k_need_web, (F_need_web.fn.binds (ps := P_need_web) fun _ _ _ _ _ _ us hl => match us, hl with | [_], _ => rfl)⟩
    have K_is_lot : Cal l.prog w K mg base "is_lot" 3 P_is_lot (sp_is_lot T) := ⟨_, _, ok_is_lot F_is_lot nm TB_is_lot (T := T) (by rw [← hT0]; simp) K_is_in, PySem.W.mg_of X G a_is_lot, k_is_lot, (F_is_lot.fn.binds (ps := P_is_lot) fun _ _ _ _ _ _ us hl => match us, hl with | [_, _], _ => rfl)⟩
    have K_is_gathering : Cal l.prog w K mg base "is_gathering" 5 P_is_gathering (sp_is_gathering T) := ⟨_, _, ok_is_gathering F_is_gathering nm TB_is_gathering (T := T) (by rw [← hT0]; simp) K_is_lot, PySem.W.mg_of X G a_is_gathering, k_is_gathering, (F_is_gathering.fn.binds (ps := P_is_gathering) fun _ _ _ _ _ _ us hl => match us, hl with | [_, _], _ => rfl)⟩
    have K_need_gathering : Cal l.prog w K mg base "need_gathering" 6 P_need_gathering (sp_need_gathering T) := ⟨_, _, ok_need_gathering F_need_gathering nm K_need_web K_is_gathering, PySem.W.mg_of X G a_need_gathering, k_need_gathering, (F_need_gathering.binds (ps := P_need_gathering) fun _ _ _ _ _ _ us hl => match us, hl with | [_, _], _ => rfl)⟩
    have K_all_lots : Cal l.prog w K mg base "all_lots" 1 P_all_lots sp_all_lots := ⟨_, _, ok_all_lots F_all_lots nm, PySem.W.mg_of X G a_all_lots, k_all_lots, (F_all_lots.binds (ps := P_all_lots) fun _ _ _ _ _ _ us hl => match us, hl with | [_], _ => rfl)⟩
    have K_all_gatherings : Cal l.prog w K mg base "all_gatherings" 6 P_all_gatherings (sp_all_gatherings T) := ⟨_, _, ok_all_gatherings F_all_gatherings nm K_all_lots K_is_gathering, PySem.W.mg_of X G a_all_gatherings, k_all_gatherings, (F_all_gatherings.binds (ps := P_all_gatherings) fun _ _ _ _ _ _ us hl => match us, hl with | [_], _ => rfl)⟩
    have K_came : Cal l.prog w K mg base "came" 2 P_came sp_came := ⟨_, _, ok_came F_came nm K_are_foes, PySem.W.mg_of X G a_came, k_came, (F_came.binds (ps := P_came) fun _ _ _ _ _ _ us hl => match us, hl with | [_, _, _], _ => rfl)⟩
    have K_is_row : Cal l.prog w K mg base "is_row" 3 P_is_row (sp_is_row T) := ⟨_, _, ok_is_row F_is_row nm TB_is_row (T := T) (by rw [← hT0]; simp) K_is_in, PySem.W.mg_of X G a_is_row, k_is_row, (F_is_row.fn.binds (ps := P_is_row) fun _ _ _ _ _ _ us hl => match us, hl with | [_, _], _ => rfl)⟩
    have K_trace : Cal l.prog w K mg base "trace" 3 P_trace sp_trace := ⟨_, _, ok_trace F_trace nm K_came, PySem.W.mg_of X G a_trace, k_trace, (F_trace.binds (ps := P_trace) fun _ _ _ _ _ _ us hl => match us, hl with | [_, _, _], _ => rfl)⟩
    have K_need_gains : Cal l.prog w K mg base "need_gains" 3 P_need_gains (sp_need T) := ⟨_, _, ok_need_gains F_need_gains nm TB_need_gains (T := T) (by rw [← hT0]; simp) K_is_in, PySem.W.mg_of X G a_need_gains, k_need_gains, (F_need_gains.fn.binds (ps := P_need_gains) fun _ _ _ _ _ _ us hl => match us, hl with | [_, _], _ => rfl)⟩
    have K_gain_of : Cal l.prog w K mg base "gain_of" 2 P_gain_of (sp_gain_of T) := ⟨_, _, ok_gain_of F_gain_of nm TB_gain_of (T := T) (by rw [← hT0]; simp), PySem.W.mg_of X G a_gain_of, k_gain_of, (F_gain_of.fn.binds (ps := P_gain_of) fun _ _ _ _ _ _ us hl => match us, hl with | [_, _], _ => rfl)⟩
    have K_need_row_costs : Cal l.prog w K mg base "need_row_costs" 3 P_need_row_costs (sp_need T) := ⟨_, _, ok_need_row_costs F_need_row_costs nm TB_need_row_costs (T := T) (by rw [← hT0]; simp) K_is_in, PySem.W.mg_of X G a_need_row_costs, k_need_row_costs, (F_need_row_costs.fn.binds (ps := P_need_row_costs) fun _ _ _ _ _ _ us hl => match us, hl with | [_, _], _ => rfl)⟩
    have K_tables : Cal l.prog w K mg base "tables" 7 P_tables (sp_tables T) := ⟨_, _, ok_tables F_tables nm K_all_gatherings K_came K_gain_of, PySem.W.mg_of X G a_tables, k_tables, (F_tables.binds (ps := P_tables) fun _ _ _ _ _ _ us hl => match us, hl with | [_, _, _, _], _ => rfl)⟩
    have K_need_stay : Cal l.prog w K mg base "need_stay" 4 P_need_stay (sp_need_stay T) := ⟨_, _, ok_need_stay F_need_stay nm K_need_gains K_need_row_costs K_is_in, PySem.W.mg_of X G a_need_stay, k_need_stay, (F_need_stay.binds (ps := P_need_stay) fun _ _ _ _ _ _ us hl => match us, hl with | [_, _, _, _], _ => rfl)⟩
    have K_best_stay : Cal l.prog w K mg base "best_stay" 8 P_best_stay (sp_best_stay T) := ⟨_, _, ok_best_stay F_best_stay nm K_need_gathering K_need_stay K_tables K_came K_gain_of, PySem.W.mg_of X G a_best_stay, k_best_stay, (F_best_stay.binds (ps := P_best_stay) fun _ _ _ _ _ _ us hl => match us, hl with | [_, _, _, _, _], _ => rfl)⟩
    have K_total_of : Cal l.prog w K mg base "total_of" 4 P_total_of (sp_total_of T) := ⟨_, _, ok_total_of F_total_of nm TB_total_of (T := T) (by rw [← hT0]; simp) K_trace K_gain_of, PySem.W.mg_of X G a_total_of, k_total_of, (F_total_of.fn.binds (ps := P_total_of) fun _ _ _ _ _ _ us hl => match us, hl with | [_, _, _, _, _], _ => rfl)⟩
    have K_shows_best_stay : Cal l.prog w K mg base "shows_best_stay" 8 P_shows_best_stay (sp_shows T) := ⟨_, _, ok_shows_best_stay F_shows_best_stay nm K_need_gathering K_need_stay K_tables K_is_in K_is_row K_total_of, PySem.W.mg_of X G a_shows_best_stay, k_shows_best_stay, (F_shows_best_stay.binds (ps := P_shows_best_stay) fun _ _ _ _ _ _ us hl => match us, hl with | [_, _, _, _, _, _], _ => rfl)⟩
    have K_stay_worths : Cal l.prog w K mg base "stay_worths" 8 P_stay_worths (sp_stay_worths T) := ⟨_, _, ok_stay_worths F_stay_worths nm K_need_web K_need_stay K_tables, PySem.W.mg_of X G a_stay_worths, k_stay_worths, (F_stay_worths.binds (ps := P_stay_worths) fun _ _ _ _ _ _ us hl => match us, hl with | [_, _, _, _], _ => rfl)⟩
    have K_law_taken : Cal l.prog w K mg base "_law_taken" 1 P_law_taken (sp_taken K) := ⟨_, _, ok_law_taken F_law_taken nm, PySem.W.mg_of X G a_law_taken, k_law_taken, (F_law_taken.binds (ps := P_law_taken) fun _ _ _ _ _ _ us hl => match us, hl with | [_, _], _ => rfl)⟩
    have K_law_pick : Cal l.prog w K mg base "_law_pick" 2 P_law_pick (sp_pick K) := ⟨_, _, ok_law_pick F_law_pick nm K_law_taken, PySem.W.mg_of X G a_law_pick, k_law_pick, (F_law_pick.binds (ps := P_law_pick) fun _ _ _ _ _ _ us hl => match us, hl with | [_, _], _ => rfl)⟩
    have K_law_web : Cal l.prog w K mg base "_law_web" 2 P_law_web (sp_law_web K) := ⟨_, _, ok_law_web F_law_web nm K_law_taken, PySem.W.mg_of X G a_law_web, k_law_web, (F_law_web.binds (ps := P_law_web) fun _ _ _ _ _ _ us hl => match us, hl with | [_, _], _ => rfl)⟩
    have K_law_foes : Cal l.prog w K mg base "_law_foes" 1 P_law_foes sp_law_foes := ⟨_, _, ok_law_foes F_law_foes nm, PySem.W.mg_of X G a_law_foes, k_law_foes, (F_law_foes.binds (ps := P_law_foes) fun _ _ _ _ _ _ us hl => match us, hl with | [_, _], _ => rfl)⟩
    have K_law_come : Cal l.prog w K mg base "_law_come" 2 P_law_come sp_law_come := ⟨_, _, ok_law_come F_law_come nm K_law_foes, PySem.W.mg_of X G a_law_come, k_law_come, (F_law_come.binds (ps := P_law_come) fun _ _ _ _ _ _ us hl => match us, hl with | [_, _, _], _ => rfl)⟩
    have K_law_lots : Cal l.prog w K mg base "_law_lots" 1 P_law_lots sp_all_lots := ⟨_, _, ok_law_lots F_law_lots nm, PySem.W.mg_of X G a_law_lots, k_law_lots, (F_law_lots.binds (ps := P_law_lots) fun _ _ _ _ _ _ us hl => match us, hl with | [_], _ => rfl)⟩
    have K_law_is_gathering : Cal l.prog w K mg base "_law_is_gathering" 1 P_law_is_gathering sp_law_is_gathering := ⟨_, _, ok_law_is_gathering F_law_is_gathering nm, PySem.W.mg_of X G a_law_is_gathering, k_law_is_gathering, (F_law_is_gathering.binds (ps := P_law_is_gathering) fun _ _ _ _ _ _ us hl => match us, hl with | [_, _], _ => rfl)⟩
    have K_law_gatherings : Cal l.prog w K mg base "_law_gatherings" 2 P_law_gatherings sp_law_gatherings := ⟨_, _, ok_law_gatherings F_law_gatherings nm K_law_lots K_law_is_gathering, PySem.W.mg_of X G a_law_gatherings, k_law_gatherings, (F_law_gatherings.binds (ps := P_law_gatherings) fun _ _ _ _ _ _ us hl => match us, hl with | [_], _ => rfl)⟩
    have K_law_total : Cal l.prog w K mg base "_law_total" 3 P_law_total sp_law_total := ⟨_, _, ok_law_total F_law_total nm K_law_come, PySem.W.mg_of X G a_law_total, k_law_total, (F_law_total.binds (ps := P_law_total) fun _ _ _ _ _ _ us hl => match us, hl with | [_, _, _, _, _], _ => rfl)⟩
    have K_law_rows : Cal l.prog w K mg base "_law_rows" 1 P_law_rows sp_law_rows := ⟨_, _, ok_law_rows F_law_rows nm, PySem.W.mg_of X G a_law_rows, k_law_rows, (F_law_rows.binds (ps := P_law_rows) fun _ _ _ _ _ _ us hl => match us, hl with | [_, _], _ => rfl)⟩
    have K_al : Cal l.prog w K mg base "_law_alike" 1 P_law_alike sp_al := ⟨_, _, ok_al F_law_alike, PySem.W.mg_of X G a_law_alike, k_law_alike, (F_law_alike.binds (ps := P_law_alike) fun _ _ _ _ _ _ us hl => match us, hl with | [_, _], _ => rfl)⟩
    have K_al0 : Cal l.prog w K mg base "_law_alike" 2 P_law_alike sp_al0 := ⟨_, _, ok_al0 F_law_alike nm K_al, PySem.W.mg_of X G a_law_alike, k_law_alike, (F_law_alike.binds (ps := P_law_alike) fun _ _ _ _ _ _ us hl => match us, hl with | [_, _], _ => rfl)⟩
    have K_al1 : Cal l.prog w K mg base "_law_alike" 3 P_law_alike (sp_alS sp_al0) := ⟨_, _, ok_alS F_law_alike nm K_al0, PySem.W.mg_of X G a_law_alike, k_law_alike, (F_law_alike.binds (ps := P_law_alike) fun _ _ _ _ _ _ us hl => match us, hl with | [_, _], _ => rfl)⟩
    have K_al2 : Cal l.prog w K mg base "_law_alike" 4 P_law_alike (sp_alS (sp_alS sp_al0)) := ⟨_, _, ok_alS F_law_alike nm K_al1, PySem.W.mg_of X G a_law_alike, k_law_alike, (F_law_alike.binds (ps := P_law_alike) fun _ _ _ _ _ _ us hl => match us, hl with | [_, _], _ => rfl)⟩
    exact ok_law F_law nm ⟨K_best_stay, K_shows_best_stay, K_stay_worths, K_law_taken, K_law_pick, K_law_web, K_al0, K_al2, K_law_come, K_law_gatherings, K_law_total, K_law_rows⟩
end Fo
open PySem PySem.W PyProof.Rows
set_option maxRecDepth 100000 in
set_option maxHeartbeats 0 in
theorem PySem.Challenge.cw_foescome_k25_whole_stays_in_time_holds : PySem.Challenge.rw_foescome_k25_whole_stays_in_time.Holds := by
  (w_on; o_law; k_head; (case hw => w_witness2))
  k_fill
  refine Fo.walk_ofAll (l := PySem.Challenge.rw_foescome_k25_whole_stays_in_time) (n := 63) (k := 9) (x := "_law_script") (CX := fun _ => L2.CX0) Fo.genDefs rfl (by decide) rfl ⟨rfl, by decide, by decide⟩ (by decide +kernel) (fun w h Y => PySem.W.kIn_of Y) ?F fun _ _ _ _ _ z => z
  case F =>
    intro w mg fa h KX G hmg tabs
    refine' Fo.all_mk KX G hmg tabs ?a_is_in ?l_is_in ?h_is_in ?k_is_in ?a_are_foes ?l_are_foes ?h_are_foes ?k_are_foes ?a_need_web ?l_need_web ?h_need_web ?k_need_web ?lc_need_web ?v_need_web ?n_need_web ?a_is_lot ?l_is_lot ?h_is_lot ?k_is_lot ?lc_is_lot ?v_is_lot ?n_is_lot ?a_is_gathering ?l_is_gathering ?h_is_gathering ?k_is_gathering ?lc_is_gathering ?v_is_gathering ?n_is_gathering ?a_need_gathering ?l_need_gathering ?h_need_gathering ?k_need_gathering ?a_all_lots ?l_all_lots ?h_all_lots ?k_all_lots ?a_all_gatherings ?l_all_gatherings ?h_all_gatherings ?k_all_gatherings ?a_came ?l_came ?h_came ?k_came ?a_is_row ?l_is_row ?h_is_row ?k_is_row ?lc_is_row ?v_is_row ?n_is_row ?a_trace ?l_trace ?h_trace ?k_trace ?a_need_gains ?l_need_gains ?h_need_gains ?k_need_gains ?lc_need_gains ?v_need_gains ?n_need_gains ?a_gain_of ?l_gain_of ?h_gain_of ?k_gain_of ?lc_gain_of ?v_gain_of ?n_gain_of ?a_need_row_costs ?l_need_row_costs ?h_need_row_costs ?k_need_row_costs ?lc_need_row_costs ?v_need_row_costs ?n_need_row_costs ?a_tables ?l_tables ?h_tables ?k_tables ?a_need_stay ?l_need_stay ?h_need_stay ?k_need_stay ?a_best_stay ?l_best_stay ?h_best_stay ?k_best_stay ?a_total_of ?l_total_of ?h_total_of ?k_total_of ?lc_total_of ?v_total_of ?n_total_of ?a_shows_best_stay ?l_shows_best_stay ?h_shows_best_stay ?k_shows_best_stay ?a_stay_worths ?l_stay_worths ?h_stay_worths ?k_stay_worths ?a_law_taken ?l_law_taken ?h_law_taken ?k_law_taken ?a_law_pick ?l_law_pick ?h_law_pick ?k_law_pick ?a_law_web ?l_law_web ?h_law_web ?k_law_web ?a_law_foes ?l_law_foes ?h_law_foes ?k_law_foes ?a_law_come ?l_law_come ?h_law_come ?k_law_come ?a_law_lots ?l_law_lots ?h_law_lots ?k_law_lots ?a_law_is_gathering ?l_law_is_gathering ?h_law_is_gathering ?k_law_is_gathering ?a_law_gatherings ?l_law_gatherings ?h_law_gatherings ?k_law_gatherings ?a_law_total ?l_law_total ?h_law_total ?k_law_total ?a_law_rows ?l_law_rows ?h_law_rows ?k_law_rows ?a_law_alike ?l_law_alike ?h_law_alike ?k_law_alike ?a_law ?l_law ?h_law ?k_law ?z_isinstance ?z_int ?z_bool ?z_tuple ?z_list ?z_str ?z_len ?z_any ?z_all ?z_sum ?z_range ?z_min ?z_max ?z_sorted ?z_zip ?y_MOST_PEOPLE ?y_MOST_ROW ?y_MOST_GAIN ?y_MOST_COST ?y_MOST_TURNS
    (case a_is_in => k_is)
    (case l_is_in => k_is)
    (case h_is_in => k_is)
    (case k_is_in => k_is)
    (case a_are_foes => k_is)
    (case l_are_foes => k_is)
    (case h_are_foes => k_is)
    (case k_are_foes => k_is)
    (case a_need_web => k_is)
    (case l_need_web => k_is)
    (case h_need_web => k_is)
    (case k_need_web => k_is)
    (case lc_need_web => k_is)
    (case v_need_web => exact rfl)
    (case n_need_web => kernel_rfl)
    (case a_is_lot => k_is)
    (case l_is_lot => k_is)
    (case h_is_lot => k_is)
    (case k_is_lot => k_is)
    (case lc_is_lot => k_is)
    (case v_is_lot => exact rfl)
    (case n_is_lot => kernel_rfl)
    (case a_is_gathering => k_is)
    (case l_is_gathering => k_is)
    (case h_is_gathering => k_is)
    (case k_is_gathering => k_is)
    (case lc_is_gathering => k_is)
    (case v_is_gathering => exact rfl)
    (case n_is_gathering => kernel_rfl)
    (case a_need_gathering => k_is)
    (case l_need_gathering => k_is)
    (case h_need_gathering => k_is)
    (case k_need_gathering => k_is)
    (case a_all_lots => k_is)
    (case l_all_lots => k_is)
    (case h_all_lots => k_is)
    (case k_all_lots => k_is)
    (case a_all_gatherings => k_is)
    (case l_all_gatherings => k_is)
    (case h_all_gatherings => k_is)
    (case k_all_gatherings => k_is)
    (case a_came => k_is)
    (case l_came => k_is)
    (case h_came => k_is)
    (case k_came => k_is)
    (case a_is_row => k_is)
    (case l_is_row => k_is)
    (case h_is_row => k_is)
    (case k_is_row => k_is)
    (case lc_is_row => k_is)
    (case v_is_row => exact rfl)
    (case n_is_row => kernel_rfl)
    (case a_trace => k_is)
    (case l_trace => k_is)
    (case h_trace => k_is)
    (case k_trace => k_is)
    (case a_need_gains => k_is)
    (case l_need_gains => k_is)
    (case h_need_gains => k_is)
    (case k_need_gains => k_is)
    (case lc_need_gains => k_is)
    (case v_need_gains => exact rfl)
    (case n_need_gains => kernel_rfl)
    (case a_gain_of => k_is)
    (case l_gain_of => k_is)
    (case h_gain_of => k_is)
    (case k_gain_of => k_is)
    (case lc_gain_of => k_is)
    (case v_gain_of => exact rfl)
    (case n_gain_of => kernel_rfl)
    (case a_need_row_costs => k_is)
    (case l_need_row_costs => k_is)
    (case h_need_row_costs => k_is)
    (case k_need_row_costs => k_is)
    (case lc_need_row_costs => k_is)
    (case v_need_row_costs => exact rfl)
    (case n_need_row_costs => kernel_rfl)
    (case a_tables => k_is)
    (case l_tables => k_is)
    (case h_tables => k_is)
    (case k_tables => k_is)
    (case a_need_stay => k_is)
    (case l_need_stay => k_is)
    (case h_need_stay => k_is)
    (case k_need_stay => k_is)
    (case a_best_stay => k_is)
    (case l_best_stay => k_is)
    (case h_best_stay => k_is)
    (case k_best_stay => k_is)
    (case a_total_of => k_is)
    (case l_total_of => k_is)
    (case h_total_of => k_is)
    (case k_total_of => k_is)
    (case lc_total_of => k_is)
    (case v_total_of => exact rfl)
    (case n_total_of => kernel_rfl)
    (case a_shows_best_stay => k_is)
    (case l_shows_best_stay => k_is)
    (case h_shows_best_stay => k_is)
    (case k_shows_best_stay => k_is)
    (case a_stay_worths => k_is)
    (case l_stay_worths => k_is)
    (case h_stay_worths => k_is)
    (case k_stay_worths => k_is)
    (case a_law_taken => k_is)
    (case l_law_taken => k_is)
    (case h_law_taken => k_is)
    (case k_law_taken => k_is)
    (case a_law_pick => k_is)
    (case l_law_pick => k_is)
    (case h_law_pick => k_is)
    (case k_law_pick => k_is)
    (case a_law_web => k_is)
    (case l_law_web => k_is)
    (case h_law_web => k_is)
    (case k_law_web => k_is)
    (case a_law_foes => k_is)
    (case l_law_foes => k_is)
    (case h_law_foes => k_is)
    (case k_law_foes => k_is)
    (case a_law_come => k_is)
    (case l_law_come => k_is)
    (case h_law_come => k_is)
    (case k_law_come => k_is)
    (case a_law_lots => k_is)
    (case l_law_lots => k_is)
    (case h_law_lots => k_is)
    (case k_law_lots => k_is)
    (case a_law_is_gathering => k_is)
    (case l_law_is_gathering => k_is)
    (case h_law_is_gathering => k_is)
    (case k_law_is_gathering => k_is)
    (case a_law_gatherings => k_is)
    (case l_law_gatherings => k_is)
    (case h_law_gatherings => k_is)
    (case k_law_gatherings => k_is)
    (case a_law_total => k_is)
    (case l_law_total => k_is)
    (case h_law_total => k_is)
    (case k_law_total => k_is)
    (case a_law_rows => k_is)
    (case l_law_rows => k_is)
    (case h_law_rows => k_is)
    (case k_law_rows => k_is)
    (case a_law_alike => k_is)
    (case l_law_alike => k_is)
    (case h_law_alike => k_is)
    (case k_law_alike => k_is)
    (case a_law => k_is)
    (case l_law => k_is)
    (case h_law => k_is)
    (case k_law => k_is)
    (case z_isinstance => k_is)
    (case z_int => k_is)
    (case z_bool => k_is)
    (case z_tuple => k_is)
    (case z_list => k_is)
    (case z_str => k_is)
    (case z_len => k_is)
    (case z_any => k_is)
    (case z_all => k_is)
    (case z_sum => k_is)
    (case z_range => k_is)
    (case z_min => k_is)
    (case z_max => k_is)
    (case z_sorted => k_is)
    (case z_zip => k_is)
    (case y_MOST_PEOPLE => k_is)
    (case y_MOST_ROW => k_is)
    (case y_MOST_GAIN => k_is)
    (case y_MOST_COST => k_is)
    (case y_MOST_TURNS => k_is)
