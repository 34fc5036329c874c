import PyProof.Rows.All
import Wide.All
import OpenK.AllK
import Wide.FinOn
import HandS.ForMost
import HandS.ForExc
import HandS.AnyAll
import HandS.GenList
import PyProof.TupleOfGen
import KE.SortData
import PyProof.SumAny
import HandS.Walk
import HandS.Zip
import KE.GoesMore
import KE.GoesEnum
import KE.GoesZip
import HandS.More
import HandS.Conv
import KE.DataMinMax
import HandS.Style
import HandS.TupAny
import HandS.Small
import HandS.FStr
import HandS.DictComp
import HandS.Lambda
import HandS.EndTab
import KE.DataEq
import HandS.HeadHook4
import HandS.HeadWalk
import HandS.Defaults
import PySem.Challenge.RW_diarystack_k02_spans_of_time
import HandS.Head0
import HandS.Head1
import HandS.Head2
import KE.KStateDown
import Lean
section
set_option Elab.async false
set_option linter.all false
set_option maxRecDepth 100000
set_option maxHeartbeats 1000000
/-! Gx, part A: generator expressions over the hand layer: the running generator. -/
namespace Gx
open PySem PySem.Spec PyProof.Rows L2 GenW

/-- the generator expression's own scope -/
structure GOk (N : List Str) (sc scope : Scope) (own : List (Str × Nat)) : Prop where
  kind : scope.kind = .function
  co : scope.isCoroutine = false
  dot : scope.names.lookup (".0" : Str) = some NameKind.local
  cell : ∀ y ∈ scope.names, y.2 ≠ .cell
  free : ∀ y ∈ scope.names, y.2 = .free → sc.names.lookup y.1 = some .cell ∨ sc.names.lookup y.1 = some .free
  own : ∀ i x, N[i]? = some x → scope.names.lookup x = some .local → i ∈ own.map (·.2)
abbrev gEnv (X : Cx) (scope : Scope) (C : Addr) (code : Value) : Env := genEnv scope (cloFrom X.env.cells scope.names []) C code builtinsNs X.env
/-- the context of the running generator, made at s -/
def gxCx (X : Cx) (A : Around) (s : Shared) (H : Hp) (scope : Scope) (code : Value) (fp : List Addr) : Cx :=
  { X with A := A.deeper (gEnv X scope s.heap.objs.size code), s_0 := s, H_0 := H, env := gEnv X scope s.heap.objs.size code, outer := X.stack, stack := gEnv X scope s.heap.objs.size code :: X.stack, ex := fp, fn := fun _ => false, calm := true, pn := [], xe := fun _ _ => False }
theorem GOk.has {X : Cx} {scope : Scope} {own : List (Str × Nat)} {N : List Str} (L : GOk N X.env.scope scope own) (ok : X.Ok) : ∀ y ∈ scope.names, y.2 = .free → ∃ c, X.env.cells.lookup y.1 = some c := fun y hy e => by
  rcases L.free y hy e with k | k
  · exact ok.has _ (.inl k)
  · exact ok.has _ (.inr k)
section
variable {X : Cx} {pins : List (Addr × Obj)} {σ : L2.St} {H : Hp} {s : Shared}
theorem gx_start {A : Around} {scope : Scope} {own : List (Str × Nat)} {code v0 : Value} {fp : List Addr} {s' : Shared} (I : Inv X pins σ H s) (L : GOk X.N X.env.scope scope own) (hfp : ∀ b ∈ fp, FpOk X pins H b ∧ b < s.heap.objs.size)
    (hA : A.handled = none) (hfr : A.frames = some X.stack) (hns : s'.heap.Ns s.heap.objs.size fun y => if y = (".0" : Str) then some v0 else none) (kp : ∀ b o, s.heap.get? b = some o → s'.heap.get? b = some o) (hos : s'.os = s.os) (hb : AllBare s'.gens) :
    Inv (gxCx X A s H scope code fp) [] (wipe σ (own.map (·.2))) H s' := by
  have hfree := L.has I.ok
  have cm : ∀ {y c}, (cloFrom X.env.cells scope.names []).lookup y = some c → X.env.cells.lookup y = some c := fun {y c} e => by
    rcases cloFrom_mem (PySem.mem_of_lookup e) with hm | ⟨h1, h2⟩
    · cases hm
    · obtain ⟨c1, hc⟩ := hfree _ h1 rfl
      have hc : X.env.cells.lookup y = some c1 := hc
      have e2 : c = c1 := by
        rw [h2, hc] <;> rfl
      rw [e2]
      exact hc
  have look : ∀ {y}, scope.names.lookup y = some .free → ∃ c, (cloFrom X.env.cells scope.names []).lookup y = some c := fun {y} hl => by
    have hy : (y, NameKind.free) ∈ scope.names := PySem.mem_of_lookup hl
    exact mem_lookup (cloFrom_has (cells := X.env.cells) (acc := []) hy)
  have cellK : ∀ {c : Addr} {v : Option Value}, s.heap.IsCell c v → s'.heap.IsCell c v := fun {c v} ⟨o, ho, hd⟩ => ⟨_, kp _ _ ho, hd⟩
  have clt : ∀ {y c}, (cloFrom X.env.cells scope.names []).lookup y = some c → c < s.heap.objs.size := fun {y c} e => by
    obtain ⟨v, z⟩ := I.cell y c (cm e)
    exact z.lt
  have hok : (gxCx X A s H scope code fp).Ok := by
    refine ⟨I.ok.mod, L.kind, I.ok.glob, rfl, Nat.le_refl _, fun y z c e1 e2 => I.ok.inj y z c (cm e1) (cm e2), fun y hy => ?_, fun y c z _ => ?_, fun _ => hA, Around.frames_deeper hfr, .inr ⟨rfl, rfl⟩, fun b hb => ⟨?_, fun y c e z => ?_⟩, I.bs, Nat.le_trans I.ok.bsz I.sz, fun b o e hb => ?_,
      fun b hb z => ?_, I.stack, I.stkFree⟩
    · have hy : scope.names.lookup y = some .cell ∨ scope.names.lookup y = some .free := hy
      rcases hy with hy | hy
      · exact absurd rfl (L.cell _ (PySem.mem_of_lookup hy))
      · exact look hy
    · have z : false = true := z
      cases z
    · show b ≠ s.heap.objs.size
      exact Nat.ne_of_lt (hfp b hb).2
    · have e : (cloFrom X.env.cells scope.names []).lookup y = some c := e
      exact (hfp b hb).1.2.2.2.2.1 y c (cm e) z
    · rcases (hfp b hb).1.2.2.2.1 with z | z
      · exact I.ok.noex b o e z
      · exact absurd (Nat.lt_of_lt_of_le (Heap.lt_size e) (Nat.le_trans I.ok.bsz z)) (Nat.lt_irrefl _)
    · rcases List.mem_cons.mp (I.stkSub b z) with y | y
      · exact (hfp b hb).1.2.1 y
      · exact (hfp b hb).1.2.2.1 y
  refine ⟨hok, hos, hb, Un.kept kp, ⟨_, hns, fun i y v e1 e2 e3 => ?_⟩, fun y c e => ?_, I.hok.fresh (Nat.le_refl _), fun y c e => ?_, fun q hq => absurd (show q ∈ ([] : List (Addr × Obj)) ++ [] from hq) (by simp), I.hok.kept kp, by rw [wipe_length]; exact I.len⟩
  · have e3 : Vis scope y := e3
    obtain ⟨e2', hni⟩ := wipe_some e2
    rcases e3 with k | k | k
    · exact absurd (L.own i y e1 k) hni
    · exact absurd rfl (L.cell _ (PySem.mem_of_lookup k))
    · obtain ⟨m, hn, hl⟩ := I.loc
      have hvis : Vis X.env.scope y := (L.free _ (PySem.mem_of_lookup k) rfl).elim (fun k => .inr (.inl k)) (fun k => .inr (.inr k))
      obtain ⟨w', r, q⟩ := hl i y v e1 e2' hvis
      obtain ⟨c2, h2⟩ := look k
      refine ⟨w', r, .inr ⟨.inr k, c2, h2, ?_⟩⟩
      have c1 := cm h2
      rcases q with ⟨k', _⟩ | ⟨_, c3, e', z⟩
      · have k' : X.env.scope.names.lookup y = some .local := k'
        rcases L.free _ (PySem.mem_of_lookup k) rfl with k2 | k2 <;> rw [show X.env.scope.names.lookup y = _ from k2] at k' <;> cases k'
      · rw [c1] at e'
        cases e'
        exact cellK z
  · obtain ⟨w', z⟩ := I.cell y c (cm e)
    exact ⟨w', cellK z⟩
  · exact I.freeC y c (cm e)

/-! ### the loop -/
abbrev gLoop (X : Cx) (elt tg iter : Expr) (ifs : List Expr) (scope : Scope) (pos : Pos) (it : Addr) : Code := .compLoop (.GeneratorExp elt [⟨tg, iter, ifs, 0⟩] scope pos) 0 (.ref it) .none X.env
theorem seg_loop {A : Around} {R : GenEnd} {Y : Protocol} {elt tg iter : Expr} {ifs : List Expr} {scope : Scope} {pos : Pos} {it : Addr} {fp : List Addr} {tn : Nat → Heap → Prop} {Jt : It} {σw : L2.St} {vs : List Nat} {g : TG} {tt : TT} {te : TE} {J : List V → List (Addr × Obj) → Prop}
    {W : Nat → Nat → List V → Hp → Prop} {Qe : List V → Hp → Prop} {Yd : List V → V → Hp → Prop} {Go : V → Prop}
    (hcalm : X.calm = true) (hex : X.ex = fp) (hxe : X.xe = fun _ _ => False) (hco : X.env.scope.isCoroutine = false) (over : A.over (gLoop X elt tg iter ifs scope pos it) [] = X.A)
    (T : Turn X.prog X.w X.K tg Jt fp it tn) (pg : PG X tg g) (pt : PTs X ifs tt) (pe : PE X elt te) (hJ : ∀ ys pins, J ys pins → ∀ p ∈ X.pn ++ pins, p.1 ∉ fp) (hσ : wipe σw vs = σw)
    (turn : ∀ i m ys H, W i m ys H → (Jt.stop i H ∧ Qe ys H) ∨ (Jt.go i H ∧ ∃ Nx : List V → Hp → Prop, (∀ ys' H', Nx ys' H' → ∃ m', m' < m ∧ W (i + 1) m' ys' H') ∧ ∀ x H', Jt.yld i H x H' → g x σw H' fun σ2 H2 => wipe σ2 vs = σw ∧ tt σ2 H2 fun b H3 =>
      if b = true then te σ2 H3 fun y H4 => ys.length < sizeLine ∧ Yd ys y H4 ∧ (Go y → Nx (ys ++ [y]) H4) else Nx ys H3))
    (hend : ∀ (n : Nat) (ys : List V) (pins : List (Addr × Obj)) (σ : L2.St) (H : Hp) (s₀ s : Shared), n + ys.length = sizeLine → J ys pins → (∀ p ∈ pins, s₀.heap.get? p.1 = some p.2) → Inv X pins σ H s → Qe ys H → R n s₀ (.ok .next) s)
    (hyield : ∀ (n : Nat) (ys : List V) (y : V) (v : Value) (pins ip : List (Addr × Obj)) (σ : L2.St) (H : Hp) (s₀ s : Shared) (kap : Resume → Shared → Prop), n + 1 + ys.length = sizeLine → RelV y v → J ys pins → (∀ p ∈ pins, s₀.heap.get? p.1 = some p.2) → (∀ p ∈ ip, p.1 ∈ fp) → Inv X (pins ++ ip) σ H s → Yd ys y H →
      (Go y → ∀ (pins' : List (Addr × Obj)) (s' : Shared), J (ys ++ [y]) pins' → Inv X (pins' ++ ip) σ H s' → kap (.send .none) s') → Y n s₀ v s kap) :
    ∀ (m n i : Nat) (ys : List V) (s₀ s : Shared) (pins : List (Addr × Obj)) (H : Hp), n + ys.length = sizeLine → W i m ys H → J ys pins → Inv X pins σw H s → tn i s.heap → (∀ b ∈ fp, H b = none) → (∀ p ∈ pins, s₀.heap.get? p.1 = some p.2) →
      Seg (model X.prog X.w) A R Y n s₀ (gLoop X elt tg iter ifs scope pos it) ((model X.prog X.w).den (gLoop X elt tg iter ifs scope pos it)) [] s := by
  have fpok : ∀ {ys pins σ' H' s'}, J ys pins → Inv X pins σ' H' s' → (∀ b ∈ fp, H' b = none) → ∀ b ∈ fp, FpOk X pins H' b := fun {ys pins σ' H' s'} hj I' hn b hb =>
    ⟨hn b hb, (I'.ok.exf b (hex ▸ hb)).1, I'.ok.exfs b (hex ▸ hb), .inl (hex ▸ hb), fun x c e => (I'.ok.exf b (hex ▸ hb)).2 x c e, fun p hp z => hJ ys pins hj p hp (by rw [z]; exact hb)⟩
  have nox : ∀ {α : Type} {t : Sem α} {Q : α → Shared → Prop} {E : Value → Shared → Prop} {s : Shared}, wpAny (model X.prog X.w) X.A t Q X.xe s → wpAny (model X.prog X.w) X.A t Q E s := fun h => wpAny_mono h (fun _ _ q => q) fun _ _ q => by rw [hxe] at q; exact q.elim
  intro m
  induction m using Nat.strongRecOn with
  | ind m ih =>
    intro n i ys s₀ s pins H hn hw hj I st hf hs0
    show Seg _ A _ _ _ s₀ _ ((compTurn (.GeneratorExp elt [⟨tg, iter, ifs, 0⟩] scope pos) 0 (.ref it) .none X.env).onRaise (leaving X.env)) [] s
    rw [compTurn_gen, Sem.onRaise_eq_wrap]
    refine seg_bind_wrap (wpAny_standAt ?_)
    refine seg_bind_wrap ?_
    rw [over]
    rcases turn i m ys H hw with ⟨stop, qe⟩ | ⟨go, Nx, hNx, step⟩
    · refine thnF (T.done X rfl rfl rfl hcalm i pins s σw H (fun _ _ => False) I (fpok hj I hf) st stop) fun r s6 ⟨hr, I6⟩ => ?_
      subst hr
      exact seg_end (.ok .next) (hend n ys pins σw H s₀ s6 hn hj hs0 I6 qe)
    · refine thnF (T.item X rfl rfl rfl hcalm i pins s σw H (fun _ _ => False) I (fpok hj I hf) st go) fun r s6 ⟨u, hr, h6⟩ => ?_
      subst hr
      refine seg_bind_wrap ?_
      rw [over]
      refine thnF h6 fun _ s7 ⟨x, H7, I7, r7, y7, st7, n7⟩ => ?_
      have I7' := I7.pinned (fpok hj I7 n7) (T.obj _ _ st7)
      refine seg_bind_wrap ?_
      rw [over]
      refine nox (thn (pg.run _ s7 _ H7 x u _ I7' r7 (step x H7 y7)) fun _ s8 ⟨σ8, H8, I8, hw8, q8⟩ => ?_)
      refine seg_bind_wrap ?_
      rw [over]
      refine nox (thn (pt.run _ s8 σ8 H8 _ I8 q8) fun b s9 ⟨H9, I9, q9⟩ => ?_)
      -- the turn's end
      have fin : ∀ {n' : Nat} {ys' : List V} {s₀' s' : Shared} {pins' : List (Addr × Obj)} {H' : Hp}, n' + ys'.length = sizeLine → J ys' pins' → (∀ p ∈ pins', s₀'.heap.get? p.1 = some p.2) → Inv X (pins' ++ pinsAt fp s7.heap) σ8 H' s' → Nx ys' H' →
          Seg (model X.prog X.w) A R Y n' s₀' (gLoop X elt tg iter ifs scope pos it) ((model X.prog X.w).den (gLoop X elt tg iter ifs scope pos it)) [] s' := fun {n' ys' s₀' s' pins' H'} hn' hj' hs' I' nx => by
        obtain ⟨m', hm, w'⟩ := hNx ys' H' nx
        have pin' : ∀ b ∈ fp, ∀ o, s7.heap.get? b = some o → s'.heap.get? b = some o ∧ H' b = none := fun b hb o e =>
          let z := I'.pin (b, o) (List.mem_append_right _ (List.mem_append_right _ (mem_pinsAt hb e)))
          ⟨z.1, z.2.1⟩
        have hl : σw.length = σ8.length := by rw [← hw8, wipe_length]
        refine ih m' hm n' (i + 1) ys' s₀' s' pins' H' hn' w' hj' ((I'.unpinned (pins := pins')).weak hl (fun j v e => ?_)) (T.keep _ _ _ st7 fun b hb o e => (pin' b hb o e).1) (fun b hb => ?_) hs'
        · rw [← hw8] at e
          exact (wipe_some e).1
        · obtain ⟨o, e, _⟩ := T.obj _ _ st7 b hb
          exact (pin' b hb o e).2
      cases b with
      | false =>
        simp only [Bool.false_eq_true, if_false] at q9 ⊢
        exact seg_again rfl (fin hn hj hs0 I9 q9)
      | true =>
        simp only [if_true] at q9 ⊢
        have hy : ∀ v, yieldOut X.env v = yieldValue v := fun v => by simp only [yieldOut, hco, Bool.false_eq_true, if_false]
        simp only [hy]
        rw [Sem.bind_eq_wrap', Sem.bind_eq_wrap', Sem.wrap_wrap, Sem.wrap_wrap]
        refine seg_wrap ?_
        rw [over]
        refine nox (thn (pe.run _ s9 σ8 H9 _ I9 q9) fun z s10 ⟨yv, H10, I10, r10, hlt, yd, nx⟩ => ?_)
        obtain ⟨n, rfl⟩ : ∃ k, n = k + 1 := ⟨n - 1, by omega⟩
        refine seg_at (seg_yield rfl rfl rfl ?_)
        refine hyield n ys yv z pins _ σ8 H10 s₀ s10 _ hn r10 hj hs0 (fun p hp => (of_pinsAt hp).1) I10 yd fun hgo pins' s' hj' I' => ?_
        exact seg_again rfl (fin (by rw [List.length_append, List.length_singleton]; omega) hj' (fun p hp => (I'.pin p (List.mem_append_right _ (List.mem_append_left _ hp))).1) I' (nx hgo))
end
end Gx

end
section
set_option Elab.async false
set_option linter.all false
set_option maxRecDepth 100000
set_option maxHeartbeats 1000000
/-! Gx, part B: a generator expression made; drained. -/
namespace Gx
open PySem PySem.Spec PyProof.Rows L2 GenW

abbrev gStart (elt tg iter : Expr) (ifs : List Expr) (scope : Scope) (pos : Pos) (it : Addr) (env : Env) : Code := .compStart (.GeneratorExp elt [⟨tg, iter, ifs, 0⟩] scope pos) 0 (.ref it) .none env
/-- a generator expression that has been made (at s'), its own iterator ready; sc: the state ahead of its frame -/
structure Made (X : Cx) (pins : List (Addr × Obj)) (σ : L2.St) (H : Hp) (sc : Shared) (elt tg iter : Expr) (ifs : List Expr) (scope : Scope) (pos : Pos) (code : Value) (fp : List Addr) (it : Addr) (tn : Nat → Heap → Prop) (Jt : It) (a : Addr) (g : Nat) (s' : Shared) : Prop where
  inv : Inv X pins σ H sc
  turn : Turn X.prog X.w X.K tg Jt fp it tn
  tn0 : tn 0 sc.heap
  fp : ∀ b ∈ fp, FpOk X pins H b ∧ b < sc.heap.objs.size
  ns : s'.heap.Ns sc.heap.objs.size fun y => if y = (".0" : Str) then some (.ref it) else none
  gen : s'.heap.IsGen a g
  fresh : s'.gens[g]? = some (.fresh (gStart elt tg iter ifs scope pos it (gEnv X scope sc.heap.objs.size code)))
  kp : ∀ b o, sc.heap.get? b = some o → s'.heap.get? b = some o
  os : s'.os = sc.os
  bare : AllBare s'.gens
  lim : s'.heap.NoLimit
  lo : sc.heap.objs.size < a
  hi : a < s'.heap.objs.size
section
variable {X : Cx} {pins : List (Addr × Obj)} {σ : L2.St} {H : Hp} {s : Shared}
theorem gx_make {P c : Addr} {elt tg iter : Expr} {ifs : List Expr} {scope : Scope} {own : List (Str × Nat)} {pos : Pos} {wi : TI} {k : Nat} {R : It → Hp → Prop} {Q' : Value → Shared → Prop}
    (hr : Room k X.A) (TB : GxR.TabB X.base X.mg c P) (hcode : X.env.code = .ref c) (L : GOk X.N X.env.scope scope own) (hi : PI X tg iter wi) (hs : ∀ v, genFold iter X.env v = pure v) (I : Inv X pins σ H s)
    (h : wi σ H fun Jt H1 => GxR.TabG H1 P ∧ ∀ H2, GxR.Tabbed P H1 H2 → R Jt H2)
    (hQ : ∀ H2 sc code fp it tn Jt a g s', Made X pins σ H2 sc elt tg iter ifs scope pos code fp it tn Jt a g s' → R Jt H2 → Q' (.ref a) s') :
    wpAny (model X.prog X.w) X.A (eval (.GeneratorExp elt [⟨tg, iter, ifs, 0⟩] scope pos) X.env) Q' X.xe s := by
  refine wpAny_GeneratorExp_make L.co (closure_ok (L.has I.ok)) L.cell L.dot L.kind (by have := hr.dp; omega) ?_ hs
  refine thn (hi.run pins s σ H _ I h) fun xv s1 hx => thn hx fun itv s2 h2 => ?_
  obtain ⟨it, fp, tn, Jt, H1, e, I2, T, st2, f2, ⟨ps, hP, ht⟩, q⟩ := h2
  subst e
  have hPs : s2.heap.get? P = some { cls := .none, data := .fields ps } := I2.hok P _ hP
  have hPfp : ∀ b ∈ fp, b ≠ P := fun b hb z => by
    have := (f2 b hb).1
    rw [z, hP] at this; cases this
  refine ⟨I2.nolimit, ?_⟩
  -- behind the code object
  have cont : ∀ (code : Value) (h3 : Heap) (tk : Nat) (ps' : Array Value), Heap.ExtBut P s2.heap h3 → s2.heap.objs.size ≤ h3.objs.size → h3.get? P = some { cls := .none, data := .fields ps' } → (∃ more, ps' = ps ++ more) → TriplesOk ps'.toList →
      wpAny (model X.prog X.w) X.A (builtinsFor X.env.globals X.env.builtins) (fun bi s₄ => ∀ h', h'.Ns s₄.heap.objs.size (fun y => if y = (".0" : Str) then some (.ref it) else none) → Heap.SameBut s₄.heap.objs.size (s₄.heap.push { cls := .type "frame", data := .dict #[] }) h' →
          Q' (.ref h'.objs.size) { s₄ with
            gens := s₄.gens.push (.fresh (.compStart (.GeneratorExp elt [⟨tg, iter, ifs, 0⟩] scope pos) 0 (.ref it) .none (genEnv scope (cloFrom X.env.cells scope.names []) s₄.heap.objs.size code bi X.env))),
            toks := s₄.toks + 1 + 1 + 1,
            heap := h'.push { cls := .type "generator", data := .fields #[.int s₄.gens.size 0, .str "<genexpr>" (s₄.toks + 1), .str (X.env.qual ++ "<genexpr>") (s₄.toks + 1 + 1)] } }) X.xe { s2 with heap := h3, toks := tk } := by
    intro code h3 tk ps' hx hsz hP3 hmore ht3
    obtain ⟨more, em⟩ := hmore
    obtain ⟨bm, ob, e1, e2, e3, e4, e5, e6, e7, e8⟩ := TB.bm
    have I3 := GxR.inv_tab (more := more) (h' := h3) (g' := s2.gens) (d' := s2.drawn) (t' := tk) I2 hP (fun b u hb e => hx b u hb e) (by rw [← em]; exact hP3) I2.bare
    have hT : GxR.Tabbed P H1 (upd H1 P (.tbl (ps ++ more))) := ⟨⟨ps ++ more, upd_same, by rw [← em]; exact ht3⟩, fun b hb => upd_ne hb⟩
    have keep3 : ∀ b u, b ≠ P → s2.heap.get? b = some u → h3.get? b = some u := fun b u hb e => hx b u hb e
    refine wpAny_builtinsFor (m := X.mg) (by rw [I2.ok.glob]; exact (I2.mod.glob.keeps I2.bk).extBut hx TB.gP) e1 e2 (keep3 _ _ e4 (I2.bk _ _ e5)) e6 e7 e8 ?_
    intro h' hn' hs'
    have hsz' : h'.objs.size = h3.objs.size + 1 := by rw [hs'.1, Heap.size_push]
    have keep' : ∀ b o, h3.get? b = some o → h'.get? b = some o := fun b o e => hs'.extBut b o (Nat.ne_of_lt (Heap.lt_size e)) (Heap.get?_push_of_some _ e)
    have sz : ∀ b ∈ fp, b < s2.heap.objs.size := fun b hb => by
      obtain ⟨o, e, _⟩ := T.obj _ _ st2 b hb
      exact Heap.lt_size e
    refine hQ (upd H1 P (.tbl (ps ++ more))) { s2 with heap := h3, toks := tk } code fp it tn Jt h'.objs.size s2.gens.size _ ⟨I3, T, ?_, fun b hb => ⟨⟨?_, (f2 b hb).2⟩, Nat.lt_of_lt_of_le (sz b hb) hsz⟩, hn'.push _, ⟨_, _, _, Heap.get?_push_size _ rfl, rfl, rfl, rfl⟩, Array.getElem?_push_size .., fun b o e => Heap.get?_push_of_some _ (keep' b o e), rfl, I2.bare.push rfl, I3.nolimit.keeps fun b o e => Heap.get?_push_of_some _ (keep' b o e), ?_, ?_⟩ (q _ hT)
    · exact T.keep _ _ _ st2 fun b hb o e => keep3 b o (hPfp b hb) e
    · rw [upd_ne (hPfp b hb)]; exact (f2 b hb).1
    · show h3.objs.size < h'.objs.size
      omega
    · show h'.objs.size < (h'.push _).objs.size
      rw [Heap.size_push]; exact Nat.lt_succ_self _
  have cd : PySem.W.CodeHd s2.heap c P := TB.code.keeps I2.bk
  cases hf : codeAmong pos ps.toList with
  | none =>
    refine wpAny_genexprCodeX hcode (cd.code hPs ht) (cd.tab hPs) hf fun c' h' tk hx hge hlt hco' _ htab' _ => ?_
    obtain ⟨o1, vs, f1, tf, fl, tg, inF, tx, tt, op, _, _, _, _, _, _, _, _, _, htr, _⟩ := hco'
    exact cont _ h' tk _ hx (Nat.le_trans hge (Nat.le_of_lt hlt)) htab'.2 ⟨_, rfl⟩ htr
  | some cv =>
    refine wpAny_genexprCode_hit hcode (cd.code hPs ht) hf ?_
    exact cont cv s2.heap s2.toks ps (Heap.ExtBut.refl _ _) (Nat.le_refl _) hPs ⟨#[], by simp⟩ ht

theorem over_gx {A : Around} {X : Cx} {elt tg iter : Expr} {ifs : List Expr} {scope : Scope} {pos : Pos} {it : Addr} : A.over (gLoop X elt tg iter ifs scope pos it) [] = A.deeper X.env := by
  first
    | rfl
    | (obtain ⟨hd, d, fr, gs, u⟩ := A; simp [Around.over, Around.deeper, marksOver, frameCount, unitsOf, envsOf, guardsOf, pushEnvs, pushGuards, Code.envs, Code.env?, Code.isFrame, Code.guards, Code.isGuard, Code.weight, Code.frames, Code.isCreation, Code.isCaller, Code.cUnits])
/-- from the start to the loop -/
theorem seg_start {A : Around} {R : GenEnd} {Y : Protocol} {elt tg iter : Expr} {ifs : List Expr} {scope : Scope} {pos : Pos} {it : Addr} {fp : List Addr} {tn : Nat → Heap → Prop} {Jt : It} {n : Nat} {s₀ : Shared} {X : Cx}
    (T : Turn X.prog X.w X.K tg Jt fp it tn) (st : tn 0 s.heap) (loop : Seg (model X.prog X.w) A R Y n s₀ (gLoop X elt tg iter ifs scope pos it) ((model X.prog X.w).den (gLoop X elt tg iter ifs scope pos it)) [] s) :
    Seg (model X.prog X.w) A R Y n s₀ (gStart elt tg iter ifs scope pos it X.env) ((model X.prog X.w).den (gStart elt tg iter ifs scope pos it X.env)) [] s := by
  show Seg _ A _ _ _ s₀ _ ((compStart (.GeneratorExp elt [⟨tg, iter, ifs, 0⟩] scope pos) 0 (.ref it) .none X.env).onRaise (leaving X.env)) [] s
  unfold compStart
  rw [Sem.onRaise_eq_wrap]
  show Seg _ A _ _ _ s₀ _ ((ask >>= _).wrap _ _ _ _) [] s
  refine seg_bind_wrap (wpAny_askSetting ?_)
  split
  · exact seg_again rfl loop
  · first
      | exact seg_bind_wrap (wpAny_rule (seg_bind_wrap (wpAny_standAt (seg_bind_wrap (T.self _ 0 s _ _ st (seg_again rfl loop))))))
      | (refine seg_bind_wrap (wpAny_rule ?_); show Seg _ A _ _ _ s₀ _ ((standAt iter.pos >>= _).wrap _ _ _ _) [] s; exact seg_bind_wrap (wpAny_standAt (seg_bind_wrap (T.self _ 0 s _ _ st (seg_again rfl loop)))))
end

/-- the consumer's own objects may change while the generator sleeps -/
theorem woken {X : Cx} {pins pins' : List (Addr × Obj)} {σ : L2.St} {H : Hp} {s s' : Shared} {S : List Addr} (I : Inv X pins σ H s) (hos : s'.os = s.os) (hb : AllBare s'.gens) (keep : ∀ b o, b ∉ S → s.heap.get? b = some o → s'.heap.get? b = some o)
    (hS : ∀ b ∈ S, H b = none ∧ X.s_0.heap.objs.size ≤ b ∧ b ≠ X.env.locals ∧ (∀ x c, X.env.cells.lookup x = some c → c ≠ b) ∧ b ∉ X.fs ∧ ∀ p ∈ X.pn, p.1 ≠ b)
    (hp : ∀ p ∈ pins', (p ∈ pins ∧ p.1 ∉ S) ∨ (p.1 ∈ S ∧ s'.heap.get? p.1 = some p.2 ∧ ∀ v, p.2.data ≠ .cell v)) : Inv X pins' σ H s' := by
  obtain ⟨hh, g, d, t, o⟩ := s'
  have ho : o = s.os := hos
  subst ho
  have I0 : Inv X [] σ H s := I.pins_of fun p hp => absurd hp (by simp)
  have nt : ∀ b u, H b = some u → b ∉ S := fun b u q hb => by rw [(hS b hb).1] at q; cases q
  have J : Inv X [] σ H { s with heap := hh, gens := g, drawn := d, toks := t } := by
    refine I0.step (g' := g) (t' := t) (d' := d) (ch := S.filter fun b => (s.heap.get? b).isSome) (fun b hb => ?_) (fun b ob _ _ hc q _ => keep b ob (fun z => hc (List.mem_filter.mpr ⟨z, by rw [q]; rfl⟩)) q) (fun b ob _ _ hc q _ => ⟨ob.slots, keep b ob (fun z => hc (List.mem_filter.mpr ⟨z, by rw [q]; rfl⟩)) q⟩)
      (fun _ _ _ _ n => n) (fun b ob hc q => ⟨ob, keep b ob (fun z => hc (List.mem_filter.mpr ⟨z, by rw [q]; rfl⟩)) q⟩) (fun _ _ q => q) (fun _ _ _ q => q) (fun b ps q => ⟨#[], by rw [q]; simp⟩) (fun m hm => ?_) (fun b u q => ?_) hb
    · obtain ⟨h1, h2, h3, h4, h5, h6⟩ := hS b (List.mem_filter.mp hb).1
      refine ⟨.inr h2, h3, h4, fun p hp => ?_⟩
      rcases List.mem_append.mp hp with hp | hp
      · exact h6 p hp
      · exact absurd hp (by simp)
    · obtain ⟨ob, es, ep, ho, r⟩ := hm
      exact ⟨ob, es, ep, keep _ ob (fun z => (hS _ z).2.2.1 rfl) ho, r⟩
    · refine (I0.hok b u q).stay (fun c v hc y => keep c v ?_ y) (fun _ y => y) fun _ _ y => y
      rcases hc with y | y
      · rw [y]; exact nt b u q
      · exact nt c _ y
  refine J.pins_of fun p hpp => ?_
  rcases hp p hpp with ⟨h1, h2⟩ | ⟨h1, h2, h3⟩
  · obtain ⟨a1, a2, a3, a4, a5⟩ := I.pin p (List.mem_append_right _ h1)
    exact ⟨keep _ _ h2 a1, a2, a3, a4, a5⟩
  · obtain ⟨b1, b2, b3, b4, b5, b6⟩ := hS _ h1
    exact ⟨h2, b1, b3, b5, h3⟩

/-! ### drained: all that it hands out in a list -/
section
variable {X : Cx} {pins : List (Addr × Obj)} {σ : L2.St} {H : Hp} {s : Shared}
/-- the turns: g, tt, te from the slots σw; cont: behind them -/
def Turns (J : It) (g : TG) (tt : TT) (te : TE) (σw : L2.St) (vs : List Nat) (Yd : List V → V → Hp → Prop) (Go : V → Prop) (H : Hp) (cont : List V → Hp → Prop) : Prop :=
  ∃ W : Nat → Nat → List V → Hp → Prop, (∃ m, W 0 m [] H) ∧ ∀ i m ys H, W i m ys H → (J.stop i H ∧ cont ys H) ∨ (J.go i H ∧ ∃ Nx : List V → Hp → Prop, (∀ ys' H', Nx ys' H' → ∃ m', m' < m ∧ W (i + 1) m' ys' H') ∧ ∀ x H', J.yld i H x H' → g x σw H' fun σ2 H2 => wipe σ2 vs = σw ∧ tt σ2 H2 fun b H3 =>
      if b = true then te σ2 H3 fun y H4 => ys.length < sizeLine ∧ Yd ys y H4 ∧ (Go y → Nx (ys ++ [y]) H4) else Nx ys H3)
theorem wipe_wipe (σ : L2.St) (vs : List Nat) : wipe (wipe σ vs) vs = wipe σ vs := by
  have key : ∀ (ws : List Nat) (σ : L2.St) (i : Nat), (wipe σ ws)[i]? = if i ∈ ws then σ[i]?.map (fun _ => none) else σ[i]? := by
    intro ws
    induction ws with
    | nil => intro σ i; simp [wipe]
    | cons v ws ih =>
      intro σ i
      unfold wipe
      by_cases e : v = i
      · subst e
        rw [List.getElem?_set, if_pos rfl, wipe_length, if_pos List.mem_cons_self]
        by_cases h : v < σ.length
        · rw [if_pos h, List.getElem?_eq_getElem h]; rfl
        · rw [if_neg h, List.getElem?_eq_none (Nat.le_of_not_lt h)]; rfl
      · rw [List.getElem?_set_ne e, ih]
        have : i ∈ v :: ws ↔ i ∈ ws := by
          rw [List.mem_cons]
          exact ⟨fun h => h.elim (fun z => absurd z.symm e) id, .inr⟩
        by_cases h : i ∈ ws
        · rw [if_pos h, if_pos (this.mpr h)]
        · rw [if_neg h, if_neg (fun z => h (this.mp z))]
  refine List.ext_getElem? fun i => ?_
  rw [key, key]
  by_cases h : i ∈ vs
  · rw [if_pos h, if_pos h]
    cases σ[i]? <;> rfl
  · rw [if_neg h, if_neg h]
/-- the rules of the parts, in the generator's frame -/
def GxParts (X : Cx) (k : Nat) (scope : Scope) (elt tg : Expr) (ifs : List Expr) (g : TG) (tt : TT) (te : TE) : Prop :=
  ∀ (A : Around) (s : Shared) (H : Hp) (code : Value) (fp : List Addr), Room k (A.deeper (gEnv X scope s.heap.objs.size code)) → PG (gxCx X A s H scope code fp) tg g ∧ PTs (gxCx X A s H scope code fp) ifs tt ∧ PE (gxCx X A s H scope code fp) elt te
theorem gmade {k : Nat} {elt tg iter : Expr} {ifs : List Expr} {scope : Scope} {own : List (Str × Nat)} {pos : Pos} {code : Value} {fp : List Addr} {it : Addr} {tn : Nat → Heap → Prop} {Jt : It} {a : Addr} {gi : Nat} {s' : Shared} {g : TG} {tt : TT} {te : TE} {cont : List V → Hp → Prop} {E : XK}
    (L : GOk X.N X.env.scope scope own) (pa : GxParts X k scope elt tg ifs g tt te) (M : Made X pins σ H s elt tg iter ifs scope pos code fp it tn Jt a gi s') (q : Turns Jt g tt te (wipe σ (own.map (·.2))) (own.map (·.2)) (fun _ _ _ => True) (fun _ => True) H cont) :
    GMade X.prog X.w (k + 1) X.stack H s fp cont E (.ref a) s' := by
  refine ⟨a, gi, _, rfl, Nat.le_of_lt M.lo, M.hi, M.gen, M.fresh, M.os, M.bare, M.lim, M.kp, ?_⟩
  intro A S s2 hr hfr hS hk2 ⟨c0, hS0⟩ hos hba
  obtain ⟨go, nm, qn, hgo, hgc, hgd, hgs⟩ := id M.gen
  have kp2 : ∀ b o, s.heap.get? b = some o → s2.heap.get? b = some o := fun b o e => hk2 b o (M.kp b o e)
  have Ist : Inv (gxCx X A s H scope code fp) [] (wipe σ (own.map (·.2))) H s2 := gx_start M.inv L M.fp hr.hd hfr (M.ns.keeps hk2) kp2 hos hba
  obtain ⟨p1, p2, p3⟩ := pa A s H code fp (hr.deeper _)
  obtain ⟨W, ⟨m0, w0⟩, turn⟩ := q
  have young : ∀ b, s.heap.objs.size < b → H b = none ∧ s.heap.objs.size ≤ b ∧ b ≠ s.heap.objs.size ∧ (∀ x c, (cloFrom X.env.cells scope.names []).lookup x = some c → c ≠ b) ∧ b ∉ frs X.stack := fun b hb => by
    refine ⟨M.inv.hok.fresh (Nat.le_of_lt hb), Nat.le_of_lt hb, Nat.ne_of_gt hb, fun x c e z => ?_, fun z => ?_⟩
    · obtain ⟨v, ob, ho, _⟩ := Ist.cell x c e
      have hc : X.env.cells.lookup x = some c := by
        rcases cloFrom_mem (PySem.mem_of_lookup e) with hm | ⟨h1, h2⟩
        · cases hm
        · obtain ⟨c1, hc⟩ := L.has M.inv.ok _ h1 rfl
          have hc : X.env.cells.lookup x = some c1 := hc
          have e2 : c = c1 := by
            rw [h2, hc] <;> rfl
          rw [e2]; exact hc
      obtain ⟨v', z'⟩ := M.inv.cell x c hc
      have := z'.lt
      rw [z] at this
      exact absurd (Nat.lt_trans this hb) (Nat.lt_irrefl _)
    · rcases List.mem_cons.mp (M.inv.stkSub b z) with y | y
      · have := M.inv.lt
        rw [← y] at this
        exact absurd (Nat.lt_trans this hb) (Nat.lt_irrefl _)
      · exact M.inv.nofs (Nat.le_of_lt hb) y
  have hSlo : s.heap.objs.size < S := Nat.lt_of_lt_of_le (Nat.lt_trans M.lo M.hi) hS
  have hSa : a ≠ S := Nat.ne_of_lt (Nat.lt_of_lt_of_le M.hi hS)
  have gdc : ∀ v, go.data ≠ .cell v := fun v z => by rw [hgd] at z; cases z
  have hfpS : ∀ b ∈ fp, b < S ∧ b ≠ a := fun b hb => ⟨Nat.lt_trans (M.fp b hb).2 hSlo, Nat.ne_of_lt (Nat.lt_trans (M.fp b hb).2 M.lo)⟩
  generalize hY : ({ X with A := A.deeper (gEnv X scope s.heap.objs.size code), s_0 := s, H_0 := H, env := gEnv X scope s.heap.objs.size code, outer := X.stack, stack := gEnv X scope s.heap.objs.size code :: X.stack, ex := fp, fn := fun _ => false, calm := true, pn := [], xe := fun _ _ => False } : Cx) = Xg
  have eY : gxCx X A s H scope code fp = Xg := hY
  rw [eY] at Ist p1 p2 p3
  have hlc : Xg.env.locals = s.heap.objs.size := by subst hY; rfl
  have hcl : Xg.env.cells = cloFrom X.env.cells scope.names [] := by subst hY; rfl
  have hfs : Xg.fs = frs X.stack := by subst hY; rfl
  have h0 : Xg.s_0 = s := by subst hY; rfl
  have hpn : Xg.pn = [] := by subst hY; rfl
  have hen : Xg.env = gEnv X scope s.heap.objs.size code := by subst hY; rfl
  have hpr : Xg.prog = X.prog := by subst hY; rfl
  have hww : Xg.w = X.w := by subst hY; rfl
  have hKK : Xg.K = X.K := by subst hY; rfl
  have T : Turn Xg.prog Xg.w Xg.K tg Jt fp it tn := by rw [hpr, hww, hKK]; exact M.turn
  have apart : ∀ b ∈ [S], (∀ H', Inv Xg [] (wipe σ (own.map (·.2))) H' s2 → True) := fun _ _ _ _ => trivial
  have I1 : ∀ {acc : Array Value} {c : Nat} {s3 : Shared}, s3 = s2 → s3.heap.get? S = some (lstObj acc c) → Inv Xg [(a, go), (S, lstObj acc c)] (wipe σ (own.map (·.2))) H s3 := by
    intro acc c s3 e3 h3
    subst e3
    refine Ist.pins_of fun p hp => ?_
    rcases List.mem_cons.mp hp with e | hp
    · subst e
      obtain ⟨y1, y2, y3, y4, y5⟩ := young a M.lo
      exact ⟨hk2 _ _ hgo, y1, by rw [hlc]; exact y3, by rw [hfs]; exact y5, gdc⟩
    · rw [List.mem_singleton.mp hp]
      obtain ⟨y1, y2, y3, y4, y5⟩ := young S hSlo
      exact ⟨h3, y1, by rw [hlc]; exact y3, by rw [hfs]; exact y5, fun v q => by cases q⟩
  rw [← hpr, ← hww]
  show Seg _ A _ _ sizeLine s2 (gStart elt tg iter ifs scope pos it (gEnv X scope s.heap.objs.size code)) _ [] s2
  rw [← hen]
  have tns : tn 0 s2.heap := M.turn.keep _ _ _ M.tn0 fun b _ o e => kp2 b o e
  refine seg_start T tns ?_
  refine seg_loop (J := fun ys pins => ∃ acc c, Vals ys acc.toList ∧ pins = [(a, go), (S, lstObj acc c)]) (Qe := cont) (Yd := fun _ _ _ => True) (Go := fun _ => True) (W := W) (σw := wipe σ (own.map (·.2))) (vs := own.map (·.2)) (g := g) (tt := tt) (te := te) (fp := fp) (tn := tn) (Jt := Jt)
    (by rw [← hY]) (by rw [← hY]) (by rw [← hY]) (by rw [← hY]; exact L.co) (by rw [over_gx]; rw [← hY]) T p1 p2 p3 ?_ (wipe_wipe _ _) turn ?_ ?_ m0 sizeLine 0 [] s2 s2 [(a, go), (S, lstObj #[] c0)] H rfl w0 ⟨#[], c0, .nil, rfl⟩ (I1 rfl hS0) tns (fun b hb => (M.fp b hb).1.1) (fun p hp => ((I1 rfl hS0).pin p (List.mem_append_right _ hp)).1)
  · rintro ys pins' ⟨acc, c, _, rfl⟩ p hp z
    rw [hpn] at hp
    rcases List.mem_cons.mp hp with e | hp
    · rw [e] at z; exact (hfpS _ z).2 rfl
    · rw [List.mem_singleton.mp hp] at z
      exact Nat.lt_irrefl _ (hfpS _ z).1
  · rintro n ys pins' σ' H' s₀ s3 hn ⟨acc, c, r, rfl⟩ _ I' qe
    have pS := I'.pin (S, lstObj acc c) (List.mem_append_right _ (List.mem_cons_of_mem _ List.mem_cons_self))
    refine .inl ⟨.inr rfl, H', ys, acc, c, ?_, I'.bare, ?_, ?_, pS.2.1, pS.1, r, by omega, qe⟩
    · rw [I'.os, h0]
    · have := I'.base
      rw [hfs, h0] at this
      have e1 : Xg.ex = fp := by subst hY; rfl
      have e2 : Xg.H_0 = H := by subst hY; rfl
      rw [e1, e2] at this
      exact this
    · have := I'.hok
      rw [hpr, hww] at this
      rw [hpr, hww]
      exact this
  · rintro n ys y v pins' ip σ' H' s₀ s3 kap hn ry ⟨acc, c, r, rfl⟩ _ hip I' _ hk
    have pa' := I'.pin (a, go) (List.mem_append_right _ (List.mem_append_left _ List.mem_cons_self))
    have pS := I'.pin (S, lstObj acc c) (List.mem_append_right _ (List.mem_append_left _ (List.mem_cons_of_mem _ List.mem_cons_self)))
    refine ⟨?_, I'.bare, I'.nolimit, ⟨go, nm, qn, pa'.1, hgc, hgd, hgs⟩, ⟨acc, c, pS.1, ?_⟩, fun s4 z => ?_⟩
    · rw [I'.os, h0]
    · have := r.length
      simp only [Array.length_toList] at this
      omega
    · obtain ⟨c', e4⟩ := z.own acc c pS.1
      refine hk trivial [(a, go), (S, lstObj (acc.push v) c')] s4 ⟨acc.push v, c', ?_, rfl⟩ (woken (S := [S]) I' z.os z.bare (fun b o hb e => z.keep b o (fun q => hb (by rw [q]; exact List.mem_singleton.mpr rfl)) e) (fun b hb => ?_) fun p hp => ?_)
      · rw [Array.toList_push]
        exact r.append (.cons ry .nil)
      · rw [List.mem_singleton.mp hb]
        obtain ⟨y1, y2, y3, y4, y5⟩ := young S hSlo
        exact ⟨pS.2.1, by rw [h0]; exact y2, by rw [hlc]; exact y3, by rw [hcl]; exact y4, by rw [hfs]; exact y5, by rw [hpn]; intro p hp; cases hp⟩
      · rcases List.mem_append.mp hp with hp | hp
        · rcases List.mem_cons.mp hp with e | hp
          · subst e
            exact .inl ⟨List.mem_append_left _ List.mem_cons_self, fun q => hSa (List.mem_singleton.mp q)⟩
          · rw [List.mem_singleton.mp hp]
            exact .inr ⟨List.mem_singleton.mpr rfl, e4, fun v q => by cases q⟩
        · exact .inl ⟨List.mem_append_right _ hp, fun q => by
            have := hfpS _ (hip p hp)
            rw [List.mem_singleton.mp q] at this
            exact Nat.lt_irrefl _ this.1⟩
end
end Gx

end
section
set_option Elab.async false
set_option linter.all false
set_option maxRecDepth 100000
set_option maxHeartbeats 1000000
/-! Gx, part C: a generator collected; tuple, list of it. -/
namespace Gx
open PySem PySem.Spec PyProof.Rows L2 GenW

section
variable {P : Program} {w : World} {A : Around} {E : Value → Shared → Prop} {outer : List Env} {H : Hp} {sc s : Shared} {ex : List Addr} {k : Nat}
/-- what is known behind the draining: all that was handed out, the heap -/
def Drained (P : Program) (w : World) (outer : List Env) (H : Hp) (sc : Shared) (ex : List Addr) (cont : List V → Hp → Prop) (us : List Value) (s' : Shared) : Prop :=
  ∃ H' ys, Vals ys us ∧ ys.length ≤ sizeLine ∧ s'.os = sc.os ∧ AllBare s'.gens ∧ Un (frs outer) ex H H' sc.heap s'.heap ∧ HOk P w H' s'.heap ∧ cont ys H'
theorem collect_gen {cont : List V → Hp → Prop} {u : Value} {Q : List Value → Shared → Prop} (hr : Room (k + 3) A) (hfr : A.frames = some outer) (h : GMade P w k outer H sc ex cont (fun _ _ _ => False) u s)
    (hQ : ∀ us s', s.heap.objs.size ≤ s'.heap.objs.size → Drained P w outer H sc ex cont us s' → Q us s') : wpAny (model P w) A (collect u) Q E s := by
  obtain ⟨a, g, c, rfl, ha1, ha2, hg, hgs, hos, hb, hl, hkp, wake⟩ := h
  have hSa : s.heap.objs.size ≠ a := Nat.ne_of_gt ha2
  have hcl : cStatics < s.heap.objs.size := let ⟨_, hn, _⟩ := hl; hn.lt
  have hSc : s.heap.objs.size ≠ cStatics := Nat.ne_of_gt hcl
  unfold collect
  refine wpAny_bind (wpAny_runValue (codeAny_builtin F.entry_proto_collect ?_))
  rw [Around.under_plainId F.plain_proto_collect _]
  show wpAny _ A.in1 (newList [] >>= fun l => again (.builtin "list.__iadd__" ⟨[l, .ref a], []⟩)) _ _ s
  refine wpAny_bind (wpAny_newObj_type ?_)
  refine wpAny_pure ⟨plainId_quiet F.plain_list_iadd _, codeAny_builtin F.entry_list_iadd ?_⟩
  rw [Around.under_plainId F.plain_list_iadd _]
  have hS₁ : (s.heap.push { cls := .type "list", data := .seq ([] : List Value).toArray }).get? s.heap.objs.size = some { cls := .type "list", data := .seq ([] : List Value).toArray } := Heap.get?_push_size _ rfl
  have k1 : ∀ b o, s.heap.get? b = some o → (s.heap.push { cls := .type "list", data := .seq ([] : List Value).toArray }).get? b = some o := fun b o e => Heap.get?_push_of_some _ e
  have gty : ∀ {h : Heap}, (∀ b o, s.heap.get? b = some o → h.get? b = some o) → h.IsGen a g := fun {h} q => hg.keeps q
  have h1 : Builtin.List.listSameRef (.ref s.heap.objs.size) (.ref a) = false := by simp [Builtin.List.listSameRef, hSa]
  have h2 : (Value.type "generator" == Value.type "list") = false := by decide
  have h3 : (Value.type "generator" == Value.type "tuple") = false := by decide
  show wpAny _ A.in1 (Builtin.List.listExtendWith (.ref s.heap.objs.size) (.ref a) (.ref s.heap.objs.size)) _ _ _
  unfold Builtin.List.listExtendWith
  refine wpAny_bind (wpAny_typeOf (Heap.IsGen.typeIs (s := { s with heap := _ }) (gty k1)) ?_)
  simp only [h1, h2, h3, Bool.or_false, Bool.false_eq_true, if_false]
  refine wpAny_bind (wpAny_pyIter_gen (s := { s with heap := _ }) (gty k1) ?_)
  refine wpAny_bind (wpAny_holding ?_)
  unfold Builtin.List.listLengthHint
  refine wpAny_bind (wpAny_specialOf (Heap.IsGen.typeIs (s := { s with heap := _ }) (gty k1)) F.gen_no_len ?_)
  show wpAny _ A.in1 (specialOf (Value.ref a) (Str.ofString "__length_hint__") >>= _) _ _ _
  refine wpAny_bind (wpAny_specialOf (Heap.IsGen.typeIs (s := { s with heap := _ }) (gty k1)) F.gen_no_hint ?_)
  refine wpAny_pure ?_
  show wpAny _ A.in1 (rule "list.extend.makes-room" >>= fun _ => Builtin.List.listTouch (.ref s.heap.objs.size) >>= fun _ =>
    again (.builtin "list.extend.loop" ⟨[.ref s.heap.objs.size, .ref a, .ref s.heap.objs.size], []⟩)) _ _ _
  refine wpAny_bind (wpAny_rule ?_)
  refine wpAny_bind ?_
  have up : ∀ (h : Heap) (f : Obj → Obj), (∀ b o, s.heap.get? b = some o → h.get? b = some o) → ∀ b o, s.heap.get? b = some o → (h.update s.heap.objs.size f).get? b = some o := fun h f q b o e =>
    (Heap.get?_update_other _ _ (Ne.symm (Nat.ne_of_lt (Heap.lt_size e)))).trans (q b o e)
  show wpAny _ A.in1 (updateSeq s.heap.objs.size (·.push .none) >>= fun _ => updateSeq s.heap.objs.size (·.pop)) _ _ _
  refine wpAny_bind (wpAny_updateSeq hS₁ rfl ?_)
  have hS3 := Heap.get?_update_self (Obj.mapSeq (·.push Value.none)) hS₁ rfl
  refine wpAny_updateSeq (hz := by seq_fits) hS3 rfl ?_
  have hS4 := Heap.get?_update_self (Obj.mapSeq (·.pop)) hS3 rfl
  have k4 := up _ (Obj.mapSeq (·.pop)) (up _ (Obj.mapSeq (·.push Value.none)) k1)
  refine wpAny_pure ⟨plainId_quiet F.plain_extend_loop _, ?_⟩
  refine drain (P := P) (w := w) (outer := outer) (H := H) (sc := sc) (ex := ex) (Q := cont) (EX := fun _ _ _ => False) (A := A) (g := g) hr.hd (by have := hr.dp; omega) hSa hSc
    (fun s' acc c H' ys q1 q2 q3 q4 q5 q6 q7 q8 q9 => ?_) (fun e s' hc => ?_) sizeLine _ (gty k4) (hl.keeps k4) ⟨_, hgs, rfl, ?_⟩
  · show wpAny _ A (load s.heap.objs.size >>= _) _ _ s'
    refine wpAny_bind (wpAny_load q1 ?_)
    have hsz : s.heap.objs.size ≤ s'.heap.objs.size := Nat.le_of_lt (Heap.lt_size q1)
    exact wpAny_pure (hQ acc.toList s' hsz ⟨H', ys, q2, q3, q4, q5, q6, q7, q9⟩)
  · obtain ⟨_, _, _, _, _, _, _, _, _, _, _, _, hW⟩ := hc
    exact hW.elim
  · refine wake _ _ _ ⟨hr.hd, ?_, ?_⟩ hfr (Nat.le_refl _) k4 ⟨_, hS4⟩ hos (allBare_setGen (s := { s with heap := _ }) hb rfl)
    · have := hr.dp
      show A.depth + 3 * k + 5 < _
      omega
    · have := hr.un
      show A.units + 1 + 1 + 16 * k + 200 < _
      omega
end
end Gx

end
section
set_option Elab.async false
set_option linter.all false
set_option maxRecDepth 100000
set_option maxHeartbeats 1000000
/-! Gx, part D: a generator expression taken item by item; the consumer's own object at S. -/
namespace Gx
open PySem PySem.Spec PyProof.Rows L2 GenW

/-- the consumer's object by what has been handed out; the end; an item -/
def REndG (P : Program) (w : World) (outer : List Env) (H : Hp) (s : Shared) (ex : List Addr) (S : Addr) (Jc : List V → Obj → Prop) (cont : List V → Hp → Prop) : GenEnd := fun n s₀ r s1 =>
  ((r = .ok (.ret .none) ∨ r = .ok .next) ∧ ∃ H' ys o, s1.os = s.os ∧ AllBare s1.gens ∧ Un (frs outer) ex H H' s.heap s1.heap ∧ HOk P w H' s1.heap ∧ H' S = none ∧ s₀.heap.get? S = some o ∧ s1.heap.get? S = some o ∧ Jc ys o ∧ ys.length ≤ sizeLine ∧ cont ys H') ∨
    ∃ e, r = .error e ∧ False
def YItemG (P : Program) (w : World) (outer : List Env) (H : Hp) (s : Shared) (ex : List Addr) (S a : Addr) (g : Nat) (Jc : List V → Obj → Prop) (Yd : List V → V → Hp → Prop) (Go : V → Prop) : Protocol := fun n s₀ v s1 kap =>
  s1.os = s.os ∧ AllBare s1.gens ∧ s1.heap.NoLimit ∧ s1.heap.IsGen a g ∧ ∃ (ys : List V) (y : V) (o : Obj) (H' : Hp), n + 1 + ys.length = sizeLine ∧ Jc ys o ∧ RelV y v ∧ Un (frs outer) ex H H' s.heap s1.heap ∧ HOk P w H' s1.heap ∧ H' S = none ∧ s₀.heap.get? S = some o ∧ s1.heap.get? S = some o ∧ Yd ys y H' ∧
    (Go y → ∀ (s' : Shared) (o' : Obj), s'.os = s1.os → AllBare s'.gens → (∀ b u, b ≠ S → s1.heap.get? b = some u → s'.heap.get? b = some u) → s'.heap.get? S = some o' → (∀ v, o'.data ≠ .cell v) → Jc (ys ++ [y]) o' → kap (.send .none) s')
def GMadeG (P : Program) (w : World) (k : Nat) (outer : List Env) (H : Hp) (s : Shared) (ex : List Addr) (Yd : List V → V → Hp → Prop) (Go : V → Prop) (cont : List V → Hp → Prop) (u : Value) (s' : Shared) : Prop :=
  ∃ (a : Addr) (g : Nat) (c : Code), u = .ref a ∧ s.heap.objs.size ≤ a ∧ a < s'.heap.objs.size ∧ s'.heap.IsGen a g ∧ s'.gens[g]? = some (.fresh c) ∧ s'.os = s.os ∧ AllBare s'.gens ∧ s'.heap.NoLimit ∧ (∀ b o, s.heap.get? b = some o → s'.heap.get? b = some o) ∧
    ∀ (A : Around) (S : Addr) (s2 : Shared) (Jc : List V → Obj → Prop) (o : Obj), Room k A → A.frames = some outer → (s'.heap.objs.size ≤ S ∨ S = a) → (S = a → ∀ ys o, Jc ys o → s'.heap.get? a = some o) → (∀ b o, s'.heap.get? b = some o → s2.heap.get? b = some o) → s2.heap.get? S = some o → (∀ v, o.data ≠ .cell v) → Jc [] o → s2.os = s.os → AllBare s2.gens →
      Seg (model P w) A (REndG P w outer H s ex S Jc cont) (YItemG P w outer H s ex S a g Jc Yd Go) sizeLine s2 c ((model P w).den c) [] s2
section
variable {X : Cx} {pins : List (Addr × Obj)} {σ : L2.St} {H : Hp} {s : Shared}
theorem gmadeG {k : Nat} {elt tg iter : Expr} {ifs : List Expr} {scope : Scope} {own : List (Str × Nat)} {pos : Pos} {code : Value} {fp : List Addr} {it : Addr} {tn : Nat → Heap → Prop} {Jt : It} {a : Addr} {gi : Nat} {s' : Shared} {g : TG} {tt : TT} {te : TE} {Yd : List V → V → Hp → Prop} {Go : V → Prop} {cont : List V → Hp → Prop}
    (L : GOk X.N X.env.scope scope own) (pa : GxParts X k scope elt tg ifs g tt te) (M : Made X pins σ H s elt tg iter ifs scope pos code fp it tn Jt a gi s') (q : Turns Jt g tt te (wipe σ (own.map (·.2))) (own.map (·.2)) Yd Go H cont) :
    GMadeG X.prog X.w (k + 1) X.stack H s fp Yd Go cont (.ref a) s' := by
  refine ⟨a, gi, _, rfl, Nat.le_of_lt M.lo, M.hi, M.gen, M.fresh, M.os, M.bare, M.lim, M.kp, ?_⟩
  intro A S s2 Jc oS hr hfr hS hJa hk2 hS0 hoS hJ0 hos hba
  obtain ⟨go, nm, qn, hgo, hgc, hgd, hgs⟩ := id M.gen
  have kp2 : ∀ b o, s.heap.get? b = some o → s2.heap.get? b = some o := fun b o e => hk2 b o (M.kp b o e)
  have Ist : Inv (gxCx X A s H scope code fp) [] (wipe σ (own.map (·.2))) H s2 := gx_start M.inv L M.fp hr.hd hfr (M.ns.keeps hk2) kp2 hos hba
  obtain ⟨p1, p2, p3⟩ := pa A s H code fp (hr.deeper _)
  obtain ⟨W, ⟨m0, w0⟩, turn⟩ := q
  have young : ∀ b, s.heap.objs.size < b → H b = none ∧ s.heap.objs.size ≤ b ∧ b ≠ s.heap.objs.size ∧ (∀ x c, (cloFrom X.env.cells scope.names []).lookup x = some c → c ≠ b) ∧ b ∉ frs X.stack := fun b hb => by
    refine ⟨M.inv.hok.fresh (Nat.le_of_lt hb), Nat.le_of_lt hb, Nat.ne_of_gt hb, fun x c e z => ?_, fun z => ?_⟩
    · obtain ⟨v, ob, ho, _⟩ := Ist.cell x c e
      have hc : X.env.cells.lookup x = some c := by
        rcases cloFrom_mem (PySem.mem_of_lookup e) with hm | ⟨h1, h2⟩
        · cases hm
        · obtain ⟨c1, hc⟩ := L.has M.inv.ok _ h1 rfl
          have hc : X.env.cells.lookup x = some c1 := hc
          have e2 : c = c1 := by
            rw [h2, hc] <;> rfl
          rw [e2]; exact hc
      obtain ⟨v', z'⟩ := M.inv.cell x c hc
      have := z'.lt
      rw [z] at this
      exact absurd (Nat.lt_trans this hb) (Nat.lt_irrefl _)
    · rcases List.mem_cons.mp (M.inv.stkSub b z) with y | y
      · have := M.inv.lt
        rw [← y] at this
        exact absurd (Nat.lt_trans this hb) (Nat.lt_irrefl _)
      · exact M.inv.nofs (Nat.le_of_lt hb) y
  have hSlo : s.heap.objs.size < S := by
    rcases hS with hS | hS
    · exact Nat.lt_of_lt_of_le (Nat.lt_trans M.lo M.hi) hS
    · rw [hS]; exact M.lo
  have gdc : ∀ v, go.data ≠ .cell v := fun v z => by rw [hgd] at z; cases z
  have hfpS : ∀ b ∈ fp, b < S ∧ b ≠ a := fun b hb => ⟨Nat.lt_trans (M.fp b hb).2 hSlo, Nat.ne_of_lt (Nat.lt_trans (M.fp b hb).2 M.lo)⟩
  generalize hY : ({ X with A := A.deeper (gEnv X scope s.heap.objs.size code), s_0 := s, H_0 := H, env := gEnv X scope s.heap.objs.size code, outer := X.stack, stack := gEnv X scope s.heap.objs.size code :: X.stack, ex := fp, fn := fun _ => false, calm := true, pn := [], xe := fun _ _ => False } : Cx) = Xg
  have eY : gxCx X A s H scope code fp = Xg := hY
  rw [eY] at Ist p1 p2 p3
  have hlc : Xg.env.locals = s.heap.objs.size := by subst hY; rfl
  have hcl : Xg.env.cells = cloFrom X.env.cells scope.names [] := by subst hY; rfl
  have hfs : Xg.fs = frs X.stack := by subst hY; rfl
  have h0 : Xg.s_0 = s := by subst hY; rfl
  have hpn : Xg.pn = [] := by subst hY; rfl
  have hen : Xg.env = gEnv X scope s.heap.objs.size code := by subst hY; rfl
  have hpr : Xg.prog = X.prog := by subst hY; rfl
  have hww : Xg.w = X.w := by subst hY; rfl
  have hKK : Xg.K = X.K := by subst hY; rfl
  have T : Turn Xg.prog Xg.w Xg.K tg Jt fp it tn := by rw [hpr, hww, hKK]; exact M.turn
  have I1 : Inv Xg [(a, go), (S, oS)] (wipe σ (own.map (·.2))) H s2 := by
    refine Ist.pins_of fun p hp => ?_
    rcases List.mem_cons.mp hp with e | hp
    · subst e
      obtain ⟨y1, y2, y3, y4, y5⟩ := young a M.lo
      exact ⟨hk2 _ _ hgo, y1, by rw [hlc]; exact y3, by rw [hfs]; exact y5, gdc⟩
    · rw [List.mem_singleton.mp hp]
      obtain ⟨y1, y2, y3, y4, y5⟩ := young S hSlo
      exact ⟨hS0, y1, by rw [hlc]; exact y3, by rw [hfs]; exact y5, hoS⟩
  rw [← hpr, ← hww]
  show Seg _ A _ _ sizeLine s2 (gStart elt tg iter ifs scope pos it (gEnv X scope s.heap.objs.size code)) _ [] s2
  rw [← hen]
  have tns : tn 0 s2.heap := M.turn.keep _ _ _ M.tn0 fun b _ o e => kp2 b o e
  refine seg_start T tns ?_
  have unOf : ∀ {σ' : L2.St} {H' : Hp} {s3 : Shared} {pins' : List (Addr × Obj)}, Inv Xg pins' σ' H' s3 → Un (frs X.stack) fp H H' s.heap s3.heap ∧ HOk Xg.prog Xg.w H' s3.heap := fun {σ' H' s3 pins'} I' => by
    have := I'.base
    rw [hfs, h0] at this
    have e1 : Xg.ex = fp := by subst hY; rfl
    have e2 : Xg.H_0 = H := by subst hY; rfl
    rw [e1, e2] at this
    exact ⟨this, I'.hok⟩
  refine seg_loop (J := fun ys pins => ∃ o, Jc ys o ∧ pins = [(a, go), (S, o)]) (Qe := cont) (Yd := Yd) (Go := Go) (W := W) (σw := wipe σ (own.map (·.2))) (vs := own.map (·.2)) (g := g) (tt := tt) (te := te) (fp := fp) (tn := tn) (Jt := Jt)
    (by rw [← hY]) (by rw [← hY]) (by rw [← hY]) (by rw [← hY]; exact L.co) (by rw [over_gx]; rw [← hY]) T p1 p2 p3 ?_ (wipe_wipe _ _) turn ?_ ?_ m0 sizeLine 0 [] s2 s2 [(a, go), (S, oS)] H rfl w0 ⟨oS, hJ0, rfl⟩ I1 tns (fun b hb => (M.fp b hb).1.1) (fun p hp => (I1.pin p (List.mem_append_right _ hp)).1)
  · rintro ys pins' ⟨o, _, rfl⟩ p hp z
    rw [hpn] at hp
    rcases List.mem_cons.mp hp with e | hp
    · rw [e] at z; exact (hfpS _ z).2 rfl
    · rw [List.mem_singleton.mp hp] at z
      exact Nat.lt_irrefl _ (hfpS _ z).1
  · rintro n ys pins' σ' H' s₀ s3 hn ⟨o, hj, rfl⟩ hs0 I' qe
    have pS := I'.pin (S, o) (List.mem_append_right _ (List.mem_cons_of_mem _ List.mem_cons_self))
    obtain ⟨u1, u2⟩ := unOf I'
    refine .inl ⟨.inr rfl, H', ys, o, ?_, I'.bare, u1, u2, pS.2.1, hs0 _ (List.mem_cons_of_mem _ List.mem_cons_self), pS.1, hj, by omega, qe⟩
    rw [I'.os, h0]
  · rintro n ys y v pins' ip σ' H' s₀ s3 kap hn ry ⟨o, hj, rfl⟩ hs0 hip I' yd hk
    have pa' := I'.pin (a, go) (List.mem_append_right _ (List.mem_append_left _ List.mem_cons_self))
    have pS := I'.pin (S, o) (List.mem_append_right _ (List.mem_append_left _ (List.mem_cons_of_mem _ List.mem_cons_self)))
    obtain ⟨u1, u2⟩ := unOf I'
    refine ⟨?_, I'.bare, I'.nolimit, ⟨go, nm, qn, pa'.1, hgc, hgd, hgs⟩, ys, y, o, H', hn, hj, ry, u1, u2, pS.2.1, hs0 _ (List.mem_cons_of_mem _ List.mem_cons_self), pS.1, yd, fun hGo s4 o' z1 z2 z3 z4 z5 z6 => ?_⟩
    · rw [I'.os, h0]
    · refine hk hGo [(a, go), (S, o')] s4 ⟨o', z6, rfl⟩ (woken (S := [S]) I' z1 z2 (fun b o hb e => z3 b o (fun q => hb (by rw [q]; exact List.mem_singleton.mpr rfl)) e) (fun b hb => ?_) fun p hp => ?_)
      · rw [List.mem_singleton.mp hb]
        obtain ⟨y1, y2, y3, y4, y5⟩ := young S hSlo
        exact ⟨pS.2.1, by rw [h0]; exact y2, by rw [hlc]; exact y3, by rw [hcl]; exact y4, by rw [hfs]; exact y5, by rw [hpn]; intro p hp; cases hp⟩
      · rcases List.mem_append.mp hp with hp | hp
        · rcases List.mem_cons.mp hp with e | hp
          · subst e
            by_cases hSa : S = a
            · have e1 := hJa hSa _ _ z6
              rw [hgo] at e1
              cases e1
              exact .inr ⟨List.mem_singleton.mpr hSa.symm, by rw [← hSa]; exact z4, gdc⟩
            · exact .inl ⟨List.mem_append_left _ List.mem_cons_self, fun q => hSa (List.mem_singleton.mp q).symm⟩
          · rw [List.mem_singleton.mp hp]
            exact .inr ⟨List.mem_singleton.mpr rfl, z4, z5⟩
        · exact .inl ⟨List.mem_append_right _ hp, fun q => by
            have := hfpS _ (hip p hp)
            rw [List.mem_singleton.mp q] at this
            exact Nat.lt_irrefl _ this.1⟩
end
/-- behind the generator -/
theorem _root_.L2.Inv.afterG {X : Cx} {pins : List (Addr × Obj)} {σ : L2.St} {H H' : Hp} {sc s' : Shared} {ex : List Addr} (I : Inv X pins σ H sc) (hex : ExOk X pins ex) (os : s'.os = sc.os) (hb : AllBare s'.gens) (un : Un (frs X.stack) ex H H' sc.heap s'.heap) (hok : HOk X.prog X.w H' s'.heap) : Inv X pins σ H' s' :=
  I.call' (ch := ex) os ⟨un.keep, un.slot, un.free, un.there, un.tups, un.frzs, un.tbls⟩ (fun b u q => hok b u q) hb hex
/-- what the generator's frame may use is the caller's to turn -/
theorem exOk_of {X : Cx} {pins : List (Addr × Obj)} {H : Hp} {fp : List Addr} (h : ∀ b ∈ fp, FpOk X pins H b) : ExOk X pins fp := by
  intro b hb
  obtain ⟨h1, h2, h3, h4, h5, h6⟩ := h b hb
  first
    | exact ⟨h4, h2, h5, h6⟩
    | exact ⟨h2, h3, h4, h5, h6⟩
end Gx

end
section
set_option Elab.async false
set_option linter.all false
set_option maxRecDepth 100000
set_option maxHeartbeats 1000000
/-! Gx, part E: tuple, list, sorted of a generator expression. -/
namespace PySem
open Sem (wp)
open AutoSeq1 (wpAny_loadPart')
section
variable {prog : Program} {w : World} {A : Around} {E : Value → Shared → Prop} {s : Shared} {a : Addr} {D : List Value → Shared → Prop}
theorem tuple_new_col {Q₁ : Value → Shared → Prop} (hTI : s.TypeIs (.ref a) "generator")
    (key : ∀ {Q : List Value → Shared → Prop} {E : Value → Shared → Prop}, (∀ us s', us.length ≤ sizeLine → D us s' → Q us s') → wpAny (model prog w) A.in1 (collect (.ref a)) Q E s)
    (h : ∀ us s', us.length ≤ sizeLine → D us s' → Q₁ (.ref s'.heap.objs.size) { s' with heap := s'.heap.push { cls := .type "tuple", data := .seq us.toArray } }) :
    codeAny (model prog w) A (.call (.builtin "tuple.__new__") ⟨[.type "tuple", .ref a], []⟩) (wants Q₁ E) s := by
  refine codeAny_of_tree ?_
  show wpAny _ A.in1 (do checkBuiltinCall "tuple.__new__" ⟨[.type "tuple", .ref a], []⟩; again (.builtin "tuple.__new__" ⟨[.type "tuple", .ref a], []⟩)) _ _ s
  refine wpAny_bind (wpAny_of_eq (F.newCall_tuple_1 _) (wpAny_pure ⟨plainId_quiet F.plain_tuple_new _, codeAny_builtin F.entry_tuple_new ?_⟩))
  rw [Around.under_plainId F.plain_tuple_new _]
  have hsub := sub_tuple_self
  have hinit := init_tuple_lookup
  have hmh := madeHere_tuple
  wp_walk using wpAny_typeOf hTI, key

  intro us s' hl h2
  show wpAny _ _ (Builtin.Tuple.tupleExact us.toArray >>= fun v => ret v) _ _ _
  unfold Builtin.Tuple.tupleExact
  refine wpAny_bind (wpAny_newObj_type ?_ (by show us.toArray.size ≤ sizeLine; simpa using hl))
  refine wpAny_pure ?_
  exact h us s' hl h2
end
end PySem
namespace Gx
open PySem PySem.Spec PyProof.Rows L2 GenW

section
variable {P : Program} {w : World} {A : Around} {E : Value → Shared → Prop} {outer : List Env} {H : Hp} {sc s : Shared} {ex : List Addr} {k : Nat}
theorem tuple_gen {cont : List V → Hp → Prop} {u : Value} {Q : Value → Shared → Prop} (hr : Room (k + 6) A) (hfr : A.frames = some outer) (h : GMade P w k outer H sc ex cont (fun _ _ _ => False) u s)
    (hQ : ∀ us s', us.length ≤ sizeLine → s.heap.objs.size ≤ s'.heap.objs.size → Drained P w outer H sc ex cont us s' → Q (.ref s'.heap.objs.size) { s' with heap := s'.heap.push { cls := .type "tuple", data := .seq us.toArray } }) : wpAny (model P w) A (call (.type "tuple") [u]) Q E s := by
  obtain ⟨a, g, c, rfl, ha1, ha2, hg, hrest⟩ := id h
  refine callType_codes (Q₁ := fun obj s₁ => s₁.TypeIs obj "tuple" ∧ Q obj s₁) PySem.F.called_tuple (PySem.F.typeCall_tuple_1 _) PySem.F.entry_object_init ?_ fun obj s₁ h₁ => ?_
  · refine tuple_new_col (D := fun us s' => s.heap.objs.size ≤ s'.heap.objs.size ∧ Drained P w outer H sc ex cont us s') hg.typeIs ?_ fun us s' hl h2 => ⟨⟨_, Heap.get?_push_size _ rfl, rfl⟩, hQ us s' hl h2.1 h2.2⟩
    intro Q E hq
    refine collect_gen (k := k) ⟨hr.hd, ?_, ?_⟩ hfr h fun us s' h1 h2 => hq us s' (by obtain ⟨_, ys, r, hl, _⟩ := h2; rw [← r.length]; exact hl) ⟨h1, h2⟩
    · have := hr.dp
      show A.depth + 3 * (k + 3) + 5 < _
      omega
    · have := hr.un
      show A.units + 1 + 1 + 16 * (k + 3) + 200 < _
      omega
  · exact ⟨h₁.1, PySem.F.args_object_init_2 obj _, object_init_meets PySem.F.called_tuple.init.lookup PySem.F.called_tuple.made (by decide) P w A.in1 _ s₁ ⟨h₁.1, rfl, h₁.2⟩⟩
end

/-! ### sorted -/
mutual
theorem reads_live {h : Heap} : ∀ {v : Value} {d : PyData} {as : List Addr}, Reads h v d as → ∀ a ∈ as, ∃ o, h.get? a = some o
  | _, _, _, .none, a, ha => by cases ha
  | _, _, _, .bool _, a, ha => by cases ha
  | _, _, _, .int _ _, a, ha => by cases ha
  | _, _, _, .str _ _, a, ha => by cases ha
  | _, _, _, .list ho _ _ hr, a, ha => by
    rcases List.mem_cons.mp ha with rfl | ha
    · exact ⟨_, ho⟩
    · exact readsAll_live hr a ha
  | _, _, _, .tuple ho _ _ hr, a, ha => readsAll_live hr a ha
  | _, _, _, .dict ho _ _ hr hs, a, ha => by
    rcases List.mem_append.mp ha with ha | ha
    · rcases List.mem_cons.mp ha with rfl | ha
      · exact ⟨_, ho⟩
      · exact readsAll_live hr a ha
    · exact readsAll_live hs a ha
theorem readsAll_live {h : Heap} : ∀ {vs : List Value} {ds : List PyData} {as : List Addr}, ReadsAll h vs ds as → ∀ a ∈ as, ∃ o, h.get? a = some o
  | _, _, _, .nil, a, ha => by cases ha
  | _, _, _, .cons r rs, a, ha => by
    rcases List.mem_append.mp ha with ha | ha
    · exact reads_live r a ha
    · exact readsAll_live rs a ha
end
/-- values and what they read as, sorted -/
def sortV (ys : List V) (ds : List PyData) : List V := ((ys.zip ds).mergeSort (PySem.W.dataLe false Prod.snd)).map Prod.fst
theorem dp_zip {K : PySem.W.Frag} {H : Hp} : ∀ {ys : List V} {ds : List PyData}, DpAll K H ys ds → ys.length = ds.length
  | _, _, .nil => rfl
  | _, _, .cons _ t => by simp [dp_zip t]
theorem each_vals {ys : List V} {us : List Value} (r : Vals ys us) : ∀ {ds : List PyData}, ys.length = ds.length → PySem.W.EachIs (fun (v : Value) (b : V × PyData) => RelV b.1 v) us (ys.zip ds) := by
  induction r with
  | nil => intro ds e; exact .nil
  | cons r1 _ ih =>
    intro ds e
    cases ds with
    | nil => cases e
    | cons d ds => exact .cons r1 (ih (by simpa using e))
theorem vals_each : ∀ {us : List Value} {bs : List (V × PyData)}, PySem.W.EachIs (fun (v : Value) (b : V × PyData) => RelV b.1 v) us bs → Vals (bs.map Prod.fst) us
  | _, _, .nil => .nil
  | _, _, .cons r t => .cons r (vals_each t)
section
variable {X : Cx} {pins : List (Addr × Obj)} {σ : L2.St} {s : Shared} {Q : VK}
theorem each_reads {H : Hp} (I : Inv X pins σ H s) {ys : List V} {us : List Value} (r : Vals ys us) : ∀ {ds : List PyData}, DpAll X.K H ys ds → PySem.W.EachIs (fun (v : Value) (b : V × PyData) => ∃ as, Reads s.heap v b.2 as) us (ys.zip ds) := by
  induction r with
  | nil => intro ds e; exact .nil
  | cons r1 _ ih =>
    intro ds e
    cases e with
    | cons e1 e2 => exact .cons (Dp.reads I _ _ _ e1 r1) (ih e2)
/-- what is wanted of what is sorted -/
def SortOk (K : PySem.W.Frag) (Q : VK) (ys : List V) (H1 : Hp) : Prop := ∃ ds, DpAll K H1 ys ds ∧ PySem.W.AllAlike ds ∧ PySem.W.Sortable ds ∧ (∀ d ∈ ds, d.depth ≤ 60) ∧ ∀ p, H1 p = none → Q (.ref p) (upd H1 p (.lst (sortV ys ds)))
theorem sorted_col {u : Value} (hu : X.A.units + 70 < cLine)
    (key : ∀ {Q' : List Value → Shared → Prop} {E : Value → Shared → Prop}, (∀ us s1 H1 ys, Inv X pins σ H1 s1 → Vals ys us → ys.length ≤ sizeLine → SortOk X.K Q ys H1 → Q' us s1) → wpAny (model X.prog X.w) X.A.in1 (collect u) Q' E s) :
    wpAny (model X.prog X.w) X.A (call (.builtin "sorted") [u]) (EP X pins σ Q) X.xe s := by
  refine Calls.call_function_entry kind_sorted plain_sorted entry_sorted (args_sorted1 _) ?_
  unfold Builtin.«sorted»
  refine wpAny_bind (m := checkCount "sorted" 1 1 _) (wpAny_pure ?_)
  refine wpAny_bind (key fun us s1 H1 ys I r hl hq => ?_)
  obtain ⟨ds, hd, al, so, dp, q⟩ := hq
  have hlu : us.length ≤ sizeLine := by rw [← r.length]; exact hl
  refine wpAny_bind (wpAny_newList ?_ hlu)
  have hlen : ys.length = ds.length := dp_zip hd
  have hz : (ys.zip ds).map Prod.snd = ds := by rw [List.map_snd_zip]; omega
  have hoL : (s1.heap.push (seqObj "list" us.toArray 0)).get? s1.heap.objs.size = some (seqObj "list" us.toArray 0) := Heap.get?_push_size _ rfl
  have hk : ∀ b o, s1.heap.get? b = some o → (s1.heap.push (seqObj "list" us.toArray 0)).get? b = some o := fun b o e => Heap.get?_push_of_some _ e
  refine wpAny_bind (wpAny_holding (PySem.W.list_sort_data (s := { s1 with heap := s1.heap.push (seqObj "list" us.toArray 0) }) (enc := Prod.snd) (R := fun v b => RelV b.1 v) (bs := ys.zip ds) hoL (each_vals r hlen) ?_ (by rw [hz]; exact al) (by rw [hz]; exact so) (by rw [List.length_zip]; omega) ?_ fun out ho he => ?_))
  · refine (each_reads I r hd).mono fun v b ⟨as, ra⟩ => ⟨as, PyProof.Rows.Reads.keeps hk ra, fun hm => ?_⟩
    obtain ⟨o, e⟩ := reads_live ra _ hm
    exact absurd (Heap.lt_size e) (Nat.lt_irrefl _)
  · intro b hb
    have hb2 : b.2 ∈ ds := by rw [← hz]; exact List.mem_map.mpr ⟨b, hb, rfl⟩
    have := dp _ hb2
    show X.A.units + 1 + 1 + _ < _
    omega
  · obtain ⟨ep, e1⟩ := PyProof.Rows.sortedHeap_at (out := out.toArray) hoL
    have hls : ((ys.zip ds).mergeSort (PySem.W.dataLe false Prod.snd)).length = ys.length := by rw [(List.mergeSort_perm _ _).length_eq, List.length_zip, hlen, Nat.min_self]
    refine wpAny_pure ⟨_, rfl, .ref _, upd H1 s1.heap.objs.size (.lst (sortV ys ds)), I.laid (t' := s1.toks) (fun b o e => ?_) (Nat.le_refl _) ⟨?_, out, ep, vals_each he, e1⟩, rfl, q _ (I.hok.fresh (Nat.le_refl _))⟩
    · have hb : b < s1.heap.objs.size := Heap.lt_size e
      rw [PyProof.Rows.sortedHeap_old (Nat.ne_of_lt hb) (by rw [Heap.size_push]; exact Nat.lt_succ_of_lt hb)]
      exact hk b o e
    · show (sortV ys ds).length ≤ sizeLine
      unfold sortV
      rw [List.length_map, hls]; exact hl
end
end Gx

end
section
set_option Elab.async false
set_option linter.all false
set_option maxRecDepth 100000
set_option maxHeartbeats 1000000
/-! Gx, part F: the rules of tuple(..), list(..), sorted(..) of a generator expression. -/
namespace Gx
open PySem PySem.Spec PyProof.Rows L2 GenW

structure GxH (X : Cx) (k : Nat) (P c : Addr) (elt tg iter : Expr) (ifs : List Expr) (scope : Scope) (own : List (Str × Nat)) (wi : TI) (g : TG) (tt : TT) (te : TE) : Prop where
  room : Room (k + 8) X.A
  tab : GxR.TabB X.base X.mg c P
  code : X.env.code = .ref c
  sc : GOk X.N X.env.scope scope own
  it : PI X tg iter wi
  fold : ∀ v, genFold iter X.env v = pure v
  pa : GxParts X k scope elt tg ifs g tt te
/-- the reading of a generator expression: what its end wants, what each item wants -/
def tGx (P : Addr) (wi : TI) (g : TG) (tt : TT) (te : TE) (vs : List Nat) (σ : L2.St) (H : Hp) (Yd : List V → V → Hp → Prop) (Go : V → Prop) (cont : List V → Hp → Prop) : Prop :=
  wi σ H fun Jt H1 => GxR.TabG H1 P ∧ ∀ H2, GxR.Tabbed P H1 H2 → Turns Jt g tt te (wipe σ vs) vs Yd Go H2 cont
section
variable {X : Cx} {pins : List (Addr × Obj)} {σ : L2.St} {H : Hp} {s : Shared} {k : Nat} {P c : Addr} {elt tg iter : Expr} {ifs : List Expr} {scope : Scope} {own : List (Str × Nat)} {wi : TI} {g : TG} {tt : TT} {te : TE} {cont : List V → Hp → Prop} {Yd : List V → V → Hp → Prop} {Go : V → Prop} {gpos pos p : Pos}
theorem gx_evalC (h : GxH X k P c elt tg iter ifs scope own wi g tt te) (I : Inv X pins σ H s) (q : tGx P wi g tt te (own.map (·.2)) σ H (fun _ _ _ => True) (fun _ => True) cont) :
    wpAny (model X.prog X.w) X.A (eval (.GeneratorExp elt [⟨tg, iter, ifs, 0⟩] scope gpos) X.env) (fun u s' => ∃ H2 sc fp, Inv X pins σ H2 sc ∧ ExOk X pins fp ∧ GMade X.prog X.w (k + 1) X.stack H2 sc fp cont (fun _ _ _ => False) u s') X.xe s :=
  gx_make (k := k) (h.room.mono (Nat.le_add_right _ _)) h.tab h.code h.sc h.it h.fold I q fun H2 sc code fp it tn Jt a gi s' M t => ⟨H2, sc, fp, M.inv, exOk_of fun b hb => (M.fp b hb).1, gmade h.sc h.pa M t⟩
theorem gx_evalG (h : GxH X k P c elt tg iter ifs scope own wi g tt te) (I : Inv X pins σ H s) (q : tGx P wi g tt te (own.map (·.2)) σ H Yd Go cont) :
    wpAny (model X.prog X.w) X.A (eval (.GeneratorExp elt [⟨tg, iter, ifs, 0⟩] scope gpos) X.env) (fun u s' => ∃ H2 sc fp, Inv X pins σ H2 sc ∧ ExOk X pins fp ∧ GMadeG X.prog X.w (k + 1) X.stack H2 sc fp Yd Go cont u s') X.xe s :=
  gx_make (k := k) (h.room.mono (Nat.le_add_right _ _)) h.tab h.code h.sc h.it h.fold I q fun H2 sc code fp it tn Jt a gi s' M t => ⟨H2, sc, fp, M.inv, exOk_of fun b hb => (M.fp b hb).1, gmadeG h.sc h.pa M t⟩
theorem gx_star {env : Env} : starEach [.GeneratorExp elt [⟨tg, iter, ifs, 0⟩] scope gpos] env = (false, eval (.GeneratorExp elt [⟨tg, iter, ifs, 0⟩] scope gpos) env) :: starEach [] env := rfl
def cTup (Q : VK) : List V → Hp → Prop := fun out H => ∀ p, H p = none → Q (.ref p) (upd H p (.tup out))
def cLst (Q : VK) : List V → Hp → Prop := fun out H => ∀ p, H p = none → Q (.ref p) (upd H p (.lst out))
theorem pe_tupG {nm : Str} (h : GxH X k P c elt tg iter ifs scope own wi g tt te) (hg : Gl X nm) (hm : X.mg nm = none) (hv : bootBuiltins nm = some (.type "tuple")) (hnm : nm ≠ "__name__") (hdb : (nm == ("__debug__" : Str)) = false) :
    PE X (.Call (.Name nm p) [.GeneratorExp elt [⟨tg, iter, ifs, 0⟩] scope gpos] [] pos) (fun σ H Q => tGx P wi g tt te (own.map (·.2)) σ H (fun _ _ _ => True) (fun _ => True) (cTup Q)) := by
  refine ⟨fun pins s σ H Q I q => ?_⟩
  refine wpAny_Call_Name_kw (ld_blt I hg hm hv ?_ hnm hdb)
  refine PyProof.Rows.callWith_type1 ?_ gx_star rfl
  rw [gx_star]
  show wpAny _ _ (spliced ((false, eval (.GeneratorExp elt [⟨tg, iter, ifs, 0⟩] scope gpos) X.env) :: backTo pos (starEach [] X.env))) _ _ s
  refine Calls.spliced_cons (thn (gx_evalC h I q) fun u s1 ⟨H2, sc, fp, I2, hex, M⟩ => ?_)
  refine Calls.spliced_nil ?_
  refine tuple_gen (k := k + 1) (h.room.mono (by omega)) I2.ok.frames M fun us s' hl hz ⟨H', ys, r, hy, e1, e2, e3, e4, e5⟩ => ?_
  have I3 := I2.afterG hex e1 e2 e3 e4
  refine ⟨.ref _, upd H' s'.heap.objs.size (.tup ys), I3.laid (t' := s'.toks) (fun b o e => Heap.get?_push_of_some _ e) (Nat.le_refl _) ⟨hy, us, r, ⟨_, Heap.get?_push_size _ rfl, rfl, 0, rfl⟩⟩, rfl, e5 _ (I3.hok.fresh (Nat.le_refl _))⟩
theorem pe_lstG {nm : Str} (h : GxH X k P c elt tg iter ifs scope own wi g tt te) (hg : Gl X nm) (hm : X.mg nm = none) (hv : bootBuiltins nm = some (.type "list")) (hnm : nm ≠ "__name__") (hdb : (nm == ("__debug__" : Str)) = false) :
    PE X (.Call (.Name nm p) [.GeneratorExp elt [⟨tg, iter, ifs, 0⟩] scope gpos] [] pos) (fun σ H Q => tGx P wi g tt te (own.map (·.2)) σ H (fun _ _ _ => True) (fun _ => True) (cLst Q)) := by
  refine ⟨fun pins s σ H Q I q => ?_⟩
  refine wpAny_Call_Name_kw (ld_blt I hg hm hv ?_ hnm hdb)
  refine PyProof.Rows.callWith_type1 ?_ gx_star rfl
  rw [gx_star]
  show wpAny _ _ (spliced ((false, eval (.GeneratorExp elt [⟨tg, iter, ifs, 0⟩] scope gpos) X.env) :: backTo pos (starEach [] X.env))) _ _ s
  refine Calls.spliced_cons (thn (gx_evalC h I q) fun u s1 ⟨H2, sc, fp, I2, hex, M⟩ => ?_)
  refine Calls.spliced_nil ?_
  have hsz : sc.heap.objs.size ≤ s1.heap.objs.size := by
    obtain ⟨a, g, c, _, h1, h2, _⟩ := M
    exact Nat.le_trans h1 (Nat.le_of_lt h2)
  refine call_list_new (k := k + 1) (h.room.mono (by omega)) I2.ok.frames M (fun S s' acc c H' ys q0 q1 q2 hl q3 q4 q5 q6 q7 q8 => ?_) fun e s' g hc => ?_
  · exact ⟨.ref S, upd H' S (.lst ys), I2.drained (Nat.le_trans hsz q0) hl q1 q2 hex q3 q4 q5 q6 q7, rfl, q8 S q7⟩
  · obtain ⟨_, _, _, _, _, _, _, _, _, _, _, _, hW⟩ := hc
    exact hW.elim
theorem pe_sortG {nm : Str} (h : GxH X k P c elt tg iter ifs scope own wi g tt te) (hg : Gl X nm) (hm : X.mg nm = none) (hv : bootBuiltins nm = some (.builtin "sorted")) (hnm : nm ≠ "__name__") (hdb : (nm == ("__debug__" : Str)) = false) :
    PE X (.Call (.Name nm p) [.GeneratorExp elt [⟨tg, iter, ifs, 0⟩] scope gpos] [] pos) (fun σ H Q => tGx P wi g tt te (own.map (·.2)) σ H (fun _ _ _ => True) (fun _ => True) (SortOk X.K Q)) := by
  refine ⟨fun pins s σ H Q I q => ?_⟩
  refine wpAny_Call_Name_kw (ld_blt I hg hm hv ?_ hnm hdb)
  refine PyProof.Rows.callWith_builtin1 ?_ gx_star rfl
  rw [gx_star]
  show wpAny _ _ (spliced ((false, eval (.GeneratorExp elt [⟨tg, iter, ifs, 0⟩] scope gpos) X.env) :: backTo pos (starEach [] X.env))) _ _ s
  refine Calls.spliced_cons (thn (gx_evalC h I q) fun u s1 ⟨H2, sc, fp, I2, hex, M⟩ => ?_)
  refine Calls.spliced_nil ?_
  refine sorted_col (by have := h.room.un; omega) fun {Q' E} hq => ?_
  refine collect_gen (k := k + 1) ⟨h.room.hd, ?_, ?_⟩ I2.ok.frames M fun us s' hz ⟨H', ys, r, hy, e1, e2, e3, e4, e5⟩ => hq us s' H' ys (I2.afterG hex e1 e2 e3 e4) r hy e5
  · have := h.room.dp
    show X.A.depth + 3 * (k + 1 + 3) + 5 < _
    omega
  · have := h.room.un
    show X.A.units + 1 + 16 * (k + 1 + 3) + 200 < _
    omega
end
end Gx

end
section
set_option Elab.async false
set_option linter.all false
set_option maxRecDepth 100000
set_option maxHeartbeats 1000000
/-! Gx, part G: any, all, sum of a generator expression. -/
namespace Gx
open PySem PySem.Spec PyProof.Rows L2 GenW

section
variable {P : Program} {w : World} {outer : List Env} {H : Hp} {sc s : Shared} {ex : List Addr} {S a : Addr} {g : Nat} {Jc : List V → Obj → Prop} {Yd : List V → V → Hp → Prop} {Go : V → Prop} {cont : List V → Hp → Prop} {A B : Around} {E : Value → Shared → Prop}
/-- a generator at rest, or not begun -/
def Rest (P : Program) (w : World) (outer : List Env) (H : Hp) (sc : Shared) (ex : List Addr) (S a : Addr) (g : Nat) (Jc : List V → Obj → Prop) (Yd : List V → V → Hp → Prop) (Go : V → Prop) (cont : List V → Hp → Prop) (B : Around) (m : Nat) (s : Shared) : Prop :=
  s.heap.IsGen a g ∧ s.heap.NoLimit ∧ ∃ gs, s.gens[g]? = some gs ∧ gs.Goes (model P w) B (REndG P w outer H sc ex S Jc cont) (YItemG P w outer H sc ex S a g Jc Yd Go) m (.send .none) (s.setGen g .running)
/-- what is known behind a turn -/
def Aft (P : Program) (w : World) (outer : List Env) (H : Hp) (sc : Shared) (ex : List Addr) (H' : Hp) (s : Shared) : Prop :=
  s.os = sc.os ∧ AllBare s.gens ∧ Un (frs outer) ex H H' sc.heap s.heap ∧ HOk P w H' s.heap
theorem rest_next {m : Nat} {Q : Option Value → Shared → Prop} (hh : A.handled = none) (hd : A.depth < recursionLimit) (hSc : S ≠ cStatics) (hSa : S = a → ∀ ys o, Jc ys o → s.heap.get? a = some o) (r : Rest P w outer H sc ex S a g Jc Yd Go cont A.in1 m s)
    (hend : ∀ s1 H' ys o, Aft P w outer H sc ex H' s1 → H' S = none → s.heap.get? S = some o → s1.heap.get? S = some o → Jc ys o → cont ys H' → Q none s1)
    (hitem : ∀ v s1 H' ys y o, RelV y v → Aft P w outer H sc ex H' s1 → H' S = none → s.heap.get? S = some o → s1.heap.get? S = some o → Jc ys o → Yd ys y H' → ys.length < sizeLine →
      (Go y → ∀ s' o', s'.os = s1.os → s'.gens = s1.gens → (∀ b u, b ≠ S → s1.heap.get? b = some u → s'.heap.get? b = some u) → s'.heap.get? S = some o' → (∀ v, o'.data ≠ .cell v) → Jc (ys ++ [y]) o' → (S = a → ∀ o, s.heap.get? a = some o → s'.heap.get? a = some o) → ∃ m', m = m' + 1 ∧ Rest P w outer H sc ex S a g Jc Yd Go cont A.in1 m' s') → Q (some v) s1) :
    wpAny (model P w) A (pyNext (.ref a)) Q E s := by
  obtain ⟨hg, hl, gs, hgs, hgo⟩ := r
  have hgl : g < s.gens.size := (Array.getElem?_eq_some_iff.mp hgs).1
  refine wpAny_gsz (n := g + 1) hgl (next_genG (A := A) (F := fun n s₀ s1 => ∃ H' ys o, s1.os = sc.os ∧ AllBare s1.gens ∧ Un (frs outer) ex H H' sc.heap s1.heap ∧ HOk P w H' s1.heap ∧ H' S = none ∧ s₀.heap.get? S = some o ∧ s1.heap.get? S = some o ∧ Jc ys o ∧ ys.length ≤ sizeLine ∧ cont ys H') (Er := fun _ _ => False) hh hl hd hg hgs hgo (fun v s₁ gs' hbare hv => ?_) (fun s₁ hp h' hk => ?_) fun e s₁ he => he.elim)
  · intro hsz
    obtain ⟨os1, hb1, hl1, hg1, ys, y, o, H', hn, hj, ry, un, hok, hSn, hS0, hS1, yd, hk⟩ := hv
    refine hitem v _ H' ys y o ry ⟨os1, allBare_setGen hb1 hbare, un, hok⟩ hSn hS0 hS1 hj yd (by omega) fun hgo s' o' z1 z2 z3 z4 z5 z6 z7 => ?_
    have hsz1 : g < s₁.gens.size := by
      have q : (s₁.setGen g gs').gens.size = s₁.gens.size := setGen_size _ _ _
      have hsz' : g + 1 ≤ (s₁.setGen g gs').gens.size := hsz
      omega
    have hs'g : s'.gens[g]? = some gs' := by rw [z2]; exact setGen_at hsz1
    have hb' : AllBare s'.gens := by rw [z2]; exact allBare_setGen hb1 hbare
    have key := hk hgo (s'.setGen g .running) o' z1 (allBare_setGen hb' rfl) z3 z4 z5 z6
    cases m with
    | zero => exact False.elim key
    | succ m =>
      refine ⟨m, rfl, ?_, ?_, gs', hs'g, key⟩
      · obtain ⟨og, nm, qn, ho, r⟩ := hg1
        by_cases e : a = S
        · obtain ⟨og2, nm2, qn2, ho2, r2⟩ := hg
          exact ⟨og2, nm2, qn2, z7 e.symm og2 ho2, r2⟩
        · exact ⟨og, nm, qn, z3 a og e ho, r⟩
      · obtain ⟨mc, hns, hnn⟩ := hl1
        exact ⟨mc, hns.at' fun o e => z3 _ o (Ne.symm hSc) e, hnn⟩
  · intro hsz
    obtain ⟨H', ys, o, os1, hb1, un, hok, hSn, hS0, hS1, hj, hle, hQ⟩ := hp
    exact hend _ H' ys o ⟨os1, allBare_setGen hb1 rfl, un.trans (Un.kept hk), hok.kept hk⟩ hSn hS0 (hk _ _ hS1) hj hQ
end
section
variable {X : Cx} {pins : List (Addr × Obj)} {σ : L2.St} {s : Shared} {H2 : Hp} {sc : Shared} {fp : List Addr} {k : Nat} {u : Value} {Q : VK} {Yd : List V → V → Hp → Prop} {Go : V → Prop} {cont : List V → Hp → Prop}
/-- any, all: b stops -/
theorem any_loop {P : Program} {w : World} {outer : List Env} {H : Hp} {sc : Shared} {ex : List Addr} {a : Addr} {g : Nat} {go : Obj} {Yd : List V → V → Hp → Prop} {Go : V → Prop} {cont : List V → Hp → Prop} {A : Around} {R : Result → Shared → Prop} {Rb : Bool → Hp → Prop}
    (hh : A.handled = none) (hd : A.depth < recursionLimit) (hac : a ≠ cStatics) (hG : Go (.bl false)) (hY : ∀ ys y H', Yd ys y H' → ∃ b, y = .bl b ∧ (b = true → Rb true H')) (hC : ∀ ys H', cont ys H' → Rb false H') (hR : ∀ b s' H', Aft P w outer H sc ex H' s' → Rb b H' → R (.ok (.ret (.bool b))) s') (gdc : ∀ v, go.data ≠ .cell v) :
    ∀ (m : Nat) (s : Shared), s.heap.get? a = some go → Rest P w outer H sc ex a a g (fun _ o => o = go) Yd Go cont A.in1.in1 m s → codeAny (model P w) A (.builtin "any.loop" ⟨[.ref a], []⟩) R s := by
  intro m
  induction m with
  | zero =>
    intro s hgo r
    refine codeAny_builtin PySem.F.entry_any_loop ?_
    rw [Around.under_plainId PySem.F.plain_any_loop _]
    show wpAny _ A.in1 (pyNext (.ref a) >>= _) _ _ s
    refine wpAny_bind (rest_next (A := A.in1) hh hd hac (fun _ _ o e => by rw [hgo, e]) r (fun s1 H' ys o af _ _ _ _ c => ?_) fun v s1 H' ys y o rv af hn _ hS hj yd _ hk => ?_)
    · exact wpAny_bind (wpAny_rule (wpAny_pure (hR false s1 H' af (hC ys H' c))))
    · obtain ⟨b, rfl, hb⟩ := hY ys y H' yd
      obtain rfl : v = Value.bool b := rv
      refine wpAny_bind (wpAny_holding (wpAny_truthy_bool ?_))
      refine wpAny_bind (wpAny_letGo ?_)
      cases b with
      | true =>
        simp only [if_true]
        exact wpAny_bind (wpAny_rule (wpAny_pure (hR true s1 H' af (hb rfl))))
      | false =>
        obtain ⟨m', e, r'⟩ := hk hG s1 o rfl rfl (fun _ _ _ e => e) hS (by rw [hj]; exact gdc) hj (fun _ o' e => by rw [hgo] at e; cases e; rw [hj] at hS; exact hS)
        cases e
  | succ m ih =>
    intro s hgo r
    refine codeAny_builtin PySem.F.entry_any_loop ?_
    rw [Around.under_plainId PySem.F.plain_any_loop _]
    show wpAny _ A.in1 (pyNext (.ref a) >>= _) _ _ s
    refine wpAny_bind (rest_next (A := A.in1) hh hd hac (fun _ _ o e => by rw [hgo, e]) r (fun s1 H' ys o af _ _ _ _ c => ?_) fun v s1 H' ys y o rv af hn _ hS hj yd _ hk => ?_)
    · exact wpAny_bind (wpAny_rule (wpAny_pure (hR false s1 H' af (hC ys H' c))))
    · obtain ⟨b, rfl, hb⟩ := hY ys y H' yd
      obtain rfl : v = Value.bool b := rv
      refine wpAny_bind (wpAny_holding (wpAny_truthy_bool ?_))
      refine wpAny_bind (wpAny_letGo ?_)
      cases b with
      | true =>
        simp only [if_true]
        exact wpAny_bind (wpAny_rule (wpAny_pure (hR true s1 H' af (hb rfl))))
      | false =>
        simp only [Bool.false_eq_true, if_false]
        obtain ⟨m', e, r'⟩ := hk hG s1 o rfl rfl (fun _ _ _ e => e) hS (by rw [hj]; exact gdc) hj (fun _ o' e => by rw [hgo] at e; cases e; rw [hj] at hS; exact hS)
        cases e
        exact wpAny_pure ⟨plainId_quiet PySem.F.plain_any_loop _, ih s1 (by rw [hj] at hS; exact hS) r'⟩
theorem all_loop {P : Program} {w : World} {outer : List Env} {H : Hp} {sc : Shared} {ex : List Addr} {a : Addr} {g : Nat} {go : Obj} {Yd : List V → V → Hp → Prop} {Go : V → Prop} {cont : List V → Hp → Prop} {A : Around} {R : Result → Shared → Prop} {Rb : Bool → Hp → Prop}
    (hh : A.handled = none) (hd : A.depth < recursionLimit) (hac : a ≠ cStatics) (hG : Go (.bl true)) (hY : ∀ ys y H', Yd ys y H' → ∃ b, y = .bl b ∧ (b = false → Rb false H')) (hC : ∀ ys H', cont ys H' → Rb true H') (hR : ∀ b s' H', Aft P w outer H sc ex H' s' → Rb b H' → R (.ok (.ret (.bool b))) s') (gdc : ∀ v, go.data ≠ .cell v) :
    ∀ (m : Nat) (s : Shared), s.heap.get? a = some go → Rest P w outer H sc ex a a g (fun _ o => o = go) Yd Go cont A.in1.in1 m s → codeAny (model P w) A (.builtin "all.loop" ⟨[.ref a], []⟩) R s := by
  intro m
  induction m with
  | zero =>
    intro s hgo r
    refine codeAny_builtin PySem.F.entry_all_loop ?_
    rw [Around.under_plainId PySem.F.plain_all_loop _]
    show wpAny _ A.in1 (pyNext (.ref a) >>= _) _ _ s
    refine wpAny_bind (rest_next (A := A.in1) hh hd hac (fun _ _ o e => by rw [hgo, e]) r (fun s1 H' ys o af _ _ _ _ c => ?_) fun v s1 H' ys y o rv af hn _ hS hj yd _ hk => ?_)
    · exact wpAny_bind (wpAny_rule (wpAny_pure (hR true s1 H' af (hC ys H' c))))
    · obtain ⟨b, rfl, hb⟩ := hY ys y H' yd
      obtain rfl : v = Value.bool b := rv
      refine wpAny_bind (wpAny_holding (wpAny_truthy_bool ?_))
      refine wpAny_bind (wpAny_letGo ?_)
      cases b with
      | false =>
        simp only [Bool.false_eq_true, if_false]
        exact wpAny_bind (wpAny_rule (wpAny_pure (hR false s1 H' af (hb rfl))))
      | true =>
        obtain ⟨m', e, r'⟩ := hk hG s1 o rfl rfl (fun _ _ _ e => e) hS (by rw [hj]; exact gdc) hj (fun _ o' e => by rw [hgo] at e; cases e; rw [hj] at hS; exact hS)
        cases e
  | succ m ih =>
    intro s hgo r
    refine codeAny_builtin PySem.F.entry_all_loop ?_
    rw [Around.under_plainId PySem.F.plain_all_loop _]
    show wpAny _ A.in1 (pyNext (.ref a) >>= _) _ _ s
    refine wpAny_bind (rest_next (A := A.in1) hh hd hac (fun _ _ o e => by rw [hgo, e]) r (fun s1 H' ys o af _ _ _ _ c => ?_) fun v s1 H' ys y o rv af hn _ hS hj yd _ hk => ?_)
    · exact wpAny_bind (wpAny_rule (wpAny_pure (hR true s1 H' af (hC ys H' c))))
    · obtain ⟨b, rfl, hb⟩ := hY ys y H' yd
      obtain rfl : v = Value.bool b := rv
      refine wpAny_bind (wpAny_holding (wpAny_truthy_bool ?_))
      refine wpAny_bind (wpAny_letGo ?_)
      cases b with
      | false =>
        simp only [Bool.false_eq_true, if_false]
        exact wpAny_bind (wpAny_rule (wpAny_pure (hR false s1 H' af (hb rfl))))
      | true =>
        simp only [if_true]
        obtain ⟨m', e, r'⟩ := hk hG s1 o rfl rfl (fun _ _ _ e => e) hS (by rw [hj]; exact gdc) hj (fun _ o' e => by rw [hgo] at e; cases e; rw [hj] at hS; exact hS)
        cases e
        exact wpAny_pure ⟨plainId_quiet PySem.F.plain_all_loop _, ih s1 (by rw [hj] at hS; exact hS) r'⟩
theorem sum_loop {P : Program} {w : World} {outer : List Env} {H : Hp} {sc : Shared} {ex : List Addr} {S a : Addr} {g : Nat} {cont : List V → Hp → Prop} {A : Around} {R : Result → Shared → Prop}
    (hh : A.handled = none) (hd : A.depth < recursionLimit) (hSa : S ≠ a) (hSc : S ≠ cStatics) (hR : ∀ (ns : List Int) (t : Tok) (s' : Shared) (H' : Hp), Aft P w outer H sc ex H' s' → cont (ns.map V.int) H' → R (.ok (.ret (.int ns.sum t))) s') :
    ∀ (m : Nat) (s : Shared) (st : Int), (st = 0 ∨ st = 2) → Rest P w outer H sc ex S a g (fun ys o => ∃ (ns : List Int) (t : Tok) (c : Nat), ys = ns.map V.int ∧ o = { cls := .type "list", dict := none, data := .seq #[.int ns.sum t] c, slots := #[] }) (fun _ y _ => ∃ n, y = .int n) (fun _ => True) cont A.in1.in1 m s →
      (∃ T t c, s.heap.get? S = some { cls := .type "list", dict := none, data := .seq #[.int T t] c, slots := #[] }) → codeAny (model P w) A (.builtin "sum.loop" ⟨[.ref a, .ref S, rawInt st, rawInt 0], []⟩) R s := by
  have inj : ∀ {ns ms : List Int}, ns.map V.int = ms.map V.int → ns = ms := fun {ns ms} e => List.map_inj_right (fun x y h => by cases h; rfl) |>.mp e
  intro m
  induction m with
  | zero =>
    intro s st hst r ⟨T, t, c, hS⟩
    refine codeAny_builtin PySem.F.entry_sum_loop ?_
    rw [Around.under_plainId PySem.F.plain_sum_loop _]
    show wpAny _ A.in1 (seqItems? (.ref S) >>= _) _ _ s
    refine wpAny_bind (wpAny_seqItems hS rfl ?_)
    show wpAny _ A.in1 (tryCatch (pyNext (.ref a)) _ >>= _) _ _ s
    refine wpAny_bind (wpAny_tryCatch (rest_next (A := A.in1) hh hd hSc (fun e => absurd e hSa) r (fun s1 H' ys o af hn h0 h1 hj c => ?_) fun v s1 H' ys y o rv af hn h0 hS1 hj yd _ hk => ?_))
    · obtain ⟨ns, t', c', rfl, rfl⟩ := hj
      rw [hS] at h0
      cases h0
      exact wpAny_pure (hR ns _ s1 H' af c)
    · exfalso
      obtain ⟨ns, t', c', rfl, rfl⟩ := hj
      obtain ⟨n, rfl⟩ := yd
      obtain ⟨m', e, _⟩ := hk trivial { s1 with heap := s1.heap.update S (Obj.mapSeq fun _ => #[.int ((ns ++ [n]).sum) 0]) } _ rfl rfl (fun b u hb e => (Heap.get?_update_other _ _ (Ne.symm hb)).trans e) (Heap.get?_update_self _ hS1 rfl) (fun v q => by cases q) ⟨ns ++ [n], _, _, by simp, rfl⟩ (fun e => absurd e hSa)
      cases e
  | succ m ih =>
    intro s st hst r ⟨T, t, c, hS⟩
    refine codeAny_builtin PySem.F.entry_sum_loop ?_
    rw [Around.under_plainId PySem.F.plain_sum_loop _]
    show wpAny _ A.in1 (seqItems? (.ref S) >>= _) _ _ s
    refine wpAny_bind (wpAny_seqItems hS rfl ?_)
    show wpAny _ A.in1 (tryCatch (pyNext (.ref a)) _ >>= _) _ _ s
    refine wpAny_bind (wpAny_tryCatch (rest_next (A := A.in1) hh hd hSc (fun e => absurd e hSa) r (fun s1 H' ys o af hn h0 h1 hj c => ?_) fun v s1 H' ys y o rv af hn h0 hS1 hj yd _ hk => ?_))
    · obtain ⟨ns, t', c', rfl, rfl⟩ := hj
      rw [hS] at h0
      cases h0
      exact wpAny_pure (hR ns _ s1 H' af c)
    · obtain ⟨ns, t', c', rfl, rfl⟩ := hj
      obtain ⟨n, rfl⟩ := yd
      rw [hS] at h0
      cases h0
      obtain ⟨tn, rfl⟩ := rv
      have esum : (ns ++ [n]).sum = ns.sum + n := by simp
      have go : ∀ (s' : Shared) (c2 : Nat) (t2 : Tok) (st' : Int), (st' = 0 ∨ st' = 2) → s'.os = s1.os → s'.gens = s1.gens → (∀ b u, b ≠ S → s1.heap.get? b = some u → s'.heap.get? b = some u) → s'.heap.get? S = some { cls := .type "list", dict := none, data := .seq #[.int (ns.sum + n) t2] c2, slots := #[] } →
          codeAny (model P w) A (.builtin "sum.loop" ⟨[.ref a, .ref S, rawInt st', rawInt 0], []⟩) R s' := fun s' c2 t2 st' h1 h2 h3 h4 h5 => by
        obtain ⟨m', e, r'⟩ := hk trivial s' _ h2 h3 h4 h5 (fun v q => by cases q) ⟨ns ++ [n], t2, c2, by simp, by rw [esum]⟩ (fun e => absurd e hSa)
        cases e
        exact ih s' st' h1 r' ⟨_, _, _, h5⟩
      rcases hst with rfl | rfl
      · show wpAny _ A.in1 (if (_ : Bool) = true then (mkInt (ns.sum + n) >>= _) else _) _ _ _
        split
        · refine wpAny_bind (wpAny_mkInt ?_)
          show wpAny _ A.in1 (updateSeq S (fun _ => #[.int (ns.sum + n) s1.toks]) >>= _) _ _ _
          refine wpAny_bind ?_
          refine wpAny_updateSeq hS1 rfl (wpAny_pure ⟨plainId_quiet PySem.F.plain_sum_loop _, go _ _ s1.toks 0 (.inl rfl) rfl rfl (fun b u hb e => (Heap.get?_update_other _ _ (Ne.symm hb)).trans e) (Heap.get?_update_self _ hS1 rfl)⟩)
        · refine wpAny_bind (wpAny_rule ?_)
          refine wpAny_bind (wpAny_attempt (wpAny_holding (wpAny_add_int ?_)))
          show wpAny _ A.in1 (updateSeq S (fun _ => #[.int (ns.sum + n) s1.toks]) >>= _) _ _ _
          refine wpAny_bind (wpAny_updateSeq hS1 rfl ?_)
          have hS₂ := Heap.get?_update_self (Obj.mapSeq fun _ => #[Value.int (ns.sum + n) s1.toks]) hS1 rfl
          refine wpAny_bind (wpAny_letGo ?_)
          refine wpAny_bind (wpAny_updateSeq hS₂ rfl (wpAny_pure ⟨plainId_quiet PySem.F.plain_sum_loop _, go _ _ s1.toks 2 (.inr rfl) rfl rfl (fun b u hb e => (Heap.get?_update_other _ _ (Ne.symm hb)).trans ((Heap.get?_update_other _ _ (Ne.symm hb)).trans e)) (Heap.get?_update_self _ hS₂ rfl)⟩))
      · show wpAny _ A.in1 ((holding [Value.int n tn] (binaryOp .Add (.int ns.sum t) (.int n tn))).attempt >>= _) _ _ _
        refine wpAny_bind (wpAny_attempt (wpAny_holding (wpAny_add_int ?_)))
        show wpAny _ A.in1 (updateSeq S (fun _ => #[.int (ns.sum + n) s1.toks]) >>= _) _ _ _
        refine wpAny_bind (wpAny_updateSeq hS1 rfl ?_)
        have hS₂ := Heap.get?_update_self (Obj.mapSeq fun _ => #[Value.int (ns.sum + n) s1.toks]) hS1 rfl
        refine wpAny_bind (wpAny_letGo ?_)
        refine wpAny_bind (wpAny_updateSeq hS₂ rfl (wpAny_pure ⟨plainId_quiet PySem.F.plain_sum_loop _, go _ _ s1.toks 2 (.inr rfl) rfl rfl (fun b u hb e => (Heap.get?_update_other _ _ (Ne.symm hb)).trans ((Heap.get?_update_other _ _ (Ne.symm hb)).trans e)) (Heap.get?_update_self _ hS₂ rfl)⟩))
end
section
variable {P : Program} {w : World} {outer : List Env} {H : Hp} {sc s : Shared} {ex : List Addr} {Yd : List V → V → Hp → Prop} {Go : V → Prop} {cont : List V → Hp → Prop} {A : Around} {E : Value → Shared → Prop} {k : Nat} {u : Value}
/-- the generator at its start -/
theorem rest_start {a : Addr} {g : Nat} {c : Code} {S : Addr} {s' s2 : Shared} {B : Around} {o : Obj} {Jc : List V → Obj → Prop} (hgs : s'.gens[g]? = some (.fresh c)) (hg : s'.heap.IsGen a g) (hl : s'.heap.NoLimit)
    (wake : ∀ (A : Around) (S : Addr) (s2 : Shared) (Jc : List V → Obj → Prop) (o : Obj), Room k A → A.frames = some outer → (s'.heap.objs.size ≤ S ∨ S = a) → (S = a → ∀ ys o, Jc ys o → s'.heap.get? a = some o) → (∀ b o, s'.heap.get? b = some o → s2.heap.get? b = some o) → s2.heap.get? S = some o → (∀ v, o.data ≠ .cell v) → Jc [] o → s2.os = sc.os → AllBare s2.gens →
      Seg (model P w) A (REndG P w outer H sc ex S Jc cont) (YItemG P w outer H sc ex S a g Jc Yd Go) sizeLine s2 c ((model P w).den c) [] s2)
    (hr : Room k B) (hfr : B.frames = some outer) (hS : s'.heap.objs.size ≤ S ∨ S = a) (hJa : S = a → ∀ ys o, Jc ys o → s'.heap.get? a = some o) (hk : ∀ b o, s'.heap.get? b = some o → s2.heap.get? b = some o) (hgens : s2.gens = s'.gens) (hS0 : s2.heap.get? S = some o) (hc : ∀ v, o.data ≠ .cell v) (hj : Jc [] o) (hos : s2.os = sc.os) (hb : AllBare s2.gens) :
    Rest P w outer H sc ex S a g Jc Yd Go cont B sizeLine s2 :=
  ⟨hg.keeps hk, hl.keeps hk, .fresh c, by rw [hgens]; exact hgs, rfl, wake B S (s2.setGen g .running) Jc o hr hfr hS hJa hk hS0 hc hj hos (allBare_setGen hb rfl)⟩
theorem any_gen {Q : Value → Shared → Prop} {Rb : Bool → Hp → Prop} (hr : Room (k + 3) A) (hfr : A.frames = some outer) (h : GMadeG P w k outer H sc ex Yd Go cont u s) (hG : Go (.bl false)) (hY : ∀ ys y H', Yd ys y H' → ∃ b, y = .bl b ∧ (b = true → Rb true H')) (hC : ∀ ys H', cont ys H' → Rb false H')
    (hQ : ∀ b s' H', Aft P w outer H sc ex H' s' → Rb b H' → Q (.bool b) s') : wpAny (model P w) A (call (.builtin "any") [u]) Q E s := by
  obtain ⟨a, g, c, rfl, ha1, ha2, hg, hgs, hos, hb, hl, hkp, wake⟩ := h
  obtain ⟨go, nm, qn, hgo, hgc, hgd, hgl⟩ := id hg
  have gdc : ∀ v, go.data ≠ .cell v := fun v z => by rw [hgd] at z; cases z
  have hac : a ≠ cStatics := fun z => by
    obtain ⟨mc, hn, _⟩ := hl
    obtain ⟨o, es, n, ho, h2, _⟩ := hn
    rw [← z, hgo] at ho
    cases ho
    rw [hgd] at h2; cases h2
  refine call_function_tree PySem.F.kind_any PySem.F.plain_any PySem.F.entry_any (PySem.F.args_any1 _) ?_
  unfold Builtin.«any»
  refine wpAny_bind (m := oneArg "any" _) (wpAny_pure ?_)
  refine wpAny_bind (wpAny_pyIter_gen hg ?_)
  refine wpAny_pure ⟨plainId_quiet PySem.F.plain_any_loop _, any_loop (g := g) (Rb := Rb) hr.hd (by have := hr.dp; omega) hac hG hY hC (fun b s' H' af q => hQ b s' H' af q) gdc sizeLine s hgo ?_⟩
  refine rest_start (s' := s) (o := go) hgs hg hl wake ⟨hr.hd, ?_, ?_⟩ hfr (.inr rfl) (fun _ _ o e => by rw [e]; exact hgo) (fun _ _ e => e) rfl hgo gdc rfl hos hb
  · have := hr.dp
    show A.depth + 3 * k + 5 < _
    omega
  · have := hr.un
    show A.units + 1 + 1 + 16 * k + 200 < _
    omega
theorem all_gen {Q : Value → Shared → Prop} {Rb : Bool → Hp → Prop} (hr : Room (k + 3) A) (hfr : A.frames = some outer) (h : GMadeG P w k outer H sc ex Yd Go cont u s) (hG : Go (.bl true)) (hY : ∀ ys y H', Yd ys y H' → ∃ b, y = .bl b ∧ (b = false → Rb false H')) (hC : ∀ ys H', cont ys H' → Rb true H')
    (hQ : ∀ b s' H', Aft P w outer H sc ex H' s' → Rb b H' → Q (.bool b) s') : wpAny (model P w) A (call (.builtin "all") [u]) Q E s := by
  obtain ⟨a, g, c, rfl, ha1, ha2, hg, hgs, hos, hb, hl, hkp, wake⟩ := h
  obtain ⟨go, nm, qn, hgo, hgc, hgd, hgl⟩ := id hg
  have gdc : ∀ v, go.data ≠ .cell v := fun v z => by rw [hgd] at z; cases z
  have hac : a ≠ cStatics := fun z => by
    obtain ⟨mc, hn, _⟩ := hl
    obtain ⟨o, es, n, ho, h2, _⟩ := hn
    rw [← z, hgo] at ho
    cases ho
    rw [hgd] at h2; cases h2
  refine call_function_tree PySem.F.kind_all PySem.F.plain_all PySem.F.entry_all (PySem.F.args_all1 _) ?_
  unfold Builtin.«all»
  refine wpAny_bind (m := oneArg "all" _) (wpAny_pure ?_)
  refine wpAny_bind (wpAny_pyIter_gen hg ?_)
  refine wpAny_pure ⟨plainId_quiet PySem.F.plain_all_loop _, all_loop (g := g) (Rb := Rb) hr.hd (by have := hr.dp; omega) hac hG hY hC (fun b s' H' af q => hQ b s' H' af q) gdc sizeLine s hgo ?_⟩
  refine rest_start (s' := s) (o := go) hgs hg hl wake ⟨hr.hd, ?_, ?_⟩ hfr (.inr rfl) (fun _ _ o e => by rw [e]; exact hgo) (fun _ _ e => e) rfl hgo gdc rfl hos hb
  · have := hr.dp
    show A.depth + 3 * k + 5 < _
    omega
  · have := hr.un
    show A.units + 1 + 1 + 16 * k + 200 < _
    omega
theorem sum_gen {Q : Value → Shared → Prop} (hr : Room (k + 3) A) (hfr : A.frames = some outer) (h : GMadeG P w k outer H sc ex (fun _ y _ => ∃ n, y = .int n) (fun _ => True) cont u s)
    (hQ : ∀ (ns : List Int) (t : Tok) (s' : Shared) (H' : Hp), Aft P w outer H sc ex H' s' → cont (ns.map V.int) H' → Q (.int ns.sum t) s') : wpAny (model P w) A (call (.builtin "sum") [u]) Q E s := by
  obtain ⟨a, g, c, rfl, ha1, ha2, hg, hgs, hos, hb, hl, hkp, wake⟩ := h
  have hcl : cStatics < s.heap.objs.size := let ⟨_, hn, _⟩ := hl; hn.lt
  refine call_function_tree PySem.F.kind_sum PySem.F.plain_sum PySem.F.entry_sum (PySem.F.args_sum1 _) ?_
  unfold Builtin.«sum»
  simp only [List.length_cons, List.length_nil]
  rw [if_neg (by decide)]
  refine wpAny_bind (wpAny_of_eq (show Builtin.Builtins.bindParams "sum" ["start"] 0 { } = pure [none] from rfl) ?_)
  refine wpAny_bind (wpAny_pyIter_gen hg ?_)
  refine wpAny_bind (wpAny_mkInt ?_)
  refine wpAny_bind (wpAny_pure ?_)
  simp only [List.forIn_cons, List.forIn_nil]
  refine wpAny_bind (wpAny_bind (wpAny_bind (wpAny_isInstance (T := "int") (b := false) (typeIs_int _ _ _) PySem.sub_int_str ?_)))
  simp only [Bool.false_eq_true, if_false]
  refine wpAny_pure (wpAny_bind (wpAny_bind (wpAny_isInstance (T := "int") (b := false) (typeIs_int _ _ _) PySem.sub_int_bytes ?_)))
  simp only [Bool.false_eq_true, if_false]
  refine wpAny_pure (wpAny_bind (wpAny_bind (wpAny_isInstance (T := "int") (b := false) (typeIs_int _ _ _) PySem.sub_int_bytearray ?_)))
  simp only [Bool.false_eq_true, if_false]
  refine wpAny_pure (wpAny_pure ?_)
  refine wpAny_bind (wpAny_newObj_type ?_)
  have hS : (s.heap.push { cls := .type "list", data := .seq #[.int 0 s.toks] }).get? s.heap.objs.size = some { cls := .type "list", dict := none, data := .seq #[.int (([] : List Int).sum) s.toks] 0, slots := #[] } := Heap.get?_push_size _ rfl
  refine wpAny_pure ⟨plainId_quiet PySem.F.plain_sum_loop _, sum_loop (g := g) (sc := sc) (ex := ex) (S := s.heap.objs.size) (a := a) hr.hd (by have := hr.dp; omega) (Nat.ne_of_gt ha2) (Nat.ne_of_gt hcl) (fun ns t s' H' af q => hQ ns t s' H' af q) sizeLine _ 0 (.inl rfl) ?_ ⟨_, _, _, hS⟩⟩
  refine rest_start (s' := s) (o := _) hgs hg hl wake ⟨hr.hd, ?_, ?_⟩ hfr (.inl (Nat.le_refl _)) (fun e => absurd e (Nat.ne_of_gt ha2)) (fun b o e => Heap.get?_push_of_some _ e) rfl hS (fun v q => by cases q) ⟨[], _, _, rfl, rfl⟩ hos hb
  · have := hr.dp
    show A.depth + 3 * k + 5 < _
    omega
  · have := hr.un
    show A.units + 1 + 1 + 16 * k + 200 < _
    omega
end
section
variable {X : Cx} {k : Nat} {P c : Addr} {elt tg iter : Expr} {ifs : List Expr} {scope : Scope} {own : List (Str × Nat)} {wi : TI} {g : TG} {tt : TT} {te : TE} {gpos pos p : Pos}
theorem pe_anyG {nm : Str} (h : GxH X k P c elt tg iter ifs scope own wi g tt te) (hg : Gl X nm) (hm : X.mg nm = none) (hv : bootBuiltins nm = some (.builtin "any")) (hnm : nm ≠ "__name__") (hdb : (nm == ("__debug__" : Str)) = false) :
    PE X (.Call (.Name nm p) [.GeneratorExp elt [⟨tg, iter, ifs, 0⟩] scope gpos] [] pos) (fun σ H Q => tGx P wi g tt te (own.map (·.2)) σ H (fun _ y H' => ∃ b, y = .bl b ∧ (b = true → Q (.bl true) H')) (fun y => y = .bl false) (fun _ H' => Q (.bl false) H')) := by
  refine ⟨fun pins s σ H Q I q => ?_⟩
  refine wpAny_Call_Name_kw (ld_blt I hg hm hv ?_ hnm hdb)
  refine PyProof.Rows.callWith_builtin1 ?_ gx_star rfl
  rw [gx_star]
  show wpAny _ _ (spliced ((false, eval (.GeneratorExp elt [⟨tg, iter, ifs, 0⟩] scope gpos) X.env) :: backTo pos (starEach [] X.env))) _ _ s
  refine Calls.spliced_cons (thn (gx_evalG h I q) fun u s1 ⟨H2, sc, fp, I2, hex, M⟩ => ?_)
  refine Calls.spliced_nil ?_
  exact any_gen (k := k + 1) (Rb := fun b H' => Q (.bl b) H') (h.room.mono (by omega)) I2.ok.frames M rfl (fun _ _ _ y => y) (fun _ _ q => q) fun b s' H' ⟨e1, e2, e3, e4⟩ q => ⟨.bl b, H', I2.afterG hex e1 e2 e3 e4, rfl, q⟩
theorem pe_allG {nm : Str} (h : GxH X k P c elt tg iter ifs scope own wi g tt te) (hg : Gl X nm) (hm : X.mg nm = none) (hv : bootBuiltins nm = some (.builtin "all")) (hnm : nm ≠ "__name__") (hdb : (nm == ("__debug__" : Str)) = false) :
    PE X (.Call (.Name nm p) [.GeneratorExp elt [⟨tg, iter, ifs, 0⟩] scope gpos] [] pos) (fun σ H Q => tGx P wi g tt te (own.map (·.2)) σ H (fun _ y H' => ∃ b, y = .bl b ∧ (b = false → Q (.bl false) H')) (fun y => y = .bl true) (fun _ H' => Q (.bl true) H')) := by
  refine ⟨fun pins s σ H Q I q => ?_⟩
  refine wpAny_Call_Name_kw (ld_blt I hg hm hv ?_ hnm hdb)
  refine PyProof.Rows.callWith_builtin1 ?_ gx_star rfl
  rw [gx_star]
  show wpAny _ _ (spliced ((false, eval (.GeneratorExp elt [⟨tg, iter, ifs, 0⟩] scope gpos) X.env) :: backTo pos (starEach [] X.env))) _ _ s
  refine Calls.spliced_cons (thn (gx_evalG h I q) fun u s1 ⟨H2, sc, fp, I2, hex, M⟩ => ?_)
  refine Calls.spliced_nil ?_
  exact all_gen (k := k + 1) (Rb := fun b H' => Q (.bl b) H') (h.room.mono (by omega)) I2.ok.frames M rfl (fun _ _ _ y => y) (fun _ _ q => q) fun b s' H' ⟨e1, e2, e3, e4⟩ q => ⟨.bl b, H', I2.afterG hex e1 e2 e3 e4, rfl, q⟩
theorem pe_sumG {nm : Str} (h : GxH X k P c elt tg iter ifs scope own wi g tt te) (hg : Gl X nm) (hm : X.mg nm = none) (hv : bootBuiltins nm = some (.builtin "sum")) (hnm : nm ≠ "__name__") (hdb : (nm == ("__debug__" : Str)) = false) :
    PE X (.Call (.Name nm p) [.GeneratorExp elt [⟨tg, iter, ifs, 0⟩] scope gpos] [] pos) (fun σ H Q => tGx P wi g tt te (own.map (·.2)) σ H (fun _ y _ => ∃ n, y = .int n) (fun _ => True) (fun ys H' => ∀ ns : List Int, ys = ns.map V.int → Q (.int ns.sum) H')) := by
  refine ⟨fun pins s σ H Q I q => ?_⟩
  refine wpAny_Call_Name_kw (ld_blt I hg hm hv ?_ hnm hdb)
  refine PyProof.Rows.callWith_builtin1 ?_ gx_star rfl
  rw [gx_star]
  show wpAny _ _ (spliced ((false, eval (.GeneratorExp elt [⟨tg, iter, ifs, 0⟩] scope gpos) X.env) :: backTo pos (starEach [] X.env))) _ _ s
  refine Calls.spliced_cons (thn (gx_evalG h I q) fun u s1 ⟨H2, sc, fp, I2, hex, M⟩ => ?_)
  refine Calls.spliced_nil ?_
  exact sum_gen (k := k + 1) (h.room.mono (by omega)) I2.ok.frames M fun ns t s' H' ⟨e1, e2, e3, e4⟩ q => ⟨.int ns.sum, H', I2.afterG hex e1 e2 e3 e4, ⟨t, rfl⟩, q ns rfl⟩
end
end Gx

end
section
set_option Elab.async false
set_option linter.all false
set_option maxRecDepth 100000
set_option maxHeartbeats 1000000
/-! Mz, part A: enumerate over a tuple, a text, the keys of a dict. -/
namespace Mz
open PySem PySem.Spec PyProof.Rows L2

/-- enumerate(v), v told by how its iterator begins -/
theorem meets_enum1 {v : Value} {o : Obj} {Hh : Heap → Prop} (B : Begins v o Hh) :
    Meets (Builtin.«enumerate.__new__» ⟨[.type "enumerate", v], []⟩) (fun _ R s => Hh s.heap ∧
      R (.ok (.ret (.ref (s.heap.push o).objs.size))) { s with heap := (s.heap.push o).push { cls := .type "enumerate", data := .fields #[.none, .bool false, .ref s.heap.objs.size, rawInt 0, .none, .none] } }) :=
  .of_wp fun prog w A R s h => by
    obtain ⟨hp, g, d, tk, os⟩ := s
    obtain ⟨h1, h⟩ := h
    have hsub := sub_enumerate
    have q1 : ∀ {A' : Around} {E : Value → Shared → Prop} {Q : Value → Shared → Prop}, Q (.ref hp.objs.size) ⟨hp.push o, g, d, tk, os⟩ → wpAny (model prog w) A' (pyIter v) Q E ⟨hp, g, d, tk, os⟩ :=
      fun q => B.iter prog w _ _ ⟨hp, g, d, tk, os⟩ _ h1 q
    wp_walk using q1
    refine wpAny_stack_any fun st => wpAny_pure ?_
    split
    · rename_i c _ _ _ _ _
      cases (c == Value.type "enumerate") <;> (wp_walk using q1; exact ⟨_, rfl, h⟩)
    · wp_walk using q1
      exact ⟨_, rfl, h⟩
section
variable {prog : Program} {w : World} {A : Around} {E : Value → Shared → Prop} {s : Shared}
theorem call_enum1 {v : Value} {o : Obj} {Hh : Heap → Prop} {Q : Value → Shared → Prop} (B : Begins v o Hh) (h1 : Hh s.heap)
    (h : ∀ h', IsEnum h' (s.heap.objs.size + 1) s.heap.objs.size 0 .none → h'.get? s.heap.objs.size = some o → (∀ b u, s.heap.get? b = some u → h'.get? b = some u) → Q (.ref (s.heap.objs.size + 1)) { s with heap := h' }) :
    wpAny (model prog w) A (call (.type "enumerate") [v]) Q E s := by
  have z1 : (s.heap.push o).objs.size = s.heap.objs.size + 1 := by rw [Heap.size_push]
  refine callType_new PySem.F.called_enumerate (by decide) (PySem.F.typeCall_enumerate_1 _) (PySem.F.newCall_enumerate_1 _) (fun obj => PySem.F.args_object_init_2 obj _) PySem.F.entry_enumerate_new (meets_enum1 B) ⟨h1, ?_⟩
  have he : IsEnum ((s.heap.push o).push { cls := .type "enumerate", data := .fields #[.none, .bool false, .ref s.heap.objs.size, rawInt 0, .none, .none] }) (s.heap.objs.size + 1) s.heap.objs.size 0 .none := by
    have := Heap.get?_push_size (s.heap.push o) (o := { cls := .type "enumerate", data := .fields #[.none, .bool false, .ref s.heap.objs.size, rawInt 0, .none, .none] }) rfl
    rw [z1] at this
    exact this
  show _ ∧ _
  rw [z1]
  exact ⟨⟨_, he, rfl⟩, h _ he (Heap.get?_push_of_some _ (Heap.get?_push_size _ B.free)) fun b u x => Heap.get?_push_of_some _ (Heap.get?_push_of_some _ x)⟩
end
/-- where what is walked is told by G -/
def IteG (G : Hp → List V → Prop) : It :=
  ⟨fun i H => ∃ (xs : List V) (x : V), G H xs ∧ xs[i]? = some x, fun i H v H' => ∃ T x, v = .ref T ∧ H T = none ∧ H' = upd H T (.tup [.int (i : Nat), x]) ∧ ∀ xs, G H xs → xs[i]? = some x, fun i H => ∃ xs : List V, G H xs ∧ xs.length = i⟩
structure Src (K : PySem.W.Frag) (P : Program) (w : World) (G : Hp → List V → Prop) (AtI : Nat → Heap → Prop) (e it : Addr) : Prop where
  ne : e ≠ it
  inj : ∀ (X : Cx) (pins : List (Addr × Obj)) (s : Shared) (σ : L2.St) (H : Hp) (xs ys : List V), X.K = K → Inv X pins σ H s → G H xs → G H ys → xs = ys
  draws : ∀ (X : Cx) (pins : List (Addr × Obj)) (s : Shared) (σ : L2.St) (H : Hp) (xs : List V), X.prog = P → X.w = w → X.K = K → Inv X pins σ H s → G H xs → ∃ its : List Value, Vals xs its ∧ ∀ A : Around, A.handled = none → ∃ (fpd : List Addr) (St : Nat → Heap → Prop),
    Draws P w A it fpd its.length (fun i v => ∃ u, its[i]? = some u ∧ ∀ y, RelV y u → RelV y v) St ∧ e ∉ fpd ∧ (∀ i, AtI i s.heap → St i s.heap) ∧ ∀ i h, St i h → AtI i h
  live : ∀ i h, AtI i h → ∃ o, h.get? it = some o ∧ ∀ v, o.data ≠ .cell v
  keep : ∀ i h h', AtI i h → (∀ o, h.get? it = some o → h'.get? it = some o) → AtI i h'
theorem turn_enumG {P : Program} {w : World} {K : PySem.W.Frag} {elts : List Expr} {kk : Nat} {tpos : Pos} {G : Hp → List V → Prop} {AtI : Nat → Heap → Prop} {e it : Addr} (S : Src K P w G AtI e it) :
    Turn P w K (.Tuple elts kk tpos) (IteG G) [e, it] e (fun i h => (∃ old, IsEnum h e it ((i : Nat) : Int) old) ∧ AtI i h) where
  mem := List.mem_cons_self
  obj := fun i h ⟨⟨old, he⟩, ha⟩ b hb => by
    rcases List.mem_cons.mp hb with rfl | hb
    · exact ⟨_, he, fun v q => nomatch q⟩
    · rw [List.mem_singleton.mp hb]; exact S.live i h ha
  keep := fun i h h' ⟨⟨old, he⟩, ha⟩ k => ⟨⟨old, k e List.mem_cons_self _ he⟩, S.keep i h h' ha fun o q => k it (List.mem_cons_of_mem _ List.mem_cons_self) o q⟩
  item := by
    intro X hP hw hK hc i pins s σ H E I hf st hg
    obtain ⟨⟨old, he⟩, ha⟩ := st
    obtain ⟨xs, x, hq, hx⟩ := hg
    obtain ⟨its, rv, hD⟩ := S.draws X pins s σ H xs hP hw hK I hq
    obtain ⟨fpd, St, D, hfe, h1, h2⟩ := hD X.A.in1 (I.ok.hd hc)
    obtain ⟨u, hu, ru⟩ := rv.get hx
    have hel : e < s.heap.objs.size := Heap.lt_size he
    have hil : it < s.heap.objs.size := let ⟨_, q, _⟩ := S.live i _ ha; Heap.lt_size q
    have hlt : i < its.length := (List.getElem?_eq_some_iff.mp hu).1
    subst hP hw
    refine wpAny_pyNext_enum_itemD D he (h1 i ha) hlt S.ne hfe fun v h' tk hv ho st' hT hsz hk => ⟨_, rfl, wpAny_letOwnedTupleGo_enum (s := { s with heap := h', toks := tk + 1 }) ho fun h'' he' sb => ?_⟩
    obtain ⟨u', hu', hr⟩ := hv
    rw [hu] at hu'
    cases hu'
    have hT2 : h''.get? s.heap.objs.size = some { cls := .type "tuple", data := .seq #[.int i tk, v] } := (sb.2 _ (Nat.ne_of_gt hel)).trans hT
    have I1 : Inv X pins σ (upd H s.heap.objs.size (.tup [.int (i : Nat), x])) { s with heap := h'', toks := tk + 1 } :=
      I.turnedNew (ch := [e, it]) (fun b ob hb q => (sb.2 b (fun z => hb (by simp [z]))).trans (hk b ob (fun z => hb (by simp [z])) (fun z => hb (by simp [z])) q)) hf (Nat.le_refl _)
        ⟨by show 2 ≤ sizeLine; decide, [.int i tk, v], .cons ⟨_, rfl⟩ (.cons (hr _ ru) .nil), ⟨_, hT2, rfl, _, rfl⟩⟩
    refine ⟨.ref s.heap.objs.size, _, I1, rfl, ⟨_, x, rfl, I.hok.fresh (Nat.le_refl _), rfl, fun ys hy => by rw [S.inj X pins s σ H ys xs hK I hy hq]; exact hx⟩, ⟨⟨v, ?_⟩, S.keep _ _ _ (h2 _ _ st') fun o q => (sb.2 it (Ne.symm S.ne)).trans q⟩, fun b hb => ?_⟩
    · have e1 : ((i + 1 : Nat) : Int) = (i : Int) + 1 := by omega
      rw [e1]; exact he'
    · have hb' : b < s.heap.objs.size := by
        rcases List.mem_cons.mp hb with z | z
        · rw [z]; exact hel
        · rw [List.mem_singleton.mp z]; exact hil
      rw [upd_ne (Nat.ne_of_lt hb')]
      exact (hf b hb).1
  done := by
    intro X hP hw hK hc i pins s σ H E I hf st hg
    obtain ⟨⟨old, he⟩, ha⟩ := st
    obtain ⟨xs, hq, hx⟩ := hg
    obtain ⟨its, rv, hD⟩ := S.draws X pins s σ H xs hP hw hK I hq
    obtain ⟨fpd, St, D, hfe, h1, h2⟩ := hD X.A.in1 (I.ok.hd hc)
    have hl : its.length = i := by rw [← rv.length]; exact hx
    subst hP hw
    refine wpAny_pyNext_enum_endD D he (by rw [hl]; exact h1 i ha) fun h' eb => ⟨rfl, ?_⟩
    obtain ⟨f0, f1, f2, f3, f4, f5⟩ := hf it (List.mem_cons_of_mem _ List.mem_cons_self)
    exact I.turned (t' := s.toks) (fun b o hb q => eb b o hb q) f0 f1 f3 f4 f5
  self := fun A i s Q E st h => let ⟨⟨_, he⟩, _⟩ := st; wpAny_pyIter_enum he h
/-- a walk over it -/
theorem walk_enumG {G : Hp → List V → Prop} {xs : List V} : Walk (IteG G) xs.length (fun H => G H xs) (YPair (fun i => some (.int (i : Nat))) (fun i => xs[i]?)) := by
  refine ⟨fun i _ hi q => ⟨xs, xs[i], q, by simp [hi]⟩, fun _ q => ⟨xs, q, rfl⟩, fun i H v H' _ q y => ?_⟩
  obtain ⟨T, x, h1, h2, h3, h4⟩ := y
  exact ⟨T, .int (i : Nat), x, h1, h2, h3, rfl, h4 xs q⟩

theorem src_tup {P : Program} {w : World} {K : PySem.W.Frag} {a e it : Addr} (hne : e ≠ it) (hea : e ≠ a) (hai : a ≠ it) : Src K P w (fun H xs => SqT K H a xs) (fun i h => h.IsTupleIter it a i) e it where
  ne := hne
  inj := fun X pins s σ H xs ys hK I h1 h2 => by subst hK; exact I.tuple_inj h1 h2
  draws := fun X pins s σ H xs hP hw hK I h => by
    subst hP hw hK
    obtain ⟨its, rv, p, hz⟩ := I.tuple h
    refine ⟨its, rv, fun A hA => ?_⟩
    have D := Draws.tuple (prog := X.prog) (w := X.w) (A := A) hA it a hai its.toArray
    refine ⟨[it, a], fun i h => h.IsTupleIter it a i ∧ h.IsTuple a its.toArray, ⟨D.live, D.frame, fun i s Q E hi st hQ => D.item i s Q E (by simpa using hi) st fun x h' tk hx st' sb => hQ x h' tk ⟨x, by simpa using hx, fun _ q => q⟩ st' sb, fun s Q E st hE => D.done s Q E (by simpa using st) hE⟩, ?_, fun i ha => ⟨ha, p⟩, fun i h st => st.1⟩
    intro z
    rcases List.mem_cons.mp z with z | z
    · exact hne z
    · exact hea (List.mem_singleton.mp z)
  live := fun i h ⟨o, ho, _, hd⟩ => ⟨o, ho, fun v z => by rw [hd] at z; cases z⟩
  keep := fun i h h' st k => st.at fun o q => k o q
section
variable {X : Cx} {e : Expr} {ta : TA} {p pos tpos : Pos} {elts : List Expr} {kk : Nat}
/-- enumerate of a list, of a tuple -/
def iEnumA (K : PySem.W.Frag) (ta : TA) : TI := fun σ H R => ta σ H fun vs H1 => ∃ a xs, vs = [.ref a] ∧ ((SqL K H1 a xs ∧ R (Ite K a) H1) ∨ (SqT K H1 a xs ∧ R (IteG fun H ys => SqT K H a ys) H1))
theorem pi_enumA (hg : Gl X "enumerate") (hm : X.mg "enumerate" = none) (ha : PA X [e] ta) (hs : starEach [e] X.env = [(false, eval e X.env)]) :
    PI X (.Tuple elts kk tpos) (.Call (.Name "enumerate" p) [e] [] pos) (iEnumA X.K ta) := by
  refine ⟨fun pins s σ H R I h => ?_⟩
  refine Call_ (ld_blt I hg hm boot_enumerate (PyProof.Rows.callWith_type1 (thn (ha.run pos pins s σ H _ I h) fun us s1 ⟨vs, H1, I1, r1, q1⟩ => ?_) hs rfl))
  obtain ⟨a, xs, rfl, q⟩ := q1
  cases r1 with
  | cons r rr =>
    cases rr
    cases r
    have fresh : ∀ b ∈ [s1.heap.objs.size + 1, s1.heap.objs.size], FpOk X pins H1 b := fun b hb => by
      have hle : s1.heap.objs.size ≤ b := by
        rcases List.mem_cons.mp hb with z | z
        · rw [z]; exact Nat.le_succ _
        · rw [List.mem_singleton.mp z]; exact Nat.le_refl _
      exact I1.fpOk hle (I1.hok.fresh hle)
    rcases q with ⟨hq, q⟩ | ⟨hq, q⟩
    · obtain ⟨its, rv, p', hz⟩ := I1.list hq
      refine call_enumerate_list p'.isList fun h' he hit hsz hk => wpAny_pyIter_enum he ?_
      exact ⟨s1.heap.objs.size + 1, [s1.heap.objs.size + 1, s1.heap.objs.size], _, _, H1, rfl, I1.kept (t' := s1.toks) hk, turn_enum a (s1.heap.objs.size + 1) s1.heap.objs.size, ⟨⟨.none, he⟩, hit, Nat.succ_ne_self _⟩, fresh, q⟩
    · obtain ⟨its, rv, p', hz⟩ := I1.tuple hq
      have hlt : a < s1.heap.objs.size := let ⟨_, y, _⟩ := id p'; Heap.lt_size y
      refine call_enum1 (begins_tuple a its.toArray) (show s1.heap.IsTuple a its.toArray from p') fun h' he hit hk => wpAny_pyIter_enum he ?_
      exact ⟨s1.heap.objs.size + 1, [s1.heap.objs.size + 1, s1.heap.objs.size], _, _, H1, rfl, I1.kept (t' := s1.toks) hk, turn_enumG (src_tup (Nat.succ_ne_self _) (Nat.ne_of_gt (Nat.lt_succ_of_lt hlt)) (Nat.ne_of_lt hlt)), ⟨⟨.none, he⟩, ⟨_, hit, rfl, rfl⟩⟩, fresh, q⟩
end
end Mz

end
section
set_option Elab.async false
set_option linter.all false
set_option maxRecDepth 100000
set_option maxHeartbeats 1000000
/-! Mz, part B: sorted, min, max of data. -/
namespace Mz
open PySem PySem.Spec PyProof.Rows L2 Gx

section
variable {X : Cx}
/-- sorted of a list, of a dict's keys -/
def rSortA (K : PySem.W.Frag) : List V → Hp → VK → Prop := fun vs H Q => ∃ a, vs = [.ref a] ∧ ((∃ xs, SqL K H a xs ∧ SortOk K Q xs H) ∨ ∃ kvs : List (Key × V), Rd H a (.dK kvs) ∧ SortOk K Q (kvs.map fun kv => kV kv.1) H)
theorem cr_sortA (hcalm : X.calm = true) (hu : X.A.units + 70 < cLine) : CallR X (.builtin "sorted") (rSortA X.K) := by
  intro pins s σ H vs us Q I r h
  obtain ⟨a, rfl, h⟩ := h
  obtain ⟨u, rfl, ru⟩ := vals1 r
  obtain rfl : u = Value.ref a := ru
  rcases h with ⟨xs, hs, q⟩ | ⟨kvs, hd, q⟩
  · obtain ⟨its, rv, p, hz⟩ := I.list hs
    refine sorted_col (Q := Q) hu fun {Q' E} k => ?_
    refine collect_list p.isList (k its _ H xs (I.kept (t' := s.toks) fun b o e => ?_) rv hz q) (by rw [← rv.length]; exact hz)
    have hb : b ≠ s.heap.objs.size := Nat.ne_of_lt (Heap.lt_size e)
    exact (Heap.get?_update_other _ _ (Ne.symm hb)).trans (Heap.get?_push_of_some _ e)
  · obtain ⟨z, lo, vs', rel, dd⟩ := dk_rd I.hok hd
    obtain ⟨ep, hat⟩ := dd.dictAt
    have hl : kvs.length = vs'.length := Paired.length rel
    refine sorted_col (Q := Q) hu fun {Q' E} k => ?_
    refine PySem.W.kdu_collect (A := X.A.in1) (PySem.W.kdl_dict (knd := mixKind X.prog X.w) (kvs := vs') (ep := ep) lo) (I.ok.hd hcalm) hat (by rw [← hl]; exact z) fun h' tk acc hk hacc => ?_
    have ek : (kvs.map fun kv => kV kv.1) = vs'.map fun p => kV p.1 := by
      have e1 : (kvs.map fun kv => kV kv.1) = (kvs.map (·.1)).map kV := by rw [List.map_map]; rfl
      rw [e1, KV.keys rel, List.map_map]; rfl
    refine k acc.toList _ H _ (I.kept (t' := tk) hk) ?_ (by rw [List.length_map]; exact z) q
    rw [ek]
    exact keys_at (by simp [hacc.1]) fun j v e => by
      obtain ⟨key, x, e1, e2⟩ := hacc.2 j v (by rw [← Array.getElem?_toList]; exact e)
      exact ⟨key, x, e1, e2⟩

/-! ### min, max of a list, of a tuple -/

theorem minD_mem (x : PyData) (xs : List PyData) : PySem.W.minD x xs ∈ x :: xs := by
  have key : ∀ (xs : List PyData) (x : PyData), PySem.W.minD x xs = x ∨ PySem.W.minD x xs ∈ xs := by
    intro xs
    induction xs with
    | nil => intro x; exact .inl rfl
    | cons y r ih =>
      intro x
      have e : PySem.W.minD x (y :: r) = PySem.W.minD (if PySem.W.dataLt y x then y else x) r := rfl
      rw [e]
      rcases ih (if PySem.W.dataLt y x then y else x) with h | h
      · rw [h]
        split
        · exact .inr List.mem_cons_self
        · exact .inl rfl
      · exact .inr (List.mem_cons_of_mem _ h)
  rcases key xs x with h | h
  · rw [h]; exact List.mem_cons_self
  · exact List.mem_cons_of_mem _ h
def rMinA (K : PySem.W.Frag) : List V → Hp → VK → Prop := fun vs H Q => ∃ a xs d ds, vs = [.ref a] ∧ (SqL K H a xs ∨ SqT K H a xs) ∧ DpAll K H xs (d :: ds) ∧ PySem.W.AlikeAll (d :: ds) ∧ PyData.depthAll (d :: ds) ≤ 60 ∧ ∀ (i : Nat) (v : V), xs[i]? = some v → (d :: ds)[i]? = some (PySem.W.minD d ds) → Q v H
theorem cr_minA (hcalm : X.calm = true) (hu : X.A.units + 70 < cLine) : CallR X (.builtin "min") (rMinA X.K) := by
  intro pins s σ H vs us Q I r h
  obtain ⟨a, xs, d, ds, rfl, hs, hd, al, dp, q⟩ := h
  obtain ⟨u, rfl, ru⟩ := vals1 r
  obtain rfl : u = Value.ref a := ru
  have fin : ∀ (its : List Value), Vals xs its → ∀ (i : Nat) (v : Value) (h' : Heap) (tk : Nat) (bs : List Addr), its.toArray[i]? = some v → Reads h' v (PySem.W.minD d ds) bs → (∀ b o, s.heap.get? b = some o → h'.get? b = some o) → EP X pins σ Q v { s with heap := h', toks := tk } := by
    intro its rv i v h' tk bs hv rd hk
    have hv' : its[i]? = some v := by simpa using hv
    obtain ⟨y, hy, ry⟩ : ∃ y, xs[i]? = some y ∧ RelV y v := by
      have hl : i < xs.length := by rw [rv.length]; exact (List.getElem?_eq_some_iff.mp hv').1
      obtain ⟨w, hw, rw'⟩ := rv.get (List.getElem?_eq_getElem hl)
      rw [hv'] at hw
      cases hw
      exact ⟨_, List.getElem?_eq_getElem hl, rw'⟩
    obtain ⟨e, he, hde⟩ : ∃ e, (d :: ds)[i]? = some e ∧ Dp X.K H y e := by
      have key : ∀ (xs : List V) (es : List PyData) (i : Nat) (y : V), DpAll X.K H xs es → xs[i]? = some y → ∃ e, es[i]? = some e ∧ Dp X.K H y e := by
        intro xs
        induction xs with
        | nil => intro es i y _ e; simp at e
        | cons x xs ih =>
          intro es i y h e
          cases h with
          | cons h1 h2 =>
            cases i with
            | zero => simp at e; subst e; exact ⟨_, rfl, h1⟩
            | succ i => exact ih _ i y h2 (by simpa using e)
      exact key _ _ i y hd hy
    obtain ⟨as, ra⟩ := Dp.reads I e y v hde ry
    have ra' := PyProof.Rows.Reads.keeps hk ra
    have hm : e ∈ d :: ds := List.mem_of_getElem? he
    have eq := PySem.W.alike_unique _ _ _ _ _ (al.1 _ (minD_mem d ds) _ hm) rd ra'
    exact ⟨y, H, I.kept (t' := tk) hk, ry, q i y hy (by rw [he, eq])⟩
  rcases hs with hs | hs
  · obtain ⟨its, rv, p, hz⟩ := I.list hs
    obtain ⟨as, ra⟩ := Dp.readsAll I _ _ _ hd rv
    exact PySem.W.min_list_data (as := as) (I.ok.hd hcalm) p.isList (by simpa using ra) al (by omega) fun i v h' tk bs => fin its rv i v h' tk bs
  · obtain ⟨its, rv, p, hz⟩ := I.tuple hs
    obtain ⟨as, ra⟩ := Dp.readsAll I _ _ _ hd rv
    exact PySem.W.min_tuple_data (as := as) (I.ok.hd hcalm) (show s.heap.IsTuple a its.toArray from p) (by simpa using ra) al (by omega) fun i v h' tk bs => fin its rv i v h' tk bs

theorem maxD_mem (x : PyData) (xs : List PyData) : PySem.W.maxD x xs ∈ x :: xs := by
  have key : ∀ (xs : List PyData) (x : PyData), PySem.W.maxD x xs = x ∨ PySem.W.maxD x xs ∈ xs := by
    intro xs
    induction xs with
    | nil => intro x; exact .inl rfl
    | cons y r ih =>
      intro x
      have e : PySem.W.maxD x (y :: r) = PySem.W.maxD (if PySem.W.dataLt x y then y else x) r := rfl
      rw [e]
      rcases ih (if PySem.W.dataLt x y then y else x) with h | h
      · rw [h]
        split
        · exact .inr List.mem_cons_self
        · exact .inl rfl
      · exact .inr (List.mem_cons_of_mem _ h)
  rcases key xs x with h | h
  · rw [h]; exact List.mem_cons_self
  · exact List.mem_cons_of_mem _ h
def rMaxA (K : PySem.W.Frag) : List V → Hp → VK → Prop := fun vs H Q => ∃ a xs d ds, vs = [.ref a] ∧ (SqL K H a xs ∨ SqT K H a xs) ∧ DpAll K H xs (d :: ds) ∧ PySem.W.AlikeAll (d :: ds) ∧ PyData.depthAll (d :: ds) ≤ 60 ∧ ∀ (i : Nat) (v : V), xs[i]? = some v → (d :: ds)[i]? = some (PySem.W.maxD d ds) → Q v H
theorem cr_maxA (hcalm : X.calm = true) (hu : X.A.units + 70 < cLine) : CallR X (.builtin "max") (rMaxA X.K) := by
  intro pins s σ H vs us Q I r h
  obtain ⟨a, xs, d, ds, rfl, hs, hd, al, dp, q⟩ := h
  obtain ⟨u, rfl, ru⟩ := vals1 r
  obtain rfl : u = Value.ref a := ru
  have fin : ∀ (its : List Value), Vals xs its → ∀ (i : Nat) (v : Value) (h' : Heap) (tk : Nat) (bs : List Addr), its.toArray[i]? = some v → Reads h' v (PySem.W.maxD d ds) bs → (∀ b o, s.heap.get? b = some o → h'.get? b = some o) → EP X pins σ Q v { s with heap := h', toks := tk } := by
    intro its rv i v h' tk bs hv rd hk
    have hv' : its[i]? = some v := by simpa using hv
    obtain ⟨y, hy, ry⟩ : ∃ y, xs[i]? = some y ∧ RelV y v := by
      have hl : i < xs.length := by rw [rv.length]; exact (List.getElem?_eq_some_iff.mp hv').1
      obtain ⟨w, hw, rw'⟩ := rv.get (List.getElem?_eq_getElem hl)
      rw [hv'] at hw
      cases hw
      exact ⟨_, List.getElem?_eq_getElem hl, rw'⟩
    obtain ⟨e, he, hde⟩ : ∃ e, (d :: ds)[i]? = some e ∧ Dp X.K H y e := by
      have key : ∀ (xs : List V) (es : List PyData) (i : Nat) (y : V), DpAll X.K H xs es → xs[i]? = some y → ∃ e, es[i]? = some e ∧ Dp X.K H y e := by
        intro xs
        induction xs with
        | nil => intro es i y _ e; simp at e
        | cons x xs ih =>
          intro es i y h e
          cases h with
          | cons h1 h2 =>
            cases i with
            | zero => simp at e; subst e; exact ⟨_, rfl, h1⟩
            | succ i => exact ih _ i y h2 (by simpa using e)
      exact key _ _ i y hd hy
    obtain ⟨as, ra⟩ := Dp.reads I e y v hde ry
    have ra' := PyProof.Rows.Reads.keeps hk ra
    have hm : e ∈ d :: ds := List.mem_of_getElem? he
    have eq := PySem.W.alike_unique _ _ _ _ _ (al.1 _ (maxD_mem d ds) _ hm) rd ra'
    exact ⟨y, H, I.kept (t' := tk) hk, ry, q i y hy (by rw [he, eq])⟩
  rcases hs with hs | hs
  · obtain ⟨its, rv, p, hz⟩ := I.list hs
    obtain ⟨as, ra⟩ := Dp.readsAll I _ _ _ hd rv
    exact PySem.W.max_list_data (as := as) (I.ok.hd hcalm) p.isList (by simpa using ra) al (by omega) fun i v h' tk bs => fin its rv i v h' tk bs
  · obtain ⟨its, rv, p, hz⟩ := I.tuple hs
    obtain ⟨as, ra⟩ := Dp.readsAll I _ _ _ hd rv
    exact PySem.W.max_tuple_data (as := as) (I.ok.hd hcalm) (show s.heap.IsTuple a its.toArray from p) (by simpa using ra) al (by omega) fun i v h' tk bs => fin its rv i v h' tk bs
end
end Mz

end
section
set_option Elab.async false
set_option linter.all false
set_option maxRecDepth 100000
set_option maxHeartbeats 1000000
/-! Mz, part C: d.update(d2). -/
namespace Mz
open PySem PySem.Spec PyProof.Rows L2
section
variable {X : Cx}
def rUpdD : V → List V → Hp → VK → Prop := fun x vs H Q => ∃ (d o : Addr) (ks ls : List (Key × V)), x = .ref d ∧ vs = [.ref o] ∧ d ≠ o ∧ H d = some (.dK ks) ∧ Rd H o (.dK ls) ∧ ks.length + ls.length ≤ sizeLine ∧ Q .non (upd H d (.dK (mergeK ks ls)))
theorem mt_updD : MtR X "dict.update" rUpdD := by
  intro pins s σ H x vs v us Q I rx rv h
  obtain ⟨d, o, ks, ls, rfl, rfl, hne, hd, ho, hz, q⟩ := h
  obtain rfl : v = Value.ref d := rx
  obtain ⟨u, rfl, ru⟩ := vals1 rv
  obtain rfl : u = Value.ref o := ru
  obtain ⟨z1, lo1, vs1, r1, d1⟩ := dk_of I.hok hd
  obtain ⟨z2, lo2, vs2, r2, d2⟩ := dk_rd I.hok ho
  have hz' : vs1.length + vs2.length ≤ sizeLine := by rw [← r1.length, ← r2.length]; exact hz
  have hl : (mergeK ks ls).length ≤ sizeLine := Nat.le_trans (length_mergeK ls ks) hz
  refine call_meetsIn PySem.F.slot_dict_update d1.typeIs PySem.F.entry_dict_update (PySem.F.args_dict_update_2 _ _) (PySem.meets_dict_update (mixKind X.prog X.w) d o hne lo2) ⟨vs1, vs2, d1, d2, hz', fun h' e1 e2 sb => ?_⟩
  have he : ∃ u, h'.get? d = some u := let ⟨u, _, _, hu, _⟩ := e1; ⟨u, hu⟩
  exact ⟨.non, _, d_write I (by rw [hd]; exact True.intro) sb he (dk_new hl lo1 (KV.merge r2 r1) e1), rfl, q⟩
end
end Mz

end
section
set_option Elab.async false
set_option linter.all false
set_option maxRecDepth 100000
/-! Dy, part A: tree values, the store, what stands for what in the abstract heap, how a heap may go on. -/
namespace Dy
open PySem PySem.Spec PyProof.Rows L2

/-- values: trees; ref: an object with identity, in the store -/
inductive Wv where
  | non | bl (b : Bool) | int (i : Int) | str (s : Str)
  | tup (xs : List Wv) | lst (xs : List Wv) | dct (kvs : List (Key × Wv))
  | ref (i : Nat)
  | arg (ns : List Int)
/-- objects of the store -/
inductive SO where
  | lst (xs : List Wv) | dct (kvs : List (Key × Wv)) | ins (C : Str) (fs : List (Str × Wv)) | lam (k : Nat)
abbrev Io := Nat → Option Addr
abbrev Sto := List SO
abbrev Sl := List (Option Wv)

/-- p is none of the store's objects, and none of those set aside -/
def Free (ι : Io) (Y : Addr → Prop) (p : Addr) : Prop := ¬ Y p ∧ ∀ i, ι i ≠ some p

/-- a list of the written part -/
def KLst (K : PySem.W.Frag) (a : Addr) (xs : List V) : Prop :=
  ∃ (o : Obj) (its : Array Value) (n : Nat), K.lookup a = some o ∧ o.cls = .type "list" ∧ o.dict = none ∧ o.data = .seq its n ∧ its.size ≤ sizeLine ∧ Vals xs its.toList
/-- a tuple of the written part -/
def KTup (K : PySem.W.Frag) (a : Addr) (xs : List V) : Prop :=
  ∃ (o : Obj) (its : Array Value) (n : Nat), K.lookup a = some o ∧ o.cls = .type "tuple" ∧ o.data = .seq its n ∧ its.size ≤ sizeLine ∧ Vals xs its.toList

mutual
inductive RepV (K : PySem.W.Frag) (H : Hp) (ι : Io) (Y : Addr → Prop) : Wv → V → Prop
  | non : RepV K H ι Y .non .non
  | bl (b : Bool) : RepV K H ι Y (.bl b) (.bl b)
  | int (i : Int) : RepV K H ι Y (.int i) (.int i)
  | str (s : Str) : RepV K H ι Y (.str s) (.str s)
  | tup {p : Addr} {ws : List Wv} {vs : List V} : Rd H p (.tup vs) → Free ι Y p → RepL K H ι Y ws vs → RepV K H ι Y (.tup ws) (.ref p)
  | ktup {p : Addr} {ws : List Wv} {vs : List V} : KTup K p vs → RepL K H ι Y ws vs → RepV K H ι Y (.tup ws) (.ref p)
  | lst {p : Addr} {ws : List Wv} {vs : List V} : H p = some (.lst vs) → Free ι Y p → RepL K H ι Y ws vs → RepV K H ι Y (.lst ws) (.ref p)
  | dct {p : Addr} {ws : List (Key × Wv)} {vs : List (Key × V)} : H p = some (.dK vs) → Free ι Y p → RepD K H ι Y ws vs → RepV K H ι Y (.dct ws) (.ref p)
  | ref {i : Nat} {p : Addr} : ι i = some p → RepV K H ι Y (.ref i) (.ref p)
  | arg {p : Addr} {ns : List Int} : Rd H p (.lst (ns.map V.int)) → Free ι Y p → RepV K H ι Y (.arg ns) (.ref p)
  | karg {p : Addr} {ns : List Int} : KLst K p (ns.map V.int) → RepV K H ι Y (.arg ns) (.ref p)
inductive RepL (K : PySem.W.Frag) (H : Hp) (ι : Io) (Y : Addr → Prop) : List Wv → List V → Prop
  | nil : RepL K H ι Y [] []
  | cons {w : Wv} {v : V} {ws : List Wv} {vs : List V} : RepV K H ι Y w v → RepL K H ι Y ws vs → RepL K H ι Y (w :: ws) (v :: vs)
inductive RepD (K : PySem.W.Frag) (H : Hp) (ι : Io) (Y : Addr → Prop) : List (Key × Wv) → List (Key × V) → Prop
  | nil : RepD K H ι Y [] []
  | cons {k : Key} {w : Wv} {v : V} {ws : List (Key × Wv)} {vs : List (Key × V)} : RepV K H ι Y w v → RepD K H ι Y ws vs → RepD K H ι Y ((k, w) :: ws) ((k, v) :: vs)
end

/-- how store map and heap may go on -/
structure Evo (ι : Io) (H : Hp) (ι' : Io) (H' : Hp) : Prop where
  keep : ∀ a o, H a = some o → (∀ i, ι i ≠ some a) → (∀ ps, o ≠ .tbl ps) → H' a = some o
  ext : ∀ i a, ι i = some a → ι' i = some a
  new : ∀ i a, ι' i = some a → ι i = some a ∨ H a = none
  stay : ∀ a, H a ≠ none → H' a ≠ none

section
variable {K : PySem.W.Frag} {H H' H1 H2 : Hp} {ι ι' ι1 ι2 : Io} {Y Y' : Addr → Prop}
theorem Evo.refl (ι : Io) (H : Hp) : Evo ι H ι H := ⟨fun _ _ e _ _ => e, fun _ _ e => e, fun _ _ e => .inl e, fun _ e => e⟩
theorem Evo.trans (a : Evo ι H ι1 H1) (b : Evo ι1 H1 ι2 H2) : Evo ι H ι2 H2 where
  keep := fun p o e n t => b.keep p o (a.keep p o e n t) (fun i z => by
    rcases a.new i p z with q | q
    · exact n i q
    · rw [e] at q; cases q) t
  ext := fun i p e => b.ext i p (a.ext i p e)
  new := fun i p e => by
    rcases b.new i p e with q | q
    · exact a.new i p q
    · refine .inr ?_
      cases z : H p with
      | none => rfl
      | some o => exact absurd q (a.stay p (by rw [z]; simp))
  stay := fun p n => b.stay p (a.stay p n)
theorem Free.evo {p : Addr} (f : Free ι Y p) (e : Evo ι H ι' H') (h : H p ≠ none) : Free ι' Y p :=
  ⟨f.1, fun i z => by
    rcases e.new i p z with q | q
    · exact f.2 i q
    · exact h q⟩
theorem _root_.L2.Rd.tracked {p : Addr} {u : HO} (r : Rd H p u) : H p ≠ none := by
  rcases r with r | ⟨o, r⟩ <;> rw [r] <;> simp
theorem _root_.L2.Rd.evo {p : Addr} {u : HO} (r : Rd H p u) (f : Free ι Y p) (e : Evo ι H ι' H') (n : ∀ ps, u ≠ .tbl ps) : Rd H' p u := by
  rcases r with r | ⟨o, r⟩
  · exact .inl (e.keep p _ r f.2 n)
  · exact .inr ⟨o, e.keep p _ r f.2 (fun ps z => by cases z)⟩
mutual
theorem RepV.evo (e : Evo ι H ι' H') : ∀ {w : Wv} {v : V}, RepV K H ι Y w v → RepV K H' ι' Y w v
  | _, _, .non => .non
  | _, _, .bl b => .bl b
  | _, _, .int i => .int i
  | _, _, .str s => .str s
  | _, _, .tup h f r => .tup (h.evo f e (fun _ z => by cases z)) (f.evo e h.tracked) (RepL.evo e r)
  | _, _, .ktup h r => .ktup h (RepL.evo e r)
  | _, _, .lst h f r => .lst (e.keep _ _ h f.2 (fun _ z => by cases z)) (f.evo e (by rw [h]; simp)) (RepL.evo e r)
  | _, _, .dct h f r => .dct (e.keep _ _ h f.2 (fun _ z => by cases z)) (f.evo e (by rw [h]; simp)) (RepD.evo e r)
  | _, _, .ref h => .ref (e.ext _ _ h)
  | _, _, .arg h f => .arg (h.evo f e (fun _ z => by cases z)) (f.evo e h.tracked)
  | _, _, .karg h => .karg h
theorem RepL.evo (e : Evo ι H ι' H') : ∀ {ws : List Wv} {vs : List V}, RepL K H ι Y ws vs → RepL K H' ι' Y ws vs
  | _, _, .nil => .nil
  | _, _, .cons r t => .cons (RepV.evo e r) (RepL.evo e t)
theorem RepD.evo (e : Evo ι H ι' H') : ∀ {ws : List (Key × Wv)} {vs : List (Key × V)}, RepD K H ι Y ws vs → RepD K H' ι' Y ws vs
  | _, _, .nil => .nil
  | _, _, .cons r t => .cons (RepV.evo e r) (RepD.evo e t)
end
/-- what is set aside may be fewer -/
theorem Free.less {p : Addr} (h : ∀ a, Y' a → Y a) (f : Free ι Y p) : Free ι Y' p := ⟨fun z => f.1 (h p z), f.2⟩
mutual
theorem RepV.less (h : ∀ a, Y' a → Y a) : ∀ {w : Wv} {v : V}, RepV K H ι Y w v → RepV K H ι Y' w v
  | _, _, .non => .non
  | _, _, .bl b => .bl b
  | _, _, .int i => .int i
  | _, _, .str s => .str s
  | _, _, .tup q f r => .tup q (f.less h) (RepL.less h r)
  | _, _, .ktup q r => .ktup q (RepL.less h r)
  | _, _, .lst q f r => .lst q (f.less h) (RepL.less h r)
  | _, _, .dct q f r => .dct q (f.less h) (RepD.less h r)
  | _, _, .ref q => .ref q
  | _, _, .arg q f => .arg q (f.less h)
  | _, _, .karg q => .karg q
theorem RepL.less (h : ∀ a, Y' a → Y a) : ∀ {ws : List Wv} {vs : List V}, RepL K H ι Y ws vs → RepL K H ι Y' ws vs
  | _, _, .nil => .nil
  | _, _, .cons r t => .cons (RepV.less h r) (RepL.less h t)
theorem RepD.less (h : ∀ a, Y' a → Y a) : ∀ {ws : List (Key × Wv)} {vs : List (Key × V)}, RepD K H ι Y ws vs → RepD K H ι Y' ws vs
  | _, _, .nil => .nil
  | _, _, .cons r t => .cons (RepV.less h r) (RepD.less h t)
end
/-- what is not tracked may be set aside too -/
def plus (Y : Addr → Prop) (p : Addr) : Addr → Prop := fun a => Y a ∨ a = p
theorem Free.plus {p q : Addr} (f : Free ι Y p) (h : H p ≠ none) (n : H q = none) : Free ι (Dy.plus Y q) p :=
  ⟨fun z => by
    rcases z with z | z
    · exact f.1 z
    · exact h (z ▸ n), f.2⟩
mutual
theorem RepV.plus {q : Addr} (n : H q = none) : ∀ {w : Wv} {v : V}, RepV K H ι Y w v → RepV K H ι (Dy.plus Y q) w v
  | _, _, .non => .non
  | _, _, .bl b => .bl b
  | _, _, .int i => .int i
  | _, _, .str s => .str s
  | _, _, .tup h f r => .tup h (f.plus h.tracked n) (RepL.plus n r)
  | _, _, .ktup h r => .ktup h (RepL.plus n r)
  | _, _, .lst h f r => .lst h (f.plus (by rw [h]; simp) n) (RepL.plus n r)
  | _, _, .dct h f r => .dct h (f.plus (by rw [h]; simp) n) (RepD.plus n r)
  | _, _, .ref h => .ref h
  | _, _, .arg h f => .arg h (f.plus h.tracked n)
  | _, _, .karg h => .karg h
theorem RepL.plus {q : Addr} (n : H q = none) : ∀ {ws : List Wv} {vs : List V}, RepL K H ι Y ws vs → RepL K H ι (Dy.plus Y q) ws vs
  | _, _, .nil => .nil
  | _, _, .cons r t => .cons (RepV.plus n r) (RepL.plus n t)
theorem RepD.plus {q : Addr} (n : H q = none) : ∀ {ws : List (Key × Wv)} {vs : List (Key × V)}, RepD K H ι Y ws vs → RepD K H ι (Dy.plus Y q) ws vs
  | _, _, .nil => .nil
  | _, _, .cons r t => .cons (RepV.plus n r) (RepD.plus n t)
end
theorem plus_less {q : Addr} : ∀ a, Y a → plus Y q a := fun _ h => .inl h

/-! ### lists of values -/
theorem RepL.length : ∀ {ws : List Wv} {vs : List V}, RepL K H ι Y ws vs → ws.length = vs.length
  | _, _, .nil => rfl
  | _, _, .cons _ t => by simp [RepL.length t]
theorem RepL.get : ∀ {ws : List Wv} {vs : List V} {i : Nat} {w : Wv}, RepL K H ι Y ws vs → ws[i]? = some w → ∃ v, vs[i]? = some v ∧ RepV K H ι Y w v
  | _, _, _, _, .nil, e => by simp at e
  | _, _, 0, _, .cons r _, e => by simp at e; subst e; exact ⟨_, rfl, r⟩
  | _, _, i + 1, w, .cons _ t, e => by
    obtain ⟨u, h1, h2⟩ := RepL.get (i := i) (w := w) t (by simpa using e)
    exact ⟨u, by simpa using h1, h2⟩
theorem RepL.getV : ∀ {ws : List Wv} {vs : List V} {i : Nat} {v : V}, RepL K H ι Y ws vs → vs[i]? = some v → ∃ w, ws[i]? = some w ∧ RepV K H ι Y w v
  | _, _, _, _, .nil, e => by simp at e
  | _, _, 0, _, .cons r _, e => by simp at e; subst e; exact ⟨_, rfl, r⟩
  | _, _, i + 1, w, .cons _ t, e => by
    obtain ⟨u, h1, h2⟩ := RepL.getV (i := i) (v := w) t (by simpa using e)
    exact ⟨u, by simpa using h1, h2⟩
theorem RepL.append : ∀ {ws us : List Wv} {vs xs : List V}, RepL K H ι Y ws vs → RepL K H ι Y us xs → RepL K H ι Y (ws ++ us) (vs ++ xs)
  | _, _, _, _, .nil, s => s
  | _, _, _, _, .cons r t, s => .cons r (RepL.append t s)
theorem RepL.take : ∀ {ws : List Wv} {vs : List V} (n : Nat), RepL K H ι Y ws vs → RepL K H ι Y (ws.take n) (vs.take n)
  | _, _, 0, _ => .nil
  | _, _, _ + 1, .nil => .nil
  | _, _, n + 1, .cons r t => .cons r (RepL.take n t)
theorem RepL.drop : ∀ {ws : List Wv} {vs : List V} (n : Nat), RepL K H ι Y ws vs → RepL K H ι Y (ws.drop n) (vs.drop n)
  | _, _, 0, r => r
  | _, _, _ + 1, .nil => .nil
  | _, _, n + 1, .cons _ t => RepL.drop n t
theorem RepL.set {w : Wv} {v : V} (r : RepV K H ι Y w v) : ∀ {ws : List Wv} {vs : List V} (i : Nat), RepL K H ι Y ws vs → RepL K H ι Y (ws.set i w) (vs.set i v)
  | _, _, _, .nil => .nil
  | _, _, 0, .cons _ t => .cons r t
  | _, _, i + 1, .cons q t => .cons q (RepL.set r i t)
theorem RepL.ints : ∀ {ns : List Int} {vs : List V}, RepL K H ι Y (ns.map Wv.int) vs → vs = ns.map V.int
  | [], _, h => by cases h; rfl
  | n :: ns, _, h => by
    cases h with
    | cons r t =>
      cases r
      rw [RepL.ints t]
      rfl
theorem RepL.of_ints : ∀ (ns : List Int), RepL K H ι Y (ns.map Wv.int) (ns.map V.int)
  | [] => .nil
  | n :: ns => .cons (.int n) (RepL.of_ints ns)
theorem RepV.seqT {p : Addr} {ws : List Wv} (h : RepV K H ι Y (.tup ws) (.ref p)) : ∃ vs, SqT K H p vs ∧ RepL K H ι Y ws vs := by
  cases h with
  | tup h f r => exact ⟨_, .inl h, r⟩
  | ktup h r => exact ⟨_, .inr h, r⟩
theorem RepV.tup_ref {v : V} {ws : List Wv} (h : RepV K H ι Y (.tup ws) v) : ∃ p, v = .ref p ∧ ∃ vs, SqT K H p vs ∧ RepL K H ι Y ws vs := by
  cases h with
  | tup h f r => exact ⟨_, rfl, _, .inl h, r⟩
  | ktup h r => exact ⟨_, rfl, _, .inr h, r⟩
theorem RepV.lst_ref {v : V} {ws : List Wv} (h : RepV K H ι Y (.lst ws) v) : ∃ p, v = .ref p ∧ ∃ vs, H p = some (.lst vs) ∧ RepL K H ι Y ws vs := by
  cases h with
  | lst h f r => exact ⟨_, rfl, _, h, r⟩
theorem RepV.arg_ref {v : V} {ns : List Int} (h : RepV K H ι Y (.arg ns) v) : ∃ p, v = .ref p ∧ SqL K H p (ns.map V.int) := by
  cases h with
  | arg h f => exact ⟨_, rfl, .inl h⟩
  | karg h => exact ⟨_, rfl, .inr h⟩
end

/-! ### objects, slots, the state -/
inductive RepF (K : PySem.W.Frag) (H : Hp) (ι : Io) (Y : Addr → Prop) : List (Str × Wv) → List (Str × V) → Prop
  | nil : RepF K H ι Y [] []
  | cons {k : Str} {w : Wv} {v : V} {ws : List (Str × Wv)} {vs : List (Str × V)} : RepV K H ι Y w v → RepF K H ι Y ws vs → RepF K H ι Y ((k, w) :: ws) ((k, v) :: vs)
/-- what is known of the whole: the written part, the tables of code objects, the classes by names -/
structure Glob where
  tabs : List (Addr × Str)
  gens : List Addr
  cls : Str → Option Addr
  lamB : Nat → Expr → Scope → Prop
/-- no parameters; no names of its own, none captured -/
def noArgs : Arguments → Bool
  | ⟨[], [], none, [], [], none, []⟩ => true
  | _ => false
theorem noArgs_eq {p : Arguments} (h : noArgs p = true) : p = ⟨[], [], none, [], [], none, []⟩ := by
  unfold noArgs at h
  split at h
  · rfl
  · cases h
def closedB (scope : Scope) : Bool :=
  decide (scope.kind = .function) && (!scope.isCoroutine && (!scope.isGenerator && scope.names.all fun y => !decide (y.2 = .local) && (!decide (y.2 = .cell) && !decide (y.2 = .free))))
/-- the object of a lambda without parameters that captures nothing; its code object stands at c -/
def LamAt (G : Glob) (k : Nat) (a c : Addr) (q : Str) (h : Heap) : Prop :=
  ∃ (params : Arguments) (body : Expr) (scope : Scope) (pm ctv : Value), noArgs params = true ∧ closedB scope = true ∧ G.lamB k body scope ∧ h.get? a = some (PySem.W.kla_obj "<lambda>" q params body scope [] pm c ctv)
inductive RepO (K : PySem.W.Frag) (G : Glob) (H : Hp) (ι : Io) (Y : Addr → Prop) (a : Addr) : SO → HO → Prop
  | lst {ws : List Wv} {vs : List V} : RepL K H ι Y ws vs → RepO K G H ι Y a (.lst ws) (.lst vs)
  | dct {ws : List (Key × Wv)} {vs : List (Key × V)} : RepD K H ι Y ws vs → RepO K G H ι Y a (.dct ws) (.dK vs)
  | ins {c : Str} {C dx : Addr} {ws : List (Str × Wv)} {vs : List (Str × V)} : G.cls c = some C → RepF K H ι Y ws vs → RepO K G H ι Y a (.ins c ws) (.ins C dx vs)
  | lam {k : Nat} {c : Addr} {q : Str} : H c = some (LamX.CodeO c q) → Free ι Y c → RepO K G H ι Y a (.lam k) (.ext (LamAt G k a c q))
section
variable {K : PySem.W.Frag} {H H' H1 H2 : Hp} {ι ι' ι1 ι2 : Io} {Y Y' : Addr → Prop} {G : Glob}
theorem RepF.evo (e : Evo ι H ι' H') : ∀ {ws : List (Str × Wv)} {vs : List (Str × V)}, RepF K H ι Y ws vs → RepF K H' ι' Y ws vs
  | _, _, .nil => .nil
  | _, _, .cons r t => .cons (r.evo e) (RepF.evo e t)
theorem RepO.evo (e : Evo ι H ι' H') {a : Addr} {o : SO} {ho : HO} (h : RepO K G H ι Y a o ho) : RepO K G H' ι' Y a o ho := by
  cases h with
  | lst r => exact .lst (r.evo e)
  | dct r => exact .dct (r.evo e)
  | ins c r => exact .ins c (r.evo e)
  | lam h f => exact .lam (e.keep _ _ h f.2 (fun ps z => LamX.codeO_ne ps z)) (f.evo e (by rw [h]; simp))
theorem RepF.less (h : ∀ a, Y' a → Y a) : ∀ {ws : List (Str × Wv)} {vs : List (Str × V)}, RepF K H ι Y ws vs → RepF K H ι Y' ws vs
  | _, _, .nil => .nil
  | _, _, .cons r t => .cons (r.less h) (RepF.less h t)
theorem RepO.less (h : ∀ a, Y' a → Y a) {a : Addr} {o : SO} {ho : HO} (r : RepO K G H ι Y a o ho) : RepO K G H ι Y' a o ho := by
  cases r with
  | lst r => exact .lst (r.less h)
  | dct r => exact .dct (r.less h)
  | ins c r => exact .ins c (r.less h)
  | lam q f => exact .lam q (f.less h)
theorem RepF.plus {q : Addr} (n : H q = none) : ∀ {ws : List (Str × Wv)} {vs : List (Str × V)}, RepF K H ι Y ws vs → RepF K H ι (Dy.plus Y q) ws vs
  | _, _, .nil => .nil
  | _, _, .cons r t => .cons (r.plus n) (RepF.plus n t)
theorem RepO.plus {q : Addr} (n : H q = none) {a : Addr} {o : SO} {ho : HO} (r : RepO K G H ι Y a o ho) : RepO K G H ι (Dy.plus Y q) a o ho := by
  cases r with
  | lst r => exact .lst (r.plus n)
  | dct r => exact .dct (r.plus n)
  | ins c r => exact .ins c (r.plus n)
  | lam h f => exact .lam h (f.plus (by rw [h]; simp) n)
theorem RepO.notTbl {a : Addr} {o : SO} {ho : HO} (r : RepO K G H ι Y a o ho) : ∀ ps, ho ≠ .tbl ps := by
  intro ps z
  cases r <;> cases z

/-- a list's, a dict's object -/
def IsLD : HO → Prop
  | .lst _ => True
  | .dK _ => True
  | _ => False
structure Rel (K : PySem.W.Frag) (G : Glob) (ι : Io) (Y : Addr → Prop) (S : Sto) (H : Hp) : Prop where
  inj : ∀ i j a, ι i = some a → ι j = some a → i = j
  lt : ∀ i a, ι i = some a → i < S.length
  obj : ∀ i o, S[i]? = some o → ∃ a ho, ι i = some a ∧ H a = some ho ∧ RepO K G H ι Y a o ho
  yt : ∀ a, Y a → ∃ o, H a = some o ∧ IsLD o
  ny : ∀ i a, ι i = some a → ¬ Y a
  tabs : LamX.Tabs G.tabs H
  gens : ∀ P ∈ G.gens, GxR.TabG H P
theorem Rel.live {S : Sto} (R : Rel K G ι Y S H) {i : Nat} {a : Addr} (e : ι i = some a) : H a ≠ none := by
  have hl := R.lt i a e
  obtain ⟨b, ho, e2, h, _⟩ := R.obj i S[i] (List.getElem?_eq_getElem hl)
  rw [e] at e2
  cases e2
  rw [h]; simp
theorem Rel.yn {S : Sto} (R : Rel K G ι Y S H) {a : Addr} (y : Y a) : H a ≠ none := by
  obtain ⟨o, h, _⟩ := R.yt a y
  rw [h]; simp
theorem IsLD.keep {a : Addr} (e : Evo ι H ι' H') (f : ∀ i, ι i ≠ some a) (h : ∃ o, H a = some o ∧ IsLD o) : ∃ o, H' a = some o ∧ IsLD o := by
  obtain ⟨o, h1, h2⟩ := h
  exact ⟨o, e.keep a o h1 f (fun ps z => by rw [z] at h2; exact h2), h2⟩
theorem Rel.ni {S : Sto} (R : Rel K G ι Y S H) {a : Addr} (y : Y a) : ∀ i, ι i ≠ some a := fun i z => R.ny i a z y
theorem Rel.fresh {S : Sto} (R : Rel K G ι Y S H) {p : Addr} (n : H p = none) : Free ι Y p := ⟨fun z => R.yn z n, fun i z => R.live z n⟩
/-- a new object of the heap alone -/
theorem evo_new (ι : Io) {p : Addr} {o : HO} (n : H p = none) : Evo ι H ι (upd H p o) where
  keep := fun a u e _ _ => by rw [upd_ne (ne_of_none e n)]; exact e
  ext := fun _ _ e => e
  new := fun _ _ e => .inl e
  stay := fun a h => by
    by_cases z : a = p
    · subst z; rw [upd_same]; simp
    · rw [upd_ne z]; exact h
theorem tabs_new {T : List (Addr × Str)} {p : Addr} {o : HO} (n : H p = none) (t : LamX.Tabs T H) : LamX.Tabs T (upd H p o) :=
  t.ext fun b u e => by rw [upd_ne (ne_of_none e n)]; exact e
theorem gens_new {T : List Addr} {p : Addr} {o : HO} (n : H p = none) (t : ∀ P ∈ T, GxR.TabG H P) : ∀ P ∈ T, GxR.TabG (upd H p o) P := fun P hP => by
  obtain ⟨ps, h1, h2⟩ := t P hP
  exact ⟨ps, by rw [upd_ne (ne_of_none h1 n)]; exact h1, h2⟩
theorem Rel.newHp {S : Sto} (R : Rel K G ι Y S H) {p : Addr} {o : HO} (n : H p = none) : Rel K G ι Y S (upd H p o) where
  inj := R.inj
  lt := R.lt
  obj := fun i u e => by
    obtain ⟨a, ho, h1, h2, h3⟩ := R.obj i u e
    exact ⟨a, ho, h1, by rw [upd_ne (ne_of_none h2 n)]; exact h2, h3.evo (evo_new ι n)⟩
  yt := fun a h => IsLD.keep (evo_new ι n) (R.ni h) (R.yt a h)
  ny := R.ny
  tabs := tabs_new n R.tabs
  gens := gens_new n R.gens
theorem Rel.plus {S : Sto} (R : Rel K G ι Y S H) {p : Addr} {o : HO} (n : H p = none) (ld : IsLD o) : Rel K G ι (Dy.plus Y p) S (upd H p o) where
  inj := R.inj
  lt := R.lt
  obj := fun i u e => by
    obtain ⟨a, ho, h1, h2, h3⟩ := R.obj i u e
    exact ⟨a, ho, h1, by rw [upd_ne (ne_of_none h2 n)]; exact h2, (h3.plus n).evo (evo_new ι n)⟩
  yt := fun a h => by
    rcases h with h | h
    · exact IsLD.keep (evo_new ι n) (R.ni h) (R.yt a h)
    · subst h; exact ⟨o, upd_same, ld⟩
  ny := fun i a e h => by
    rcases h with h | h
    · exact R.ny i a e h
    · subst h; exact R.live e n
  tabs := tabs_new n R.tabs
  gens := gens_new n R.gens
theorem Rel.less {S : Sto} (h : ∀ a, Y' a → Y a) (R : Rel K G ι Y S H) : Rel K G ι Y' S H where
  inj := R.inj
  lt := R.lt
  obj := fun i u e => by
    obtain ⟨a, ho, h1, h2, h3⟩ := R.obj i u e
    exact ⟨a, ho, h1, h2, h3.less h⟩
  yt := fun a z => R.yt a (h a z)
  ny := fun i a e z => R.ny i a e (h a z)
  tabs := R.tabs
  gens := R.gens

def RepS (K : PySem.W.Frag) (H : Hp) (ι : Io) (Y : Addr → Prop) (σd : Sl) (σ : L2.St) : Prop :=
  σd.length = σ.length ∧ ∀ (i : Nat) (w : Wv), σd[i]? = some (some w) → ∃ v : V, σ[i]? = some (some v) ∧ RepV K H ι Y w v
theorem RepS.evo {σd : Sl} {σ : L2.St} (e : Evo ι H ι' H') (h : RepS K H ι Y σd σ) : RepS K H' ι' Y σd σ :=
  ⟨h.1, fun i w q => by
    obtain ⟨v, h1, h2⟩ := h.2 i w q
    exact ⟨v, h1, h2.evo e⟩⟩
theorem RepS.less {σd : Sl} {σ : L2.St} (h : ∀ a, Y' a → Y a) (r : RepS K H ι Y σd σ) : RepS K H ι Y' σd σ :=
  ⟨r.1, fun i w q => by
    obtain ⟨v, h1, h2⟩ := r.2 i w q
    exact ⟨v, h1, h2.less h⟩⟩
theorem RepS.plus {σd : Sl} {σ : L2.St} {q : Addr} (n : H q = none) (r : RepS K H ι Y σd σ) : RepS K H ι (Dy.plus Y q) σd σ :=
  ⟨r.1, fun i w z => by
    obtain ⟨v, h1, h2⟩ := r.2 i w z
    exact ⟨v, h1, h2.plus n⟩⟩
theorem RepS.set {σd : Sl} {σ : L2.St} {w : Wv} {v : V} (i : Nat) (r : RepV K H ι Y w v) (h : RepS K H ι Y σd σ) : RepS K H ι Y (σd.set i (some w)) (σ.set i (some v)) := by
  refine ⟨by simp [h.1], fun j u q => ?_⟩
  by_cases e : j = i
  · subst e
    have hl : j < σd.length := by
      have := (List.getElem?_eq_some_iff.mp q).1
      simpa using this
    rw [List.getElem?_set_self hl] at q
    cases q
    exact ⟨v, by rw [List.getElem?_set_self (by rw [← h.1]; exact hl)], r⟩
  · rw [List.getElem?_set_ne (Ne.symm e)] at q
    obtain ⟨x, h1, h2⟩ := h.2 j u q
    exact ⟨x, by rw [List.getElem?_set_ne (Ne.symm e)]; exact h1, h2⟩
end

/-! ### results -/
inductive Res where
  | ok (w : Wv) (S : Sto) | exc (c : Str) (S : Sto) | bad
def Res.bind (r : Res) (k : Wv → Sto → Res) : Res := match r with
  | .ok w S => k w S
  | .exc c S => .exc c S
  | .bad => .bad
@[simp] theorem bind_ok (w : Wv) (S : Sto) (k : Wv → Sto → Res) : (Res.ok w S).bind k = k w S := rfl
@[simp] theorem bind_exc (c : Str) (S : Sto) (k : Wv → Sto → Res) : (Res.exc c S).bind k = .exc c S := rfl
@[simp] theorem bind_bad (k : Wv → Sto → Res) : Res.bad.bind k = .bad := rfl
/-- what is wanted of a result: Q of a value and a heap, E of an exception -/
def Post (K : PySem.W.Frag) (G : Glob) (Y : Addr → Prop) (ι : Io) (H : Hp) (r : Res) (Q : VK) (E : XK) : Prop := match r with
  | .ok w S => ∀ ι' H' v, Evo ι H ι' H' → Rel K G ι' Y S H' → RepV K H' ι' Y w v → Q v H'
  | .exc c S => ∃ C, G.cls c = some C ∧ ∀ ι' H', Evo ι H ι' H' → Rel K G ι' Y S H' → E (.ref C) none H'
  | .bad => False
section
variable {K : PySem.W.Frag} {G : Glob} {Y : Addr → Prop} {ι ι' : Io} {H H' : Hp} {r : Res} {Q : VK} {E : XK} {k : Wv → Sto → Res}
theorem Post.evo (h : Post K G Y ι H r Q E) (e : Evo ι H ι' H') : Post K G Y ι' H' r Q E := by
  cases r with
  | ok w S => exact fun ι2 H2 v e2 R r => h ι2 H2 v (e.trans e2) R r
  | exc c S =>
    obtain ⟨C, hc, h⟩ := h
    exact ⟨C, hc, fun ι2 H2 e2 R => h ι2 H2 (e.trans e2) R⟩
  | bad => exact h
theorem Post.bind (h : Post K G Y ι H (r.bind k) Q E) : Post K G Y ι H r (fun v H' => ∃ ι' w S', Evo ι H ι' H' ∧ Rel K G ι' Y S' H' ∧ RepV K H' ι' Y w v ∧ Post K G Y ι' H' (k w S') Q E) E := by
  cases r with
  | ok w S => exact fun ι' H' v e R r => ⟨ι', w, S, e, R, r, Post.evo h e⟩
  | exc c S => exact h
  | bad => exact h
theorem Post.mono {Q' : VK} {E' : XK} (h : Post K G Y ι H r Q E) (hq : ∀ v H', Q v H' → Q' v H') (he : ∀ c d H', E c d H' → E' c d H') : Post K G Y ι H r Q' E' := by
  cases r with
  | ok w S => exact fun ι2 H2 v e2 R r => hq _ _ (h ι2 H2 v e2 R r)
  | exc c S =>
    obtain ⟨C, hc, h⟩ := h
    exact ⟨C, hc, fun ι2 H2 e2 R => he _ _ _ (h ι2 H2 e2 R)⟩
  | bad => exact h
theorem Post.here {w : Wv} {S : Sto} {v : V} (h : Post K G Y ι H (.ok w S) Q E) (R : Rel K G ι Y S H) (r : RepV K H ι Y w v) : Q v H := h ι H v (Evo.refl _ _) R r
end

/-! ### what is set aside may be written -/
section
variable {K : PySem.W.Frag} {G : Glob} {H : Hp} {ι : Io} {Y : Addr → Prop} {q : Addr} {o : HO}
theorem upd_free {p : Addr} {u : HO} (f : Free ι Y p) (y : Y q) (h : H p = some u) : (upd H q o) p = some u := by
  rw [upd_ne (fun z : p = q => f.1 (z ▸ y))]; exact h
theorem upd_rd {p : Addr} {u : HO} (f : Free ι Y p) (y : Y q) (h : Rd H p u) : Rd (upd H q o) p u := by
  rcases h with h | ⟨ob, h⟩
  · exact .inl (upd_free f y h)
  · exact .inr ⟨ob, upd_free f y h⟩
mutual
theorem RepV.updY (y : Y q) : ∀ {w : Wv} {v : V}, RepV K H ι Y w v → RepV K (upd H q o) ι Y w v
  | _, _, .non => .non
  | _, _, .bl b => .bl b
  | _, _, .int i => .int i
  | _, _, .str s => .str s
  | _, _, .tup h f r => .tup (upd_rd f y h) f (RepL.updY y r)
  | _, _, .ktup h r => .ktup h (RepL.updY y r)
  | _, _, .lst h f r => .lst (upd_free f y h) f (RepL.updY y r)
  | _, _, .dct h f r => .dct (upd_free f y h) f (RepD.updY y r)
  | _, _, .ref h => .ref h
  | _, _, .arg h f => .arg (upd_rd f y h) f
  | _, _, .karg h => .karg h
theorem RepL.updY (y : Y q) : ∀ {ws : List Wv} {vs : List V}, RepL K H ι Y ws vs → RepL K (upd H q o) ι Y ws vs
  | _, _, .nil => .nil
  | _, _, .cons r t => .cons (RepV.updY y r) (RepL.updY y t)
theorem RepD.updY (y : Y q) : ∀ {ws : List (Key × Wv)} {vs : List (Key × V)}, RepD K H ι Y ws vs → RepD K (upd H q o) ι Y ws vs
  | _, _, .nil => .nil
  | _, _, .cons r t => .cons (RepV.updY y r) (RepD.updY y t)
end
theorem RepF.updY (y : Y q) : ∀ {ws : List (Str × Wv)} {vs : List (Str × V)}, RepF K H ι Y ws vs → RepF K (upd H q o) ι Y ws vs
  | _, _, .nil => .nil
  | _, _, .cons r t => .cons (r.updY y) (RepF.updY y t)
theorem RepO.updY (y : Y q) {a : Addr} {so : SO} {ho : HO} (r : RepO K G H ι Y a so ho) : RepO K G (upd H q o) ι Y a so ho := by
  cases r with
  | lst r => exact .lst (r.updY y)
  | dct r => exact .dct (r.updY y)
  | ins c r => exact .ins c (r.updY y)
  | lam h f => exact .lam (upd_free f y h) f
theorem RepS.updY {σd : Sl} {σ : L2.St} (y : Y q) (h : RepS K H ι Y σd σ) : RepS K (upd H q o) ι Y σd σ :=
  ⟨h.1, fun i w e => by
    obtain ⟨v, h1, h2⟩ := h.2 i w e
    exact ⟨v, h1, h2.updY y⟩⟩
/-- the object at q is no table -/
theorem Rel.updY {S : Sto} (R : Rel K G ι Y S H) (ld : IsLD o) (y : Y q) (n : ∀ ps, H q ≠ some (.tbl ps)) (n2 : ∀ c s, H q ≠ some (LamX.CodeO c s)) : Rel K G ι Y S (upd H q o) where
  inj := R.inj
  lt := R.lt
  obj := fun i u e => by
    obtain ⟨a, ho, h1, h2, h3⟩ := R.obj i u e
    exact ⟨a, ho, h1, by rw [upd_ne (fun z : a = q => R.ny i a h1 (z ▸ y))]; exact h2, h3.updY y⟩
  yt := fun a h => by
    by_cases e : a = q
    · subst e; exact ⟨o, upd_same, ld⟩
    · rw [upd_ne e]; exact R.yt a h
  ny := R.ny
  tabs := fun p hp => by
    obtain ⟨ps, h1, h2, h3⟩ := R.tabs p hp
    refine ⟨ps, ?_, h2, fun pos cv hc => ?_⟩
    · rw [upd_ne (fun z : p.1 = q => n ps (z ▸ h1))]; exact h1
    · obtain ⟨c, e1, e2⟩ := h3 pos cv hc
      exact ⟨c, e1, by rw [upd_ne (fun z : c = q => n2 c p.2 (z ▸ e2))]; exact e2⟩
  gens := fun P hP => by
    obtain ⟨ps, h1, h2⟩ := R.gens P hP
    exact ⟨ps, by rw [upd_ne (fun z : P = q => n ps (z ▸ h1))]; exact h1, h2⟩
/-- a store object comes: the heap object at p, fresh -/
def ext (ι : Io) (n : Nat) (p : Addr) : Io := fun i => if i = n then some p else ι i
theorem evo_ext {S : Sto} (R : Rel K G ι Y S H) {p : Addr} (n : H p = none) : Evo ι H (ext ι S.length p) (upd H p o) where
  keep := (evo_new ι n).keep
  ext := fun i a e => by
    have hl := R.lt i a e
    unfold ext
    rw [if_neg (Nat.ne_of_lt hl)]; exact e
  new := fun i a e => by
    unfold ext at e
    by_cases h : i = S.length
    · rw [if_pos h] at e; cases e; exact .inr n
    · rw [if_neg h] at e; exact .inl e
  stay := (evo_new ι n).stay
theorem Rel.push {S : Sto} (R : Rel K G ι Y S H) {p : Addr} {so : SO} (n : H p = none) (r : RepO K G H ι Y p so o) : Rel K G (Dy.ext ι S.length p) Y (S ++ [so]) (upd H p o) := by
  have E : Evo ι H (ext ι S.length p) (upd H p o) := evo_ext R n
  refine ⟨fun i j a h1 h2 => ?_, fun i a h => ?_, fun i u e => ?_, fun a h => IsLD.keep E (R.ni h) (R.yt a h), fun i a h y => ?_, tabs_new n R.tabs, gens_new n R.gens⟩
  · unfold ext at h1 h2
    by_cases e1 : i = S.length <;> by_cases e2 : j = S.length
    · rw [e1, e2]
    · rw [if_pos e1] at h1; rw [if_neg e2] at h2; cases h1; exact absurd n (R.live h2)
    · rw [if_neg e1] at h1; rw [if_pos e2] at h2; cases h2; exact absurd n (R.live h1)
    · rw [if_neg e1] at h1; rw [if_neg e2] at h2; exact R.inj i j a h1 h2
  · unfold ext at h
    rw [List.length_append]
    by_cases e : i = S.length
    · rw [e]; exact Nat.lt_succ_self _
    · rw [if_neg e] at h; exact Nat.lt_succ_of_lt (R.lt i a h)
  · by_cases hi : i < S.length
    · rw [List.getElem?_append_left hi] at e
      obtain ⟨a, ho, h1, h2, h3⟩ := R.obj i u e
      exact ⟨a, ho, E.ext i a h1, by rw [upd_ne (ne_of_none h2 n)]; exact h2, h3.evo E⟩
    · have hl : i < (S ++ [so]).length := (List.getElem?_eq_some_iff.mp e).1
      rw [List.length_append] at hl
      have e1 : i = S.length := by simp at hl; omega
      subst e1
      have e2 : so = u := by simpa using e
      subst e2
      exact ⟨p, o, by unfold ext; rw [if_pos rfl], upd_same, r.evo E⟩
  · unfold ext at h
    by_cases e : i = S.length
    · rw [if_pos e] at h; cases h; exact R.yn y n
    · rw [if_neg e] at h; exact R.ny i a h y
end
end Dy

end
section
set_option Elab.async false
set_option linter.all false
set_option maxRecDepth 100000
/-! Dz, part A: what has just been made; objects forgotten when a def ends. -/
namespace Dy
open PySem PySem.Spec PyProof.Rows L2

/-! ### values without objects of number n and beyond -/
mutual
def closedW (n : Nat) : Wv → Bool
  | .tup xs => closedL n xs
  | .lst xs => closedL n xs
  | .dct xs => closedD n xs
  | .ref i => decide (i < n)
  | .non => true
  | .bl _ => true
  | .int _ => true
  | .str _ => true
  | .arg _ => true
def closedL (n : Nat) : List Wv → Bool
  | [] => true
  | w :: ws => closedW n w && closedL n ws
def closedD (n : Nat) : List (Key × Wv) → Bool
  | [] => true
  | (_, w) :: ws => closedW n w && closedD n ws
end
def closedF (n : Nat) : List (Str × Wv) → Bool
  | [] => true
  | (_, w) :: ws => closedW n w && closedF n ws
def closedO (n : Nat) : SO → Bool
  | .lst xs => closedL n xs
  | .dct xs => closedD n xs
  | .ins _ fs => closedF n fs
  | .lam _ => true
def closedS (n : Nat) (S : Sto) : Bool := S.all (closedO n)
/-! ### equality, decided -/
mutual
def beqW : Wv → Wv → Bool
  | .non, .non => true
  | .bl a, .bl b => decide (a = b)
  | .int a, .int b => decide (a = b)
  | .str a, .str b => decide (a = b)
  | .tup a, .tup b => beqL a b
  | .lst a, .lst b => beqL a b
  | .dct a, .dct b => beqK a b
  | .ref a, .ref b => decide (a = b)
  | .arg a, .arg b => decide (a = b)
  | _, _ => false
def beqL : List Wv → List Wv → Bool
  | [], [] => true
  | a :: as, b :: bs => beqW a b && beqL as bs
  | _, _ => false
def beqK : List (Key × Wv) → List (Key × Wv) → Bool
  | [], [] => true
  | (k, a) :: as, (j, b) :: bs => decide (k = j) && (beqW a b && beqK as bs)
  | _, _ => false
end
def beqF : List (Str × Wv) → List (Str × Wv) → Bool
  | [], [] => true
  | (k, a) :: as, (j, b) :: bs => decide (k = j) && (beqW a b && beqF as bs)
  | _, _ => false
def beqO : SO → SO → Bool
  | .lst a, .lst b => beqL a b
  | .dct a, .dct b => beqK a b
  | .ins c a, .ins d b => decide (c = d) && beqF a b
  | .lam a, .lam b => decide (a = b)
  | _, _ => false
def beqS : Sto → Sto → Bool
  | [], [] => true
  | a :: as, b :: bs => beqO a b && beqS as bs
  | _, _ => false
mutual
theorem beqW_eq : ∀ {a b : Wv}, beqW a b = true → a = b
  | .non, .non, _ => rfl
  | .bl a, .bl b, h => by rw [of_decide_eq_true (show decide (a = b) = true from h)]
  | .int a, .int b, h => by rw [of_decide_eq_true (show decide (a = b) = true from h)]
  | .str a, .str b, h => by rw [of_decide_eq_true (show decide (a = b) = true from h)]
  | .tup a, .tup b, h => by rw [beqL_eq (show beqL a b = true from h)]
  | .lst a, .lst b, h => by rw [beqL_eq (show beqL a b = true from h)]
  | .dct a, .dct b, h => by rw [beqK_eq (show beqK a b = true from h)]
  | .ref a, .ref b, h => by rw [of_decide_eq_true (show decide (a = b) = true from h)]
  | .arg a, .arg b, h => by rw [of_decide_eq_true (show decide (a = b) = true from h)]
  | .non, .bl _, h | .non, .int _, h | .non, .str _, h | .non, .tup _, h | .non, .lst _, h | .non, .dct _, h | .non, .ref _, h | .non, .arg _, h => nomatch (show false = true from h)
  | .bl _, .non, h | .bl _, .int _, h | .bl _, .str _, h | .bl _, .tup _, h | .bl _, .lst _, h | .bl _, .dct _, h | .bl _, .ref _, h | .bl _, .arg _, h => nomatch (show false = true from h)
  | .int _, .non, h | .int _, .bl _, h | .int _, .str _, h | .int _, .tup _, h | .int _, .lst _, h | .int _, .dct _, h | .int _, .ref _, h | .int _, .arg _, h => nomatch (show false = true from h)
  | .str _, .non, h | .str _, .bl _, h | .str _, .int _, h | .str _, .tup _, h | .str _, .lst _, h | .str _, .dct _, h | .str _, .ref _, h | .str _, .arg _, h => nomatch (show false = true from h)
  | .tup _, .non, h | .tup _, .bl _, h | .tup _, .int _, h | .tup _, .str _, h | .tup _, .lst _, h | .tup _, .dct _, h | .tup _, .ref _, h | .tup _, .arg _, h => nomatch (show false = true from h)
  | .lst _, .non, h | .lst _, .bl _, h | .lst _, .int _, h | .lst _, .str _, h | .lst _, .tup _, h | .lst _, .dct _, h | .lst _, .ref _, h | .lst _, .arg _, h => nomatch (show false = true from h)
  | .dct _, .non, h | .dct _, .bl _, h | .dct _, .int _, h | .dct _, .str _, h | .dct _, .tup _, h | .dct _, .lst _, h | .dct _, .ref _, h | .dct _, .arg _, h => nomatch (show false = true from h)
  | .ref _, .non, h | .ref _, .bl _, h | .ref _, .int _, h | .ref _, .str _, h | .ref _, .tup _, h | .ref _, .lst _, h | .ref _, .dct _, h | .ref _, .arg _, h => nomatch (show false = true from h)
  | .arg _, .non, h | .arg _, .bl _, h | .arg _, .int _, h | .arg _, .str _, h | .arg _, .tup _, h | .arg _, .lst _, h | .arg _, .dct _, h | .arg _, .ref _, h => nomatch (show false = true from h)
theorem beqL_eq : ∀ {a b : List Wv}, beqL a b = true → a = b
  | [], [], _ => rfl
  | a :: as, b :: bs, h => by
    have h : (beqW a b && beqL as bs) = true := h
    rw [Bool.and_eq_true] at h
    rw [beqW_eq h.1, beqL_eq h.2]
  | [], _ :: _, h | _ :: _, [], h => nomatch (show false = true from h)
theorem beqK_eq : ∀ {a b : List (Key × Wv)}, beqK a b = true → a = b
  | [], [], _ => rfl
  | (k, a) :: as, (j, b) :: bs, h => by
    have h : (decide (k = j) && (beqW a b && beqK as bs)) = true := h
    rw [Bool.and_eq_true, Bool.and_eq_true, decide_eq_true_eq] at h
    rw [h.1, beqW_eq h.2.1, beqK_eq h.2.2]
  | [], _ :: _, h | _ :: _, [], h => nomatch (show false = true from h)
end
theorem beqF_eq : ∀ {a b : List (Str × Wv)}, beqF a b = true → a = b
  | [], [], _ => rfl
  | (k, a) :: as, (j, b) :: bs, h => by
    have h : (decide (k = j) && (beqW a b && beqF as bs)) = true := h
    rw [Bool.and_eq_true, Bool.and_eq_true, decide_eq_true_eq] at h
    rw [h.1, beqW_eq h.2.1, beqF_eq h.2.2]
  | [], _ :: _, h | _ :: _, [], h => nomatch (show false = true from h)
theorem beqO_eq {a b : SO} (h : beqO a b = true) : a = b := by
  cases a <;> cases b <;> first | (rw [beqL_eq h]; done) | (rw [beqK_eq h]; done) | (rw [of_decide_eq_true h]; done) | (cases h; done) | skip
  rename_i c a d b
  have h : (decide (c = d) && beqF a b) = true := h
  rw [Bool.and_eq_true, decide_eq_true_eq] at h
  rw [h.1, beqF_eq h.2]
theorem beqS_eq : ∀ {a b : Sto}, beqS a b = true → a = b
  | [], [], _ => rfl
  | a :: as, b :: bs, h => by
    have h : (beqO a b && beqS as bs) = true := h
    rw [Bool.and_eq_true] at h
    rw [beqO_eq h.1, beqS_eq h.2]
  | [], _ :: _, h | _ :: _, [], h => nomatch (show false = true from h)
mutual
@[simp] theorem beqW_refl : ∀ a : Wv, beqW a a = true
  | .non => rfl
  | .bl a => decide_eq_true (rfl : a = a)
  | .int a => decide_eq_true (rfl : a = a)
  | .str a => decide_eq_true (rfl : a = a)
  | .tup a => beqL_refl a
  | .lst a => beqL_refl a
  | .dct a => beqK_refl a
  | .ref a => decide_eq_true (rfl : a = a)
  | .arg a => decide_eq_true (rfl : a = a)
@[simp] theorem beqL_refl : ∀ a : List Wv, beqL a a = true
  | [] => rfl
  | a :: as => by show (beqW a a && beqL as as) = true; rw [beqW_refl a, beqL_refl as]; rfl
@[simp] theorem beqK_refl : ∀ a : List (Key × Wv), beqK a a = true
  | [] => rfl
  | (k, a) :: as => by show (decide (k = k) && (beqW a a && beqK as as)) = true; rw [beqW_refl a, beqK_refl as]; simp
end
@[simp] theorem beqF_refl : ∀ a : List (Str × Wv), beqF a a = true
  | [] => rfl
  | (k, a) :: as => by show (decide (k = k) && (beqW a a && beqF as as)) = true; rw [beqW_refl a, beqF_refl as]; simp
@[simp] theorem beqO_refl (a : SO) : beqO a a = true := by
  cases a with
  | lst a => exact beqL_refl a
  | dct a => exact beqK_refl a
  | ins c a => show (decide (c = c) && beqF a a) = true; rw [beqF_refl]; simp
  | lam k => exact decide_eq_true rfl
@[simp] theorem beqS_refl : ∀ a : Sto, beqS a a = true
  | [] => rfl
  | a :: as => by show (beqO a a && beqS as as) = true; rw [beqO_refl a, beqS_refl as]; rfl

/-! ### objects forgotten -/
def cutI (n : Nat) (ι : Io) : Io := fun i => if i < n then ι i else none
section
variable {K : PySem.W.Frag} {H H' : Hp} {ι ι' : Io} {Y : Addr → Prop} {G : Glob} {n : Nat}
theorem cutI_lt {i : Nat} {a : Addr} (h : cutI n ι i = some a) : i < n ∧ ι i = some a := by
  unfold cutI at h
  by_cases e : i < n
  · rw [if_pos e] at h; exact ⟨e, h⟩
  · rw [if_neg e] at h; cases h
theorem Free.cut {p : Addr} (f : Free ι Y p) : Free (cutI n ι) Y p := ⟨f.1, fun i z => f.2 i (cutI_lt z).2⟩
mutual
theorem RepV.cut : ∀ {w : Wv} {v : V}, RepV K H ι Y w v → closedW n w = true → RepV K H (cutI n ι) Y w v
  | _, _, .non, _ => .non
  | _, _, .bl b, _ => .bl b
  | _, _, .int i, _ => .int i
  | _, _, .str s, _ => .str s
  | _, _, .tup h f r, c => .tup h f.cut (RepL.cut r c)
  | _, _, .ktup h r, c => .ktup h (RepL.cut r c)
  | _, _, .lst h f r, c => .lst h f.cut (RepL.cut r c)
  | _, _, .dct h f r, c => .dct h f.cut (RepD.cut r c)
  | _, _, .ref (i := i) h, c => .ref (by
      have c : decide (i < n) = true := c
      unfold cutI; rw [if_pos (of_decide_eq_true c)]; exact h)
  | _, _, .arg h f, _ => .arg h f.cut
  | _, _, .karg h, _ => .karg h
theorem RepL.cut : ∀ {ws : List Wv} {vs : List V}, RepL K H ι Y ws vs → closedL n ws = true → RepL K H (cutI n ι) Y ws vs
  | _, _, .nil, _ => .nil
  | _, _, .cons (w := w) (ws := ws) r t, c => by
    have c : (closedW n w && closedL n ws) = true := c
    rw [Bool.and_eq_true] at c
    exact .cons (RepV.cut r c.1) (RepL.cut t c.2)
theorem RepD.cut : ∀ {ws : List (Key × Wv)} {vs : List (Key × V)}, RepD K H ι Y ws vs → closedD n ws = true → RepD K H (cutI n ι) Y ws vs
  | _, _, .nil, _ => .nil
  | _, _, .cons (w := w) (ws := ws) r t, c => by
    have c : (closedW n w && closedD n ws) = true := c
    rw [Bool.and_eq_true] at c
    exact .cons (RepV.cut r c.1) (RepD.cut t c.2)
end
theorem RepF.cut : ∀ {ws : List (Str × Wv)} {vs : List (Str × V)}, RepF K H ι Y ws vs → closedF n ws = true → RepF K H (cutI n ι) Y ws vs
  | _, _, .nil, _ => .nil
  | _, _, .cons (w := w) (ws := ws) r t, c => by
    have c : (closedW n w && closedF n ws) = true := c
    rw [Bool.and_eq_true] at c
    exact .cons (r.cut c.1) (RepF.cut t c.2)
theorem RepO.cut {a : Addr} {o : SO} {ho : HO} (r : RepO K G H ι Y a o ho) (c : closedO n o = true) : RepO K G H (cutI n ι) Y a o ho := by
  cases r with
  | lst r => exact .lst (r.cut c)
  | dct r => exact .dct (r.cut c)
  | ins h r => exact .ins h (r.cut c)
  | lam h f => exact .lam h f.cut
mutual
theorem RepV.closed (hn : ∀ i a, ι i = some a → i < n) : ∀ {w : Wv} {v : V}, RepV K H ι Y w v → closedW n w = true
  | _, _, .non => rfl
  | _, _, .bl b => rfl
  | _, _, .int i => rfl
  | _, _, .str s => rfl
  | _, _, .tup h f r => RepL.closed hn r
  | _, _, .ktup h r => RepL.closed hn r
  | _, _, .lst h f r => RepL.closed hn r
  | _, _, .dct h f r => RepD.closed hn r
  | _, _, .ref h => decide_eq_true (hn _ _ h)
  | _, _, .arg h f => rfl
  | _, _, .karg h => rfl
theorem RepL.closed (hn : ∀ i a, ι i = some a → i < n) : ∀ {ws : List Wv} {vs : List V}, RepL K H ι Y ws vs → closedL n ws = true
  | _, _, .nil => rfl
  | _, _, .cons (w := w) (ws := ws) r t => by show (closedW n w && closedL n ws) = true; rw [RepV.closed hn r, RepL.closed hn t]; rfl
theorem RepD.closed (hn : ∀ i a, ι i = some a → i < n) : ∀ {ws : List (Key × Wv)} {vs : List (Key × V)}, RepD K H ι Y ws vs → closedD n ws = true
  | _, _, .nil => rfl
  | _, _, .cons (w := w) (ws := ws) r t => by show (closedW n w && closedD n ws) = true; rw [RepV.closed hn r, RepD.closed hn t]; rfl
end
theorem RepF.closed (hn : ∀ i a, ι i = some a → i < n) : ∀ {ws : List (Str × Wv)} {vs : List (Str × V)}, RepF K H ι Y ws vs → closedF n ws = true
  | _, _, .nil => rfl
  | _, _, .cons (w := w) (ws := ws) r t => by show (closedW n w && closedF n ws) = true; rw [r.closed hn, RepF.closed hn t]; rfl
theorem Rel.closed {S : Sto} (R : Rel K G ι Y S H) : closedS S.length S = true := by
  refine List.all_eq_true.mpr fun o ho => ?_
  obtain ⟨i, hi⟩ := List.getElem?_of_mem ho
  obtain ⟨a, u, _, _, r⟩ := R.obj i o hi
  cases r with
  | lst r => exact r.closed R.lt
  | dct r => exact r.closed R.lt
  | ins h r => exact r.closed R.lt
  | lam h f => rfl
theorem Rel.cut {S : Sto} (R : Rel K G ι Y S H) (hn : n ≤ S.length) (c : closedS n (S.take n) = true) : Rel K G (cutI n ι) Y (S.take n) H where
  inj := fun i j a h1 h2 => R.inj i j a (cutI_lt h1).2 (cutI_lt h2).2
  lt := fun i a h => by rw [List.length_take, Nat.min_eq_left hn]; exact (cutI_lt h).1
  obj := fun i o e => by
    have hi : i < n := by
      have := (List.getElem?_eq_some_iff.mp e).1
      rw [List.length_take] at this
      omega
    rw [List.getElem?_take_of_lt hi] at e
    obtain ⟨a, ho, h1, h2, h3⟩ := R.obj i o e
    refine ⟨a, ho, by unfold cutI; rw [if_pos hi]; exact h1, h2, h3.cut (List.all_eq_true.mp c o ?_)⟩
    exact List.mem_of_getElem? (i := i) (by rw [List.getElem?_take_of_lt hi]; exact e)
  yt := R.yt
  ny := fun i a h => R.ny i a (cutI_lt h).2
  tabs := R.tabs
  gens := R.gens
theorem Evo.cut (e : Evo ι H ι' H') (hn : ∀ i a, ι i = some a → i < n) : Evo ι H (cutI n ι') H' where
  keep := e.keep
  ext := fun i a h => by unfold cutI; rw [if_pos (hn i a h)]; exact e.ext i a h
  new := fun i a h => e.new i a (cutI_lt h).2
  stay := e.stay
end
/-- a new list, a new dict that leaves as a tree -/
def frzW (n : Nat) (S : Sto) (w : Wv) : Wv := match w with
  | .ref i => if n ≤ i then (match S[i]? with
    | some (.lst ws) => .lst ws
    | some (.dct ws) => .dct ws
    | _ => w) else w
  | _ => w
/-- what a def has made and nobody holds is forgotten -/
def keepS (n : Nat) (S0 S : Sto) : Bool := closedS n (S.take n) || beqS (S.take n) S0
def cutR (S0 : Sto) (r : Res) : Res := match r with
  | .ok w S => if decide (S0.length ≤ S.length) && (keepS S0.length S0 S && closedW S0.length (frzW S0.length S w)) then .ok (frzW S0.length S w) (S.take S0.length) else .ok w S
  | .exc c S => if decide (S0.length ≤ S.length) && keepS S0.length S0 S then .exc c (S.take S0.length) else .exc c S
  | .bad => .bad
section
variable {K : PySem.W.Frag} {H H' : Hp} {ι ι' : Io} {Y : Addr → Prop} {G : Glob} {n : Nat} {S0 S : Sto}
theorem keepS_closed (R : Rel K G ι Y S0 H) (h : keepS S0.length S0 S = true) : closedS S0.length (S.take S0.length) = true := by
  unfold keepS at h
  rw [Bool.or_eq_true] at h
  rcases h with h | h
  · exact h
  · rw [beqS_eq h]; exact R.closed
theorem frzW_rep {w : Wv} {v : V} (R : Rel K G ι Y S H) (r : RepV K H ι Y w v) (c : closedW n (frzW n S w) = true) : RepV K H (cutI n ι) Y (frzW n S w) v := by
  by_cases hw : frzW n S w = w
  · rw [hw] at c ⊢; exact r.cut c
  · cases w with
    | ref i =>
      cases r with
      | @ref _ p hi =>
      by_cases h : n ≤ i
      · have fr : Free (cutI n ι) Y p := ⟨R.ny i p hi, fun j z => by
          obtain ⟨h1, h2⟩ := cutI_lt z
          have := R.inj j i p h2 hi
          omega⟩
        have key : frzW n S (.ref i) = (match S[i]? with | some (.lst ws) => .lst ws | some (.dct ws) => .dct ws | _ => .ref i) := by
          show (if n ≤ i then _ else _) = _
          rw [if_pos h] <;> rfl
        cases hS : S[i]? with
        | none => rw [key, hS] at hw; exact absurd rfl hw
        | some o =>
          obtain ⟨a, ho, h1, h2, h3⟩ := R.obj i o hS
          rw [hi] at h1
          cases h1
          cases h3 with
          | lst l =>
            rw [key, hS] at c ⊢
            exact .lst h2 fr (l.cut c)
          | dct l =>
            rw [key, hS] at c ⊢
            exact .dct h2 fr (l.cut c)
          | ins _ _ => rw [key, hS] at hw; exact absurd rfl hw
          | lam _ _ => rw [key, hS] at hw; exact absurd rfl hw
      · have key : frzW n S (.ref i) = .ref i := by
          show (if n ≤ i then _ else _) = _
          rw [if_neg h] <;> rfl
        exact absurd key hw
    | _ => exact absurd rfl hw
theorem Post.cut {r : Res} {Q : VK} {E : XK} (R : Rel K G ι Y S0 H) (h : Post K G Y ι H (cutR S0 r) Q E) : Post K G Y ι H r Q E := by
  cases r with
  | bad => exact h
  | ok w S =>
    have h : Post K G Y ι H (if decide (S0.length ≤ S.length) && (keepS S0.length S0 S && closedW S0.length (frzW S0.length S w)) then .ok (frzW S0.length S w) (S.take S0.length) else .ok w S) Q E := h
    by_cases c : (decide (S0.length ≤ S.length) && (keepS S0.length S0 S && closedW S0.length (frzW S0.length S w))) = true
    · rw [if_pos c] at h
      rw [Bool.and_eq_true, Bool.and_eq_true, decide_eq_true_eq] at c
      exact fun ι' H' v e R' r => h (cutI S0.length ι') H' v (e.cut R.lt) (R'.cut c.1 (keepS_closed R c.2.1)) (frzW_rep R' r c.2.2)
    · rw [if_neg c] at h
      exact h
  | exc x S =>
    have h : Post K G Y ι H (if decide (S0.length ≤ S.length) && keepS S0.length S0 S then .exc x (S.take S0.length) else .exc x S) Q E := h
    by_cases c : (decide (S0.length ≤ S.length) && keepS S0.length S0 S) = true
    · rw [if_pos c] at h
      rw [Bool.and_eq_true, decide_eq_true_eq] at c
      obtain ⟨C, hc, h⟩ := h
      exact ⟨C, hc, fun ι' H' e R' => h (cutI S0.length ι') H' (e.cut R.lt) (R'.cut c.1 (keepS_closed R c.2))⟩
    · rw [if_neg c] at h
      exact h
end

/-! ### what has just been made -/
section
variable {K : PySem.W.Frag} {H H' : Hp} {ι ι' : Io} {Y : Addr → Prop} {G : Glob} {n : Nat} {S : Sto} {p : Addr}
theorem Free.adopt {q : Addr} (f : Free ι (Dy.plus Y p) q) : Free (Dy.ext ι n p) Y q := by
  refine ⟨fun y => f.1 (.inl y), fun i z => ?_⟩
  unfold Dy.ext at z
  by_cases e : i = n
  · rw [if_pos e] at z; cases z; exact f.1 (.inr rfl)
  · rw [if_neg e] at z; exact f.2 i z
mutual
theorem RepV.adopt (hn : ∀ i a, ι i = some a → i < n) : ∀ {w : Wv} {v : V}, RepV K H ι (Dy.plus Y p) w v → RepV K H (Dy.ext ι n p) Y w v
  | _, _, .non => .non
  | _, _, .bl b => .bl b
  | _, _, .int i => .int i
  | _, _, .str s => .str s
  | _, _, .tup h f r => .tup h f.adopt (RepL.adopt hn r)
  | _, _, .ktup h r => .ktup h (RepL.adopt hn r)
  | _, _, .lst h f r => .lst h f.adopt (RepL.adopt hn r)
  | _, _, .dct h f r => .dct h f.adopt (RepD.adopt hn r)
  | _, _, .ref (i := i) h => .ref (by unfold Dy.ext; rw [if_neg (Nat.ne_of_lt (hn _ _ h))]; exact h)
  | _, _, .arg h f => .arg h f.adopt
  | _, _, .karg h => .karg h
theorem RepL.adopt (hn : ∀ i a, ι i = some a → i < n) : ∀ {ws : List Wv} {vs : List V}, RepL K H ι (Dy.plus Y p) ws vs → RepL K H (Dy.ext ι n p) Y ws vs
  | _, _, .nil => .nil
  | _, _, .cons r t => .cons (RepV.adopt hn r) (RepL.adopt hn t)
theorem RepD.adopt (hn : ∀ i a, ι i = some a → i < n) : ∀ {ws : List (Key × Wv)} {vs : List (Key × V)}, RepD K H ι (Dy.plus Y p) ws vs → RepD K H (Dy.ext ι n p) Y ws vs
  | _, _, .nil => .nil
  | _, _, .cons r t => .cons (RepV.adopt hn r) (RepD.adopt hn t)
end
theorem RepF.adopt (hn : ∀ i a, ι i = some a → i < n) : ∀ {ws : List (Str × Wv)} {vs : List (Str × V)}, RepF K H ι (Dy.plus Y p) ws vs → RepF K H (Dy.ext ι n p) Y ws vs
  | _, _, .nil => .nil
  | _, _, .cons r t => .cons (r.adopt hn) (RepF.adopt hn t)
theorem RepO.adopt (hn : ∀ i a, ι i = some a → i < n) {a : Addr} {o : SO} {ho : HO} (r : RepO K G H ι (Dy.plus Y p) a o ho) : RepO K G H (Dy.ext ι n p) Y a o ho := by
  cases r with
  | lst r => exact .lst (r.adopt hn)
  | dct r => exact .dct (r.adopt hn)
  | ins h r => exact .ins h (r.adopt hn)
  | lam h f => exact .lam h f.adopt
theorem Rel.adopt (R : Rel K G ι (Dy.plus Y p) S H) (ny : ¬ Y p) {so : SO} {ho : HO} (hp : H p = some ho) (r : RepO K G H ι (Dy.plus Y p) p so ho) : Rel K G (Dy.ext ι S.length p) Y (S ++ [so]) H where
  inj := fun i j a h1 h2 => by
    unfold Dy.ext at h1 h2
    by_cases e1 : i = S.length <;> by_cases e2 : j = S.length
    · rw [e1, e2]
    · rw [if_pos e1] at h1; rw [if_neg e2] at h2; cases h1; exact absurd (.inr rfl) (R.ny j _ h2)
    · rw [if_neg e1] at h1; rw [if_pos e2] at h2; cases h2; exact absurd (.inr rfl) (R.ny i _ h1)
    · rw [if_neg e1] at h1; rw [if_neg e2] at h2; exact R.inj i j a h1 h2
  lt := fun i a h => by
    unfold Dy.ext at h
    rw [List.length_append]
    by_cases e : i = S.length
    · rw [e]; exact Nat.lt_succ_self _
    · rw [if_neg e] at h; exact Nat.lt_succ_of_lt (R.lt i a h)
  obj := fun i u e => by
    by_cases hi : i < S.length
    · rw [List.getElem?_append_left hi] at e
      obtain ⟨a, o, h1, h2, h3⟩ := R.obj i u e
      exact ⟨a, o, by unfold Dy.ext; rw [if_neg (Nat.ne_of_lt hi)]; exact h1, h2, h3.adopt R.lt⟩
    · have hl : i < (S ++ [so]).length := (List.getElem?_eq_some_iff.mp e).1
      rw [List.length_append] at hl
      have e1 : i = S.length := by simp at hl; omega
      subst e1
      have e2 : so = u := by simpa using e
      subst e2
      exact ⟨p, ho, by unfold Dy.ext; rw [if_pos rfl], hp, r.adopt R.lt⟩
  yt := fun a h => R.yt a (.inl h)
  ny := fun i a h y => by
    unfold Dy.ext at h
    by_cases e : i = S.length
    · rw [if_pos e] at h; cases h; exact ny y
    · rw [if_neg e] at h; exact R.ny i a h (.inl y)
  tabs := R.tabs
  gens := R.gens
theorem Evo.adopt (e : Evo ι H ι' H') (hn : ∀ i a, ι' i = some a → i < n) (hp : H p = none) : Evo ι H (Dy.ext ι' n p) H' where
  keep := e.keep
  ext := fun i a h => by
    have h' := e.ext i a h
    unfold Dy.ext; rw [if_neg (Nat.ne_of_lt (hn _ _ h'))]; exact h'
  new := fun i a h => by
    unfold Dy.ext at h
    by_cases z : i = n
    · rw [if_pos z] at h; cases h; exact .inr hp
    · rw [if_neg z] at h; exact e.new i a h
  stay := e.stay
end
/-- what stands at p, new -/
def NewAt (K : PySem.W.Frag) (H : Hp) (ι : Io) (Y : Addr → Prop) (w : Wv) (p : Addr) : Prop := match w with
  | .lst ws => ∃ vs, H p = some (.lst vs) ∧ RepL K H ι Y ws vs
  | .dct ws => ∃ vs, H p = some (.dK vs) ∧ RepD K H ι Y ws vs
  | _ => False
/-- the result of a form that makes a list or a dict -/
def PostN (K : PySem.W.Frag) (G : Glob) (Y : Addr → Prop) (ι : Io) (H : Hp) (r : Res) (Q : VK) (E : XK) : Prop := match r with
  | .ok w S => ∀ ι' H' p, Evo ι H ι' H' → H p = none → ¬ Y p → Rel K G ι' (Dy.plus Y p) S H' → NewAt K H' ι' (Dy.plus Y p) w p → Q (.ref p) H'
  | .exc c S => ∃ C, G.cls c = some C ∧ ∀ ι' H', Evo ι H ι' H' → Rel K G ι' Y S H' → E (.ref C) none H'
  | .bad => False
/-- made as an object with identity -/
def objK (w : Wv) (S : Sto) : Res := match w with
  | .lst ws => .ok (.ref S.length) (S ++ [.lst ws])
  | .dct ws => .ok (.ref S.length) (S ++ [.dct ws])
  | _ => .bad
section
variable {K : PySem.W.Frag} {G : Glob} {Y : Addr → Prop} {ι ι' : Io} {H H' : Hp} {r : Res} {Q : VK} {E : XK}
theorem PostN.evo (h : PostN K G Y ι H r Q E) (e : Evo ι H ι' H') : PostN K G Y ι' H' r Q E := by
  cases r with
  | ok w S => exact fun ι2 H2 p e2 hp ny R nw => h ι2 H2 p (e.trans e2) (by
      cases z : H p with
      | none => rfl
      | some o => exact absurd hp (e.stay p (by rw [z]; simp))) ny R nw
  | exc c S =>
    obtain ⟨C, hc, h⟩ := h
    exact ⟨C, hc, fun ι2 H2 e2 R => h ι2 H2 (e.trans e2) R⟩
  | bad => exact h
theorem newAt_rep {w : Wv} {p : Addr} {S : Sto} (R : Rel K G ι (Dy.plus Y p) S H) (ny : ¬ Y p) (h : NewAt K H ι (Dy.plus Y p) w p) : RepV K H ι Y w (.ref p) := by
  have fr : Free ι Y p := ⟨ny, fun i z => R.ny i p z (.inr rfl)⟩
  cases w with
  | lst ws =>
    obtain ⟨vs, h1, h2⟩ := h
    exact .lst h1 fr (h2.less plus_less)
  | dct ws =>
    obtain ⟨vs, h1, h2⟩ := h
    exact .dct h1 fr (h2.less plus_less)
  | _ => exact h.elim
theorem Post.toN (h : Post K G Y ι H r Q E) : PostN K G Y ι H r Q E := by
  cases r with
  | ok w S => exact fun ι' H' p e hp ny R nw => h ι' H' (.ref p) e (R.less plus_less) (newAt_rep R ny nw)
  | exc c S => exact h
  | bad => exact h
theorem Post.objN (h : Post K G Y ι H (r.bind objK) Q E) : PostN K G Y ι H r Q E := by
  cases r with
  | ok w S =>
    intro ι' H' p e hp ny R nw
    cases w with
    | lst ws =>
      obtain ⟨vs, h1, h2⟩ := nw
      exact h (ext ι' S.length p) H' (.ref p) (e.adopt R.lt hp) (R.adopt ny h1 (.lst h2)) (.ref (by unfold Dy.ext; rw [if_pos rfl]))
    | dct ws =>
      obtain ⟨vs, h1, h2⟩ := nw
      exact h (ext ι' S.length p) H' (.ref p) (e.adopt R.lt hp) (R.adopt ny h1 (.dct h2)) (.ref (by unfold Dy.ext; rw [if_pos rfl]))
    | _ => exact nw.elim
  | exc c S => exact h
  | bad => exact h
theorem PostN.mono {Q' : VK} {E' : XK} (h : PostN K G Y ι H r Q E) (hq : ∀ v H', Q v H' → Q' v H') (he : ∀ c d H', E c d H' → E' c d H') : PostN K G Y ι H r Q' E' := by
  cases r with
  | ok w S => exact fun ι2 H2 p e2 hp ny R nw => hq _ _ (h ι2 H2 p e2 hp ny R nw)
  | exc c S =>
    obtain ⟨C, hc, h⟩ := h
    exact ⟨C, hc, fun ι2 H2 e2 R => he _ _ _ (h ι2 H2 e2 R)⟩
  | bad => exact h
theorem PostN.bind {k : Wv → Sto → Res} (h : PostN K G Y ι H (r.bind k) Q E) : Post K G Y ι H r (fun v H' => ∃ ι' w S', Evo ι H ι' H' ∧ Rel K G ι' Y S' H' ∧ RepV K H' ι' Y w v ∧ PostN K G Y ι' H' (k w S') Q E) E := by
  cases r with
  | ok w S => exact fun ι' H' v e R r => ⟨ι', w, S, e, R, r, PostN.evo h e⟩
  | exc c S => exact h
  | bad => exact h
/-- a new list, a new dict -/
theorem PostN.newL {S : Sto} {ws : List Wv} {vs : List V} (p : PostN K G Y ι H (.ok (.lst ws) S) Q E) (R : Rel K G ι Y S H) (r : RepL K H ι Y ws vs) : ∀ q, H q = none → Q (.ref q) (upd H q (.lst vs)) := fun q n =>
  p ι _ q (evo_new ι n) n (fun y => R.yn y n) (R.plus n trivial) ⟨vs, upd_same, (r.plus n).evo (evo_new ι n)⟩
theorem PostN.newD {S : Sto} {ws : List (Key × Wv)} {vs : List (Key × V)} (p : PostN K G Y ι H (.ok (.dct ws) S) Q E) (R : Rel K G ι Y S H) (r : RepD K H ι Y ws vs) : ∀ q, H q = none → Q (.ref q) (upd H q (.dK vs)) := fun q n =>
  p ι _ q (evo_new ι n) n (fun y => R.yn y n) (R.plus n trivial) ⟨vs, upd_same, (r.plus n).evo (evo_new ι n)⟩
end
end Dy

end
section
set_option Elab.async false
set_option linter.all false
set_option maxRecDepth 100000
/-! Dy, part B: the small language and its evaluator. -/
namespace Dy
open PySem L2

/-! ### operations on values -/
mutual
def toD : Wv → Option PyData
  | .non => some .none
  | .bl b => some (.bool b)
  | .int i => some (.int i)
  | .str s => some (.str s)
  | .tup xs => (toDs xs).map .tuple
  | .lst xs => (toDs xs).map .list
  | .dct _ => none
  | .ref _ => none
  | .arg _ => none
def toDs : List Wv → Option (List PyData)
  | [] => some []
  | x :: xs => match toD x, toDs xs with
    | some d, some ds => some (d :: ds)
    | _, _ => none
end
inductive Bop where | add | sub | mul | fdiv | mod | pow
inductive Cop where | eq | ne | lt | le | gt | ge | isN | notN | isin | notin
/-- the object that a value names, read -/
def rd (S : Sto) : Wv → Wv
  | .ref i => match S[i]? with
    | some (.lst ws) => .lst ws
    | some (.dct ws) => .dct ws
    | _ => .ref i
  | w => w
def cutW (xs : List Wv) (lo hi : Option Int) : List Wv := (xs.drop (HT.sIx xs.length 0 lo)).take (HT.sIx xs.length xs.length hi - HT.sIx xs.length 0 lo)
instance (i j : Int) : Decidable (CMul i j) := inferInstanceAs (Decidable ((_ ∧ _) ∨ (_ ∧ _)))
instance (i j : Int) : Decidable (CDivN i j) := inferInstanceAs (Decidable (_ ∧ _))
instance (i j : Int) : Decidable (CPow i j) := inferInstanceAs (Decidable (_ ∧ _ ∧ _))
def strRepW (x : Str) (n : Int) : Str := if n < 1 then Str.empty else if (n == 1 || x.length == 0) = true then x else ⟨(List.replicate n.toNat x.cps).foldl (· ++ ·) #[]⟩
def keyV : Key → Wv
  | .inl i => .int i
  | .inr s => .str s
def binW : Bop → Wv → Wv → Sto → Res
  | .add, .int i, .int j, S => .ok (.int (i + j)) S
  | .add, .str a, .str b, S => if a.length + b.length ≤ sizeLine then .ok (.str (a ++ b)) S else .bad
  | .add, .lst a, .lst b, S => if a.length + b.length ≤ sizeLine then .ok (.lst (a ++ b)) S else .bad
  | .add, .ref i, .lst b, S => match S[i]? with
    | some (.lst a) => if a.length + b.length ≤ sizeLine then .ok (.lst (a ++ b)) S else .bad
    | _ => .bad
  | .add, .tup a, .tup b, S => if a.length + b.length ≤ sizeLine then .ok (.tup (a ++ b)) S else .bad
  | .sub, .int i, .int j, S => .ok (.int (i - j)) S
  | .mul, .int i, .int j, S => if CMul i j then .ok (.int (i * j)) S else .bad
  | .mul, .lst xs, .int n, S => if -(2 ^ 62) ≤ n ∧ n < 2 ^ 62 ∧ xs.length * n.toNat ≤ sizeLine then .ok (.lst (List.replicate n.toNat xs).flatten) S else .bad
  | .mul, .str x, .int n, S => if -(2 ^ 62) ≤ n ∧ n < 2 ^ 62 ∧ x.length * n.toNat ≤ 100000 ∧ (strRepW x n).length ≤ sizeLine then .ok (.str (strRepW x n)) S else .bad
  | .fdiv, .int i, .int j, S => if CDivN i j then .ok (.int (i.fdiv j)) S else .bad
  | .mod, .int i, .int j, S => if j ≠ 0 then .ok (.int (i.fmod j)) S else .bad
  | .pow, .int i, .int j, S => if CPow i j then .ok (.int (i ^ j.toNat)) S else .bad
  | _, _, _, _ => .bad
def eqD (a b : Wv) : Option Bool := match toD a, toD b with
  | some d, some e => if d.depth ≤ 64 ∧ e.depth ≤ 64 then some (PyData.eqv d e) else none
  | _, _ => none
def flatW : Wv → Bool
  | .non => true
  | .bl _ => true
  | .int _ => true
  | .str _ => true
  | _ => false
def eqW : Wv → Wv → Bool
  | .non, .non => true
  | .bl a, .bl b => a == b
  | .bl a, .int b => (if a then 1 else 0) == b
  | .int a, .bl b => a == (if b then 1 else 0)
  | .int a, .int b => a == b
  | .str a, .str b => a == b
  | _, _ => false
def inW (x : Wv) (xs : List Wv) : Bool := xs.any fun y => eqW y x
def keyW : Wv → Option Key
  | .int i => some (.inl i)
  | .str s => some (.inr s)
  | _ => none
def valW (kvs : List (Key × Wv)) (k : Key) : Option Wv := (kvs.find? fun p => decide (p.1 = k)).map (·.2)
/-- in, by data -/
def memD (x : Wv) (ys : List Wv) : Option Bool := match toD x, toDs ys with
  | some d, some ds => if d.depth ≤ 60 then some (ds.any fun y => PyData.eqv y d) else none
  | _, _ => none
/-- is x in y -/
def memW (x y : Wv) : Option Bool := match y with
  | .lst ys => if flatW x = true ∧ ys.all flatW = true then some (inW x ys) else memD x ys
  | .tup ys => if flatW x = true ∧ ys.all flatW = true then some (inW x ys) else memD x ys
  | .str z => match x with
    | .str a => some (!(Builtin.Str.occurrences z a 0 z.length 1).isEmpty)
    | _ => none
  | .dct kvs => match keyW x with
    | some k => some (valW kvs k).isSome
    | none => none
  | _ => none
def ofB (o : Option Bool) (neg : Bool) (S : Sto) : Res := match o with
  | some b => .ok (.bl (if neg then !b else b)) S
  | none => .bad
def cmpW : Cop → Wv → Wv → Sto → Res
  | .lt, .int i, .int j, S => .ok (.bl (decide (i < j))) S
  | .le, .int i, .int j, S => .ok (.bl (decide (i ≤ j))) S
  | .gt, .int i, .int j, S => .ok (.bl (decide (j < i))) S
  | .ge, .int i, .int j, S => .ok (.bl (decide (j ≤ i))) S
  | .eq, a, b, S => ofB (eqD (rd S a) (rd S b)) false S
  | .ne, a, b, S => ofB (eqD (rd S a) (rd S b)) true S
  | .isin, a, b, S => ofB (memW a (rd S b)) false S
  | .notin, a, b, S => ofB (memW a (rd S b)) true S
  | _, _, _, _ => .bad
def isNonW : Wv → Bool
  | .non => true
  | _ => false
def idxW (a b : Wv) (S : Sto) : Res := match rd S a, b with
  | .dct kvs, w => match keyW w with
    | some k => match valW kvs k with
      | some v => .ok v S
      | none => .bad
    | none => .bad
  | .lst xs, .int i => match atI xs i with
    | some w => .ok w S
    | none => .bad
  | .tup xs, .int i => match atI xs i with
    | some w => .ok w S
    | none => .bad
  | .str z, .int i => if z.length ≤ sizeLine then match atI z.cps.toList i with
    | some c => .ok (.str ⟨#[c]⟩) S
    | none => .bad else .bad
  | _, _ => .bad
def bndW : Wv → Option (Option Int)
  | .non => some none
  | .int i => some (some i)
  | _ => none
def slW (a lo hi : Wv) (S : Sto) : Res := match bndW lo, bndW hi with
  | some l, some h => match rd S a with
    | .lst xs => .ok (.lst (cutW xs l h)) S
    | .arg ns => .ok (.lst (cutW (ns.map .int) l h)) S
    | .tup xs => .ok (.tup (cutW xs l h)) S
    | .str z => if z.length ≤ sizeLine then .ok (.str (cutS z l h)) S else .bad
    | _ => .bad
  | _, _ => .bad
inductive BI where | len | str | int | abs | min2 | max2 | sum | tup1 | min1 | max1
/-- a list, a dict that is made of what is given -/
inductive BN where | lst1 | srt | dct1
def intsW : List Wv → Option (List Int)
  | [] => some []
  | .int i :: r => (intsW r).map (i :: ·)
  | _ => none
def strsW : List Wv → Option (List Str)
  | [] => some []
  | .str i :: r => (strsW r).map (i :: ·)
  | _ => none
/-- data that may be sorted: all alike -/
def alikeB (ds : List PyData) : Bool := ds.all fun d => ds.all fun e => PySem.W.alike d e
def isTupC : PyData → Bool
  | .tuple (_ :: _) => true
  | _ => false
def isTupD : PyData → Bool
  | .tuple _ => true
  | _ => false
def isNonD : PyData → Bool
  | .none => true
  | _ => false
def sortB (ds : List PyData) : Bool := alikeB ds && ((ds.all isTupC || ds.all fun d => !isTupD d && !isNonD d) && ds.all fun d => decide (d.depth ≤ 60))
def insP (x : Wv × PyData) : List (Wv × PyData) → List (Wv × PyData)
  | [] => [x]
  | y :: ys => if PySem.W.dataLt y.2 x.2 then y :: insP x ys else x :: y :: ys
def isortP : List (Wv × PyData) → List (Wv × PyData)
  | [] => []
  | x :: xs => insP x (isortP xs)
def sortW (xs : List Wv) (S : Sto) : Res := match toDs xs with
  | some ds => if sortB ds then .ok (.lst ((isortP (xs.zip ds)).map (·.1))) S else .bad
  | none => .bad
/-- the first least, the first greatest -/
def bestP (lt : PyData → PyData → Bool) (x : Wv × PyData) (xs : List (Wv × PyData)) : Wv × PyData := xs.foldl (fun a y => if lt y.2 a.2 then y else a) x
def bestW (lt : PyData → PyData → Bool) (xs : List Wv) (S : Sto) : Res := match toDs xs with
  | some ds => if alikeB ds && (!(ds.any isNonD) && decide (PyData.depthAll ds ≤ 60)) then (match xs.zip ds with
    | p :: ps => .ok (bestP lt p ps).1 S
    | [] => .bad) else .bad
  | none => .bad
def putW (kvs : List (Key × Wv)) (k : Key) (w : Wv) : List (Key × Wv) :=
  if (kvs.any fun kv => decide (kv.1 = k)) = true then kvs.map (fun kv => if kv.1 = k then (kv.1, w) else kv) else kvs ++ [(k, w)]
def mergeW (kvs more : List (Key × Wv)) : List (Key × Wv) := more.foldl (fun acc kv => putW acc kv.1 kv.2) kvs
def pairsW : List Wv → Option (List (Key × Wv))
  | [] => some []
  | .tup [a, b] :: r => match keyW a, pairsW r with
    | some k, some kvs => some ((k, b) :: kvs)
    | _, _ => none
  | _ => none
def bnW : BN → List Wv → Sto → Res
  | .lst1, [a], S => match rd S a with
    | .lst xs => .ok (.lst xs) S
    | .tup xs => .ok (.lst xs) S
    | .dct kvs => .ok (.lst (kvs.map fun kv => keyV kv.1)) S
    | _ => .bad
  | .srt, [a], S => match rd S a with
    | .lst xs => sortW xs S
    | .dct kvs => sortW (kvs.map fun kv => keyV kv.1) S
    | _ => .bad
  | .dct1, [a], S => match rd S a with
    | .lst xs => match pairsW xs with
      | some kvs => if xs.length ≤ sizeLine then .ok (.dct (mergeW [] kvs)) S else .bad
      | none => .bad
    | _ => .bad
  | _, _, _ => .bad
def biW : BI → List Wv → Sto → Res
  | .len, [a], S => match rd S a with
    | .lst xs => .ok (.int xs.length) S
    | .tup xs => .ok (.int xs.length) S
    | .str z => if z.length ≤ sizeLine then .ok (.int z.length) S else .bad
    | _ => .bad
  | .str, [.int i], S => if i.natAbs.log2 < 1920 then .ok (.str (Str.ofString (toString i))) S else .bad
  | .int, [.int i], S => .ok (.int i) S
  | .int, [.bl b], S => .ok (.int (if b then 1 else 0)) S
  | .int, [.str a], S => match PySem.intText? a with
    | some n => if a.length ≤ 640 then .ok (.int n) S else .bad
    | none => .bad
  | .abs, [.int i], S => .ok (.int (if i < 0 then -i else i)) S
  | .min2, [.int i, .int j], S => .ok (.int (if j < i then j else i)) S
  | .max2, [.int i, .int j], S => .ok (.int (if j > i then j else i)) S
  | .tup1, [a], S => match rd S a with
    | .lst xs => .ok (.tup xs) S
    | .tup xs => .ok (.tup xs) S
    | _ => .bad
  | .min1, [a], S => match rd S a with
    | .lst xs => bestW PySem.W.dataLt xs S
    | .tup xs => bestW PySem.W.dataLt xs S
    | _ => .bad
  | .max1, [a], S => match rd S a with
    | .lst xs => bestW (fun x y => PySem.W.dataLt y x) xs S
    | .tup xs => bestW (fun x y => PySem.W.dataLt y x) xs S
    | _ => .bad
  | .sum, [.lst xs], S => match intsW xs with
    | some ns => .ok (.int ns.sum) S
    | none => .bad
  | _, _, _ => .bad
inductive MI where | split | partition | join
  deriving DecidableEq
def miW : MI → Wv → List Wv → Sto → Res
  | .split, .str a, [.str b], S => if (b.length == 0) = false ∧ a.length + 2 ≤ sizeLine then .ok (.lst ((Txt.split a b).map .str)) S else .bad
  | .partition, .str a, [.str b], S => if (b.length == 0) = false ∧ a.length ≤ sizeLine then .ok (.tup [.str (Txt.partition a b).1, .str (Txt.partition a b).2.1, .str (Txt.partition a b).2.2]) S else .bad
  | .join, .str a, [b], S => match rd S b with
    | .lst xs => match strsW xs with
      | some ys => if (ys.map Str.length).sum + ys.length * a.length ≤ 16777216 then .ok (.str (Txt.join a ys)) S else .bad
      | none => .bad
    | _ => .bad
  | _, _, _, _ => .bad

/-- methods of lists and dicts -/
inductive MT where | app | updD | idxL
  deriving DecidableEq
def findW (w : Wv) : List Wv → Nat → Option Nat
  | [], _ => none
  | y :: ys, n => if eqW y w then some n else findW w ys (n + 1)
def isRefW (i : Nat) : Wv → Bool
  | .ref j => decide (i = j)
  | _ => false
def mtW : MT → Wv → List Wv → Sto → Res
  | .app, .ref i, [w], S => match S[i]? with
    | some (.lst xs) => if xs.length < sizeLine then .ok .non (S.set i (.lst (xs ++ [w]))) else .bad
    | _ => .bad
  | .updD, .ref i, [w], S => match S[i]?, rd S w with
    | some (.dct ks), .dct ls => if ks.length + ls.length ≤ sizeLine ∧ isRefW i w = false then .ok .non (S.set i (.dct (mergeW ks ls))) else .bad
    | _, _ => .bad
  | .idxL, x, [w], S => match rd S x with
    | .lst ys => if flatW w = true ∧ ys.all flatW = true then (match findW w ys 0 with
      | some j => .ok (.int j) S
      | none => .bad) else .bad
    | _ => .bad
  | _, _, _, _ => .bad
/-- the receiver is of the method's class -/
def isMtW : MT → Wv → Sto → Bool
  | .app, x, S => match rd S x with
    | .lst _ => true
    | _ => false
  | .updD, x, S => match rd S x with
    | .dct _ => true
    | _ => false
  | .idxL, x, S => match rd S x with
    | .lst _ => true
    | _ => false
/-! ### the language -/
/-- constants of a module -/
inductive Cst where
  | int (i : Int) | str (s : Str) | ints (l : List Int) | strs (l : List Str)
  deriving DecidableEq
def Cst.w : Cst → Wv
  | .int i => .int i
  | .str s => .str s
  | .ints l => .tup (l.map .int)
  | .strs l => .tup (l.map .str)
/-- targets -/
inductive Tg where
  | nm (i : Nat) | tup (ts : Tg) | nil | cons (t ts : Tg)
/-- what takes a generator expression -/
inductive GU where | tup | sum | any | all
  deriving DecidableEq
inductive GN where | lst | srt
  deriving DecidableEq
inductive E where
  | var (i : Nat) | lit (w : Wv) | glob (x : Str) (c : Cst)
  | bin (o : Bop) (a b : E) | neg (a : E)
  | isN (a : E) | notN (a : E) | cmp (o : Cop) (a b : E) | chain (o o' : Cop) (a b c : E)
  | and (a b : E) | or (a b : E) | not (a : E) | ite (c a b : E)
  | tup (es : E) | lst (es : E) | new (es : E) | nil | cons (e es : E)
  | idx (a b : E) | sl (a lo hi : E)
  | call (f : Str) (es : E) | bi (b : BI) (es : E) | mi (m : MI) (a es : E)
  | rng1 (a : E) | rng2 (a b : E) | rng3 (a b c : E) | enum (a : E)
  | obj (e : E) | dd (es : E) | bn (b : BN) (es : E) | mt (m : MT) (a es : E)
  | gx (u : GU) (g : Tg) (it c e : E) (own : List (Str × Nat)) | gn (u : GN) (g : Tg) (it c e : E) (own : List (Str × Nat))
  | lc (g : Tg) (it c e : E) (own : List (Str × Nat)) | dc (g : Tg) (it c k e : E) (own : List (Str × Nat))
  | fmt (e : E) | fs (es : E) | anyOut (e : E) (z : Str) (x : Str)
  | told (f : Str) (x : Str) (e : E) | lam (k : Nat) | toldV (f : Str) (x : Str) (e : E)
mutual
def asg : Tg → Wv → Sl → Option Sl
  | .nm i, w, σ => some (σ.set i (some w))
  | .tup ts, .tup ws, σ => asgs ts ws σ
  | _, _, _ => none
def asgs : Tg → List Wv → Sl → Option Sl
  | .nil, [], σ => some σ
  | .cons t ts, w :: ws, σ => (asg t w σ).bind fun σ' => asgs ts ws σ'
  | _, _, _ => none
end
def lcLoop (f : Wv → Sto → Res) : List Wv → List Wv → Sto → Res
  | [], acc, S => .ok (.lst acc) S
  | x :: xs, acc, S => match f x S with
    | .ok (.lst ys) S' => lcLoop f xs (acc ++ ys) S'
    | _ => .bad
/-- what is walked: the items -/
def itW (w : Wv) : Option (List Wv) := match w with
  | .lst xs => if xs.length ≤ sizeLine then some xs else none
  | .tup xs => if xs.length ≤ sizeLine then some xs else none
  | _ => none
def itK (x : Wv) (S : Sto) : Res := match itW x with
  | some items => .ok (.lst items) S
  | none => .bad
def dcLoop (f : Wv → Sto → Res) : List Wv → List (Key × Wv) → Sto → Res
  | [], acc, S => .ok (.dct acc) S
  | x :: xs, acc, S => match f x S with
    | .ok (.lst [k, w]) S' => match keyW k with
      | some k => dcLoop f xs (putW acc k w) S'
      | none => .bad
    | .ok (.lst []) S' => dcLoop f xs acc S'
    | _ => .bad
def rng1W (x : Wv) (S : Sto) : Res := match x with
  | .int j => if -(2 ^ 62) ≤ j ∧ j < 2 ^ 62 then .ok (.lst ((List.range j.toNat).map fun i => .int (0 + (i : Nat)))) S else .bad
  | _ => .bad
def rng2W (x y : Wv) (S : Sto) : Res := match x, y with
  | .int i, .int j => if -(2 ^ 62) ≤ i ∧ i < 2 ^ 62 ∧ -(2 ^ 62) ≤ j ∧ j < 2 ^ 62 then .ok (.lst ((List.range (j - i).toNat).map fun k => .int (i + (k : Nat)))) S else .bad
  | _, _ => .bad
def rng3W (x y z : Wv) (S : Sto) : Res := match x, y, z with
  | .int i, .int j, .int c => if c ≠ 0 ∧ c.natAbs < 1073741824 ∧ Builtin.Range.small i j c = true ∧ 0 ≤ Builtin.Range.rangeSize i j c then .ok (.lst ((List.range (Builtin.Range.rangeSize i j c).toNat).map fun k => .int (i + (k : Nat) * c))) S else .bad
  | _, _, _ => .bad
def enumL : List Wv → Nat → List Wv
  | [], _ => []
  | x :: xs, n => .tup [.int n, x] :: enumL xs (n + 1)
def enumW (x : Wv) (S : Sto) : Res := match x with
  | .lst xs => .ok (.lst (enumL xs 0)) S
  | .tup xs => .ok (.lst (enumL xs 0)) S
  | _ => .bad
/-- pairs of a display -/
def dispW : List Wv → Option (List (Key × Wv))
  | [] => some []
  | a :: b :: r => match keyW a, dispW r with
    | some k, some kvs => some ((k, b) :: kvs)
    | _, _ => none
  | _ => none
/-- any, all of a generator expression: b stops -/
def anyLoop (b : Bool) (f : Wv → Sto → Res) : List Wv → Sto → Res
  | [], S => .ok (.bl (!b)) S
  | x :: xs, S => match f x S with
    | .ok (.lst []) S' => anyLoop b f xs S'
    | .ok (.lst [.bl r]) S' => if r = b then .ok (.bl b) S' else anyLoop b f xs S'
    | _ => .bad
def gxK (u : GU) (f : Wv → Sto → Res) (items : List Wv) (S : Sto) : Res := match u with
  | .tup => (lcLoop f items [] S).bind fun w S => match w with
    | .lst ys => .ok (.tup ys) S
    | _ => .bad
  | .sum => (lcLoop f items [] S).bind fun w S => match w with
    | .lst ys => match intsW ys with
      | some ns => .ok (.int ns.sum) S
      | none => .bad
    | _ => .bad
  | .any => anyLoop true f items S
  | .all => anyLoop false f items S
def gnK (u : GN) (f : Wv → Sto → Res) (items : List Wv) (S : Sto) : Res := match u with
  | .lst => lcLoop f items [] S
  | .srt => (lcLoop f items [] S).bind fun w S => match w with
    | .lst ys => sortW ys S
    | _ => .bad
/-- a part of an f-string -/
def fmtW : Wv → Option Str
  | .str y => if y.length ≤ sizeLine then some y else none
  | .int i => if i.natAbs.log2 < 1920 then some (Str.ofString (toString i)) else none
  | _ => none
def joinF : List Wv → Str → Option Str
  | [], acc => some acc
  | .str y :: ws, acc => if (acc ++ y).length ≤ sizeLine then joinF ws (acc ++ y) else none
  | _, _ => none
/-- slots forgotten -/
def wipeW (σ : Sl) : List Nat → Sl
  | [] => σ
  | v :: vs => (wipeW σ vs).set v none
def toldW (x : Str) (r : Res) : Res := match r with
  | .ok w S => .ok w S
  | .exc c S => if c = x then .ok (.str x) S else .bad
  | .bad => .bad
def isStr : Wv → Bool
  | .str _ => true
  | _ => false
/-- a slice's bound -/
def noB : E → Bool
  | .lit .non => true
  | _ => false
def intO (b : Bool) (w : Wv) (S : Sto) : Res := if b then .ok .non S else match w with
  | .int i => .ok (.int i) S
  | _ => .bad
def lamName (k : Nat) : Str := ⟨#[60, k]⟩
abbrev Clr := Str → List Wv → Sto → Res
def andK (w : Wv) (r : Res) (S : Sto) : Res := match w with
  | .bl true => r
  | .bl false => .ok (.bl false) S
  | _ => .bad
def orK (w : Wv) (r : Res) (S : Sto) : Res := match w with
  | .bl false => r
  | .bl true => .ok (.bl true) S
  | _ => .bad
def iteK (w : Wv) (a b : Res) : Res := match w with
  | .bl true => a
  | .bl false => b
  | _ => .bad
def ev (cl : Clr) : E → Sl → Sto → Res
  | .var i, σ, S => match σ[i]? with
    | some (some w) => .ok w S
    | _ => .bad
  | .lit w, _, S => .ok w S
  | .glob _ c, _, S => .ok c.w S
  | .bin o a b, σ, S => (ev cl a σ S).bind fun x S => (ev cl b σ S).bind fun y S => binW o x y S
  | .neg a, σ, S => (ev cl a σ S).bind fun x S => match x with
    | .int i => .ok (.int (-i)) S
    | _ => .bad
  | .isN a, σ, S => (ev cl a σ S).bind fun x S => .ok (.bl (isNonW x)) S
  | .notN a, σ, S => (ev cl a σ S).bind fun x S => .ok (.bl (!isNonW x)) S
  | .cmp o a b, σ, S => (ev cl a σ S).bind fun x S => (ev cl b σ S).bind fun y S => cmpW o x y S
  | .chain o o' a b c, σ, S => (ev cl a σ S).bind fun x S => (ev cl b σ S).bind fun y S => (cmpW o x y S).bind fun t S => andK t ((ev cl c σ S).bind fun z S => cmpW o' y z S) S
  | .and a b, σ, S => (ev cl a σ S).bind fun t S => andK t (ev cl b σ S) S
  | .or a b, σ, S => (ev cl a σ S).bind fun t S => orK t (ev cl b σ S) S
  | .not a, σ, S => (ev cl a σ S).bind fun x S => match x with
    | .bl c => .ok (.bl (!c)) S
    | _ => .bad
  | .ite c a b, σ, S => (ev cl c σ S).bind fun t S => iteK t (ev cl a σ S) (ev cl b σ S)
  | .tup es, σ, S => (ev cl es σ S).bind fun x S => match x with
    | .tup ws => if ws.length ≤ sizeLine then .ok (.tup ws) S else .bad
    | _ => .bad
  | .lst es, σ, S => (ev cl es σ S).bind fun x S => match x with
    | .tup ws => if ws.length ≤ sizeLine then .ok (.lst ws) S else .bad
    | _ => .bad
  | .new es, σ, S => (ev cl es σ S).bind fun x S => match x with
    | .tup ws => if ws.length ≤ sizeLine then .ok (.ref S.length) (S ++ [.lst ws]) else .bad
    | _ => .bad
  | .nil, _, S => .ok (.tup []) S
  | .cons e es, σ, S => (ev cl e σ S).bind fun x S => (ev cl es σ S).bind fun y S => match y with
    | .tup ws => .ok (.tup (x :: ws)) S
    | _ => .bad
  | .idx a b, σ, S => (ev cl a σ S).bind fun x S => (ev cl b σ S).bind fun y S => idxW x y S
  | .sl a lo hi, σ, S => (ev cl a σ S).bind fun x S => ((ev cl lo σ S).bind (intO (noB lo))).bind fun l S => ((ev cl hi σ S).bind (intO (noB hi))).bind fun h S => slW x l h S
  | .call f es, σ, S => (ev cl es σ S).bind fun x S => match x with
    | .tup ws => cl f ws S
    | _ => .bad
  | .bi b es, σ, S => (ev cl es σ S).bind fun x S => match x with
    | .tup ws => biW b ws S
    | _ => .bad
  | .mi m a es, σ, S => (ev cl a σ S).bind fun x S => if isStr x = true then (ev cl es σ S).bind fun y S => match y with
    | .tup ws => miW m x ws S
    | _ => .bad
    else .bad
  | .rng1 a, σ, S => (ev cl a σ S).bind rng1W
  | .rng2 a b, σ, S => (ev cl a σ S).bind fun x S => (ev cl b σ S).bind fun y S => rng2W x y S
  | .rng3 a b c, σ, S => (ev cl a σ S).bind fun x S => (ev cl b σ S).bind fun y S => (ev cl c σ S).bind fun z S => rng3W x y z S
  | .enum a, σ, S => (ev cl a σ S).bind enumW
  | .obj e, σ, S => (ev cl e σ S).bind objK
  | .dd es, σ, S => (ev cl es σ S).bind fun x S => match x with
    | .tup ws => match dispW ws with
      | some kvs => .ok (.dct (mergeW [] kvs)) S
      | none => .bad
    | _ => .bad
  | .bn b es, σ, S => (ev cl es σ S).bind fun x S => match x with
    | .tup ws => bnW b ws S
    | _ => .bad
  | .mt m a es, σ, S => (ev cl a σ S).bind fun x S => if isMtW m x S = true then (ev cl es σ S).bind fun y S => match y with
    | .tup ws => mtW m x ws S
    | _ => .bad
    else .bad
  | .gx u g it c e own, σ, S => (ev cl it σ S).bind fun x S => match itW x with
    | some items => gxK u (fun x S => match asg g x (wipeW σ (own.map (·.2))) with
        | some σ' => (ev cl c σ' S).bind fun t S => iteK t ((ev cl e σ' S).bind fun y S => .ok (.lst [y]) S) (.ok (.lst []) S)
        | none => .bad) items S
    | none => .bad
  | .gn u g it c e own, σ, S => (ev cl it σ S).bind fun x S => match itW x with
    | some items => gnK u (fun x S => match asg g x (wipeW σ (own.map (·.2))) with
        | some σ' => (ev cl c σ' S).bind fun t S => iteK t ((ev cl e σ' S).bind fun y S => .ok (.lst [y]) S) (.ok (.lst []) S)
        | none => .bad) items S
    | none => .bad
  | .lc g it c e own, σ, S => (ev cl it σ S).bind fun x S => match itW x with
    | some items => lcLoop (fun x S => match asg g x (wipeW σ (own.map (·.2))) with
        | some σ' => (ev cl c σ' S).bind fun t S => iteK t ((ev cl e σ' S).bind fun y S => .ok (.lst [y]) S) (.ok (.lst []) S)
        | none => .bad) items [] S
    | none => .bad
  | .dc g it c k e own, σ, S => (ev cl it σ S).bind fun x S => match itW x with
    | some items => dcLoop (fun x S => match asg g x (wipeW σ (own.map (·.2))) with
        | some σ' => (ev cl c σ' S).bind fun t S => iteK t ((ev cl k σ' S).bind fun y S => (ev cl e σ' S).bind fun z S => .ok (.lst [y, z]) S) (.ok (.lst []) S)
        | none => .bad) items [] S
    | none => .bad
  | .fmt e, σ, S => (ev cl e σ S).bind fun x S => match fmtW x with
    | some y => .ok (.str y) S
    | none => .bad
  | .fs es, σ, S => match ev cl es σ S with
    | .ok (.tup ws) S => match joinF ws Str.empty with
      | some y => .ok (.str y) S
      | none => .bad
    | _ => .bad
  | .anyOut e z _, σ, S => (ev cl e σ S).bind fun x S => match x with
    | .str a => .ok (.bl (a.cps.toList.any fun c => !(decide (c ∈ z.cps.toList)))) S
    | _ => .bad
  | .told _ x e, σ, S => toldW x (ev cl e σ S)
  | .lam k, _, S => .ok (.ref S.length) (S ++ [.lam k])
  | .toldV _ x e, σ, S => (ev cl e σ S).bind fun w S => match w with
    | .ref i => match S[i]? with
      | some (.lam k) => toldW x (cl (lamName k) [] S)
      | _ => .bad
    | _ => .bad
/-! ### statements -/
inductive Sm where
  | set (g : Tg) (e : E) | par2 (i j : Nat) (a b : E) | par3 (i j l : Nat) (a b c : E)
  | setIx (o i v : E) | aug (i : Nat) (o : Bop) (e : E)
  | expr (e : E) | ifs (c : E) (a b : Sm) | whl (c : E) (b : Sm) | forr (g : Tg) (it : E) (b : Sm)
  | ret (e : E) | rais (c : Str) | pass | brk | cnt
  | nil | seq (a b : Sm) | blk (vs : List Nat) (b : Sm)
inductive SR where
  | nx (σ : Sl) (S : Sto) | rt (w : Wv) (S : Sto) | bk (σ : Sl) (S : Sto) | ct (σ : Sl) (S : Sto) | xc (c : Str) (σ : Sl) (S : Sto) | bad
def Res.bs (r : Res) (σ : Sl) (k : Wv → Sto → SR) : SR := match r with
  | .ok w S => k w S
  | .exc c S => .xc c σ S
  | .bad => .bad
@[simp] theorem bs_ok (w : Wv) (σ : Sl) (S : Sto) (k : Wv → Sto → SR) : (Res.ok w S).bs σ k = k w S := rfl
@[simp] theorem bs_exc (c : Str) (σ : Sl) (S : Sto) (k : Wv → Sto → SR) : (Res.exc c S).bs σ k = .xc c σ S := rfl
@[simp] theorem bs_bad (σ : Sl) (k : Wv → Sto → SR) : Res.bad.bs σ k = .bad := rfl
def iteS (w : Wv) (a b : SR) : SR := match w with
  | .bl true => a
  | .bl false => b
  | _ => .bad
def wLoop (c : Sl → Sto → Res) (b : Sl → Sto → SR) : Nat → Sl → Sto → SR
  | 0, _, _ => .bad
  | n + 1, σ, S => (c σ S).bs σ fun t S => iteS t (match b σ S with
      | .nx σ S => wLoop c b n σ S
      | .ct σ S => wLoop c b n σ S
      | .bk σ S => .nx σ S
      | r => r) (.nx σ S)
def fLoop (g : Tg) (b : Sl → Sto → SR) : List Wv → Sl → Sto → SR
  | [], σ, S => .nx σ S
  | x :: xs, σ, S => match asg g x σ with
    | some σ' => match b σ' S with
      | .nx σ S => fLoop g b xs σ S
      | .ct σ S => fLoop g b xs σ S
      | .bk σ S => .nx σ S
      | r => r
    | none => .bad
/-- how many turns a while may take -/
def fuelW : Nat := 100000
def setIxW (o i v : Wv) (S : Sto) : Option Sto := match o, i with
  | .ref n, .int k => match S[n]? with
    | some (.lst ws) => match ixN ws.length k with
      | some j => some (S.set n (.lst (ws.set j v)))
      | none => none
    | some (.dct ws) => if ws.length < sizeLine then some (S.set n (.dct (putW ws (.inl k) v))) else none
    | _ => none
  | .ref n, .str k => match S[n]? with
    | some (.dct ws) => if ws.length < sizeLine then some (S.set n (.dct (putW ws (.inr k) v))) else none
    | _ => none
  | _, _ => none
def augW : Bop → Wv → Wv → Sto → Res
  | .add, .int i, .int j, S => .ok (.int (i + j)) S
  | .sub, .int i, .int j, S => .ok (.int (i - j)) S
  | .add, .str a, .str b, S => if a.length + b.length ≤ sizeLine then .ok (.str (a ++ b)) S else .bad
  | .add, .ref i, .lst b, S => match S[i]? with
    | some (.lst a) => if a.length + b.length ≤ sizeLine then .ok (.ref i) (S.set i (.lst (a ++ b))) else .bad
    | _ => .bad
  | _, _, _, _ => .bad
/-- what a block has made and nobody holds is forgotten, and the slots vs with it -/
def closedSl (n : Nat) (σ : Sl) : Bool := σ.all fun o => match o with
  | some w => closedW n w
  | none => true
def blkR (S0 : Sto) (vs : List Nat) (r : SR) : SR := match r with
  | .nx σ S => if decide (S0.length ≤ S.length) && (keepS S0.length S0 S && closedSl S0.length (wipeW σ vs)) then .nx (wipeW σ vs) (S.take S0.length) else .nx σ S
  | .ct σ S => if decide (S0.length ≤ S.length) && (keepS S0.length S0 S && closedSl S0.length (wipeW σ vs)) then .ct (wipeW σ vs) (S.take S0.length) else .ct σ S
  | r => r
def ex (cl : Clr) : Sm → Sl → Sto → SR
  | .set g e, σ, S => (ev cl e σ S).bs σ fun w S => match asg g w σ with
    | some σ' => .nx σ' S
    | none => .bad
  | .par2 i j a b, σ, S => (ev cl a σ S).bs σ fun x S => (ev cl b σ S).bs σ fun y S => .nx ((σ.set i (some x)).set j (some y)) S
  | .par3 i j l a b c, σ, S => (ev cl a σ S).bs σ fun x S => (ev cl b σ S).bs σ fun y S => (ev cl c σ S).bs σ fun z S => .nx (((σ.set i (some x)).set j (some y)).set l (some z)) S
  | .setIx o i v, σ, S => (ev cl v σ S).bs σ fun w S => (ev cl o σ S).bs σ fun x S => (ev cl i σ S).bs σ fun y S => match setIxW x y w S with
    | some S' => .nx σ S'
    | none => .bad
  | .aug i o e, σ, S => match σ[i]? with
    | some (some x) => (ev cl e σ S).bs σ fun y S => (augW o x y S).bs σ fun z S => .nx (σ.set i (some z)) S
    | _ => .bad
  | .expr e, σ, S => (ev cl e σ S).bs σ fun _ S => .nx σ S
  | .ifs c a b, σ, S => (ev cl c σ S).bs σ fun t S => iteS t (ex cl a σ S) (ex cl b σ S)
  | .whl c b, σ, S => wLoop (ev cl c) (ex cl b) fuelW σ S
  | .forr g it b, σ, S => (ev cl it σ S).bs σ fun x S => match itW x with
    | some items => fLoop g (ex cl b) items σ S
    | none => .bad
  | .ret e, σ, S => (ev cl e σ S).bs σ fun w S => .rt w S
  | .rais c, σ, S => .xc c σ S
  | .pass, σ, S => .nx σ S
  | .brk, σ, S => .bk σ S
  | .cnt, σ, S => .ct σ S
  | .nil, σ, S => .nx σ S
  | .seq a b, σ, S => match ex cl a σ S with
    | .nx σ S => ex cl b σ S
    | r => r
  | .blk vs b, σ, S => blkR S vs (ex cl b σ S)
/-! ### functions -/
structure FD where
  np : Nat
  ns : Nat
  body : Sm
  cut : Bool := false
def leave : SR → Res
  | .rt w S => .ok w S
  | .nx _ S => .ok .non S
  | .xc c _ S => .exc c S
  | _ => .bad
def startW (n : Nat) (ws : List Wv) : Sl := ws.map some ++ List.replicate (n - ws.length) none
def run (T : Str → Option FD) : Nat → Clr
  | 0, _, _, _ => .bad
  | k + 1, f, ws, S => match T f with
    | none => .bad
    | some d => if ws.length = d.np then (if d.cut then cutR S (leave (ex (run T k) d.body (startW d.ns ws) S)) else leave (ex (run T k) d.body (startW d.ns ws) S)) else .bad
end Dy

end
section
set_option Elab.async false
set_option linter.all false
set_option maxRecDepth 100000
set_option maxHeartbeats 400000
/-! Dy, part C: the operations on values are the machine's. -/
namespace Dy
open PySem PySem.Spec PyProof.Rows L2

section
variable {K : PySem.W.Frag} {H : Hp} {ι : Io} {Y : Addr → Prop} {G : Glob} {S : Sto} {Q : VK} {E : XK}
theorem RepV.int_eq {v : V} {i : Int} (h : RepV K H ι Y (.int i) v) : v = .int i := by cases h; rfl
theorem RepV.str_eq {v : V} {i : Str} (h : RepV K H ι Y (.str i) v) : v = .str i := by cases h; rfl
theorem RepV.bl_eq {v : V} {i : Bool} (h : RepV K H ι Y (.bl i) v) : v = .bl i := by cases h; rfl
theorem RepV.non_eq {v : V} (h : RepV K H ι Y .non v) : v = .non := by cases h; rfl
/-- a new list, a new tuple -/
theorem Post.newL {ws : List Wv} {vs : List V} (p : Post K G Y ι H (.ok (.lst ws) S) Q E) (R : Rel K G ι Y S H) (r : RepL K H ι Y ws vs) : ∀ q, H q = none → Q (.ref q) (upd H q (.lst vs)) := fun q n =>
  p ι _ _ (evo_new ι n) (R.newHp n) (.lst upd_same (R.fresh n) (r.evo (evo_new ι n)))
theorem Post.newT {ws : List Wv} {vs : List V} (p : Post K G Y ι H (.ok (.tup ws) S) Q E) (R : Rel K G ι Y S H) (r : RepL K H ι Y ws vs) : ∀ q, H q = none → Q (.ref q) (upd H q (.tup vs)) := fun q n =>
  p ι _ _ (evo_new ι n) (R.newHp n) (.tup (.inl upd_same) (R.fresh n) (r.evo (evo_new ι n)))
end

/-- what a value is when it is read -/
theorem rd_lst {K : PySem.W.Frag} {G : Glob} {ι : Io} {Y : Addr → Prop} {S : Sto} {H : Hp} {w : Wv} {v : V} {ws : List Wv} (R : Rel K G ι Y S H) (r : RepV K H ι Y w v) (e : rd S w = .lst ws) : ∃ p vs, v = .ref p ∧ H p = some (.lst vs) ∧ RepL K H ι Y ws vs := by
  cases w with
  | ref i =>
    simp only [rd] at e
    cases r with
    | ref hi =>
      cases ho : S[i]? with
      | none => rw [ho] at e; cases e
      | some o =>
        rw [ho] at e
        obtain ⟨a, h, h1, h2, h3⟩ := R.obj i o ho
        rw [hi] at h1
        cases h1
        cases h3 with
        | lst l => cases e; exact ⟨_, _, rfl, h2, l⟩
        | dct l => cases e
        | ins c l => cases e
        | lam _ _ => cases e
  | lst xs =>
    cases e
    obtain ⟨p, rfl, vs, h1, h2⟩ := r.lst_ref
    exact ⟨p, vs, rfl, h1, h2⟩
  | _ => cases e
theorem rd_tup {S : Sto} {w : Wv} {ws : List Wv} (e : rd S w = .tup ws) : w = .tup ws := by
  cases w with
  | ref i =>
    simp only [rd] at e
    split at e <;> cases e
  | _ => exact e
theorem rd_str {S : Sto} {w : Wv} {z : Str} (e : rd S w = .str z) : w = .str z := by
  cases w with
  | ref i =>
    simp only [rd] at e
    split at e <;> cases e
  | _ => exact e
theorem rd_arg {S : Sto} {w : Wv} {z : List Int} (e : rd S w = .arg z) : w = .arg z := by
  cases w with
  | ref i =>
    simp only [rd] at e
    split at e <;> cases e
  | _ => exact e
theorem RepL.rep {K : PySem.W.Frag} {H : Hp} {ι : Io} {Y : Addr → Prop} {ws : List Wv} {vs : List V} (l : RepL K H ι Y ws vs) : ∀ n : Nat, RepL K H ι Y (List.replicate n ws).flatten (List.replicate n vs).flatten
  | 0 => .nil
  | n + 1 => by
    rw [List.replicate_succ, List.replicate_succ, List.flatten_cons, List.flatten_cons]
    exact l.append (RepL.rep l n)
def bopA : Bop → Operator
  | .add => .Add | .sub => .Sub | .mul => .Mult | .fdiv => .FloorDiv | .mod => .Mod | .pow => .Pow
def rBin (K : PySem.W.Frag) (G : Glob) (o : Bop) : R2 := fun x y H Q => ∃ ι Y S w w' E, Rel K G ι Y S H ∧ RepV K H ι Y w x ∧ RepV K H ι Y w' y ∧ Post K G Y ι H (binW o w w' S) Q E
theorem op_mulS {X : Cx} : OpR X (binaryOp .Mult) (fun x y H Q => ∃ z n, x = .str z ∧ y = .int n ∧ (-(2 ^ 62) ≤ n ∧ n < 2 ^ 62 ∧ z.length * n.toNat ≤ 100000 ∧ (strRepW z n).length ≤ sizeLine) ∧ Q (.str (strRepW z n)) H) := by
  intro pins s σ H x y v u Q I rx ry h
  obtain ⟨z, n, rfl, rfl, ⟨h1, h2, h3, h4⟩, q⟩ := h
  obtain ⟨t, rfl⟩ := rx
  obtain ⟨t', rfl⟩ := ry
  have e1 : decide (n < -(2 ^ 63 : Int)) = false := decide_eq_false (by omega)
  have e2 : decide (n ≥ (2 ^ 63 : Int)) = false := decide_eq_false (by omega)
  refine PySem.P.mul_str (by rw [e1, e2]; rfl) (fun hn _ hc => ?_) (fun hn _ => ?_) ?_
  · have hz : (z.length : Int) * n ≤ 100000 := by
      have e : (n.toNat : Int) = n := Int.toNat_of_nonneg (by omega)
      rw [← e, ← Int.natCast_mul]
      exact Int.ofNat_le.mpr h3
    have := (Int.le_ediv_iff_mul_le (by omega : 0 < n) (a := (z.length : Int)) (b := 2 ^ 63 - 1)).mpr (by omega)
    omega
  · exact decide_eq_false (by rw [sizeLine_eq]; omega)
  · unfold strRepW at q h4
    by_cases a : n < 1
    · rw [if_pos a] at q ⊢
      exact ⟨by decide, ⟨.str _, H, I.tok _, ⟨_, rfl⟩, q⟩⟩
    · rw [if_neg a] at q ⊢
      by_cases b : (n == 1 || z.length == 0) = true
      · rw [if_pos b] at q ⊢
        exact ⟨.str _, H, I, ⟨_, rfl⟩, q⟩
      · rw [if_neg b] at q ⊢
        rw [if_neg a, if_neg b] at h4
        exact ⟨h4, ⟨.str _, H, I.tok _, ⟨_, rfl⟩, q⟩⟩
section
variable {X : Cx} {G : Glob}
theorem op_bin (o : Bop) : OpR X (binaryOp (bopA o)) (rBin X.K G o) := by
  intro pins s σ H x y v u Q I rx ry h
  obtain ⟨ι, Y, S, w, w', E, R, r1, r2, p⟩ := h
  cases o with
  | add =>
    cases w <;> cases w' <;> first | exact p.elim | skip
    · cases r1.int_eq; cases r2.int_eq
      exact op_add pins s σ H _ _ v u Q I rx ry ⟨_, _, rfl, rfl, p.here R (.int _)⟩
    · rename_i a b
      cases r1.str_eq; cases r2.str_eq
      by_cases hz : a.length + b.length ≤ sizeLine
      · simp only [binW, if_pos hz] at p
        exact op_add_str pins s σ H _ _ v u Q I rx ry ⟨_, _, rfl, rfl, hz, p.here R (.str _)⟩
      · simp only [binW, if_neg hz] at p
        exact p.elim
    · rename_i a b
      obtain ⟨p1, rfl, vs, h1, l1⟩ := r1.tup_ref
      obtain ⟨p2, rfl, us, h2, l2⟩ := r2.tup_ref
      by_cases hz : a.length + b.length ≤ sizeLine
      · simp only [binW, if_pos hz] at p
        refine op_catA pins s σ H _ _ v u Q I rx ry ⟨_, _, _, _, rfl, rfl, h1, h2, by rw [← l1.length, ← l2.length]; exact hz, fun e => ?_, fun _ e => ?_, fun _ _ => p.newT R (l1.append l2)⟩
        · subst e
          cases l1
          exact p.here R r2
        · subst e
          cases l2
          rw [List.append_nil] at p
          exact p.here R r1
      · simp only [binW, if_neg hz] at p
        exact p.elim
    · rename_i a b
      obtain ⟨p1, rfl, vs, h1, l1⟩ := r1.lst_ref
      obtain ⟨p2, rfl, us, h2, l2⟩ := r2.lst_ref
      by_cases hz : a.length + b.length ≤ sizeLine
      · simp only [binW, if_pos hz] at p
        exact op_cat pins s σ H _ _ v u Q I rx ry ⟨_, _, _, _, rfl, rfl, h1, h2, by rw [← l1.length, ← l2.length]; exact hz, p.newL R (l1.append l2)⟩
      · simp only [binW, if_neg hz] at p
        exact p.elim
    · rename_i i b
      obtain ⟨p2, rfl, us, h2, l2⟩ := r2.lst_ref
      have p : Post X.K G Y ι H (match S[i]? with | some (.lst a) => if a.length + b.length ≤ sizeLine then .ok (.lst (a ++ b)) S else .bad | _ => .bad) Q E := p
      cases hS : S[i]? with
      | none => rw [hS] at p; exact p.elim
      | some so =>
        rw [hS] at p
        cases so with
        | lst a =>
          have e : rd S (.ref i) = .lst a := by simp only [rd, hS]
          obtain ⟨p1, vs, rfl, h1, l1⟩ := rd_lst R r1 e
          have p : Post X.K G Y ι H (if a.length + b.length ≤ sizeLine then .ok (.lst (a ++ b)) S else .bad) Q E := p
          by_cases hz : a.length + b.length ≤ sizeLine
          · rw [if_pos hz] at p
            exact op_cat pins s σ H _ _ v u Q I rx ry ⟨_, _, _, _, rfl, rfl, h1, h2, by rw [← l1.length, ← l2.length]; exact hz, p.newL R (l1.append l2)⟩
          · rw [if_neg hz] at p; exact p.elim
        | _ => exact p.elim
  | sub =>
    cases w <;> cases w' <;> first | exact p.elim | skip
    cases r1.int_eq; cases r2.int_eq
    exact op_sub pins s σ H _ _ v u Q I rx ry ⟨_, _, rfl, rfl, p.here R (.int _)⟩
  | mul =>
    cases w <;> cases w' <;> first | exact p.elim | skip
    · rename_i i j
      cases r1.int_eq; cases r2.int_eq
      by_cases hz : CMul i j
      · simp only [binW, if_pos hz] at p
        exact op_mul pins s σ H _ _ v u Q I rx ry ⟨_, _, rfl, rfl, hz, p.here R (.int _)⟩
      · simp only [binW, if_neg hz] at p
        exact p.elim
    · rename_i z n
      cases r1.str_eq; cases r2.int_eq
      by_cases hz : -(2 ^ 62) ≤ n ∧ n < 2 ^ 62 ∧ z.length * n.toNat ≤ 100000 ∧ (strRepW z n).length ≤ sizeLine
      · simp only [binW, if_pos hz] at p
        exact op_mulS pins s σ H _ _ v u Q I rx ry ⟨_, _, rfl, rfl, hz, p.here R (.str _)⟩
      · simp only [binW, if_neg hz] at p
        exact p.elim
    · rename_i xs n
      obtain ⟨p1, rfl, vs, h1, l1⟩ := r1.lst_ref
      cases r2.int_eq
      by_cases hz : -(2 ^ 62) ≤ n ∧ n < 2 ^ 62 ∧ xs.length * n.toNat ≤ sizeLine
      · simp only [binW, if_pos hz] at p
        exact op_rep pins s σ H _ _ v u Q I rx ry ⟨_, n, _, rfl, rfl, h1, by omega, by omega, by rw [← l1.length]; exact hz.2.2, p.newL R (l1.rep n.toNat)⟩
      · simp only [binW, if_neg hz] at p
        exact p.elim
  | fdiv =>
    cases w <;> cases w' <;> first | exact p.elim | skip
    rename_i i j
    cases r1.int_eq; cases r2.int_eq
    by_cases hz : CDivN i j
    · simp only [binW, if_pos hz] at p
      exact op_fdivN pins s σ H _ _ v u Q I rx ry ⟨_, _, rfl, rfl, hz, p.here R (.int _)⟩
    · simp only [binW, if_neg hz] at p
      exact p.elim
  | mod =>
    cases w <;> cases w' <;> first | exact p.elim | skip
    rename_i i j
    cases r1.int_eq; cases r2.int_eq
    by_cases hz : j ≠ 0
    · simp only [binW, if_pos hz] at p
      exact op_modN pins s σ H _ _ v u Q I rx ry ⟨_, _, rfl, rfl, hz, p.here R (.int _)⟩
    · simp only [binW, if_neg hz] at p
      exact p.elim
  | pow =>
    cases w <;> cases w' <;> first | exact p.elim | skip
    rename_i i j
    cases r1.int_eq; cases r2.int_eq
    by_cases hz : CPow i j
    · simp only [binW, if_pos hz] at p
      exact op_pow pins s σ H _ _ v u Q I rx ry ⟨_, _, rfl, rfl, hz, p.here R (.int _)⟩
    · simp only [binW, if_neg hz] at p
      exact p.elim
end

/-! ### comparisons -/
section
variable {K : PySem.W.Frag} {ι : Io} {Y : Addr → Prop} {H : Hp}
mutual
theorem toD_Dp : ∀ (w : Wv) (v : V) (d : PyData), RepV K H ι Y w v → toD w = some d → Dp K H v d
  | .non, v, d, r, e => by
    have e : some PyData.none = some d := e
    cases e
    cases r
    exact .non
  | .bl b, v, d, r, e => by
    have e : some (PyData.bool b) = some d := e
    cases e
    cases r
    exact .bl b
  | .int b, v, d, r, e => by
    have e : some (PyData.int b) = some d := e
    cases e
    cases r
    exact .int b
  | .str b, v, d, r, e => by
    have e : some (PyData.str b) = some d := e
    cases e
    cases r
    exact .str b
  | .tup ws, v, d, r, e => by
    have e : (toDs ws).map PyData.tuple = some d := e
    obtain ⟨ds, e1, rfl⟩ := Option.map_eq_some_iff.mp e
    obtain ⟨p, rfl, vs, h, l⟩ := r.tup_ref
    exact .tup h (toDs_Dp ws vs ds l e1)
  | .lst ws, v, d, r, e => by
    have e : (toDs ws).map PyData.list = some d := e
    obtain ⟨ds, e1, rfl⟩ := Option.map_eq_some_iff.mp e
    obtain ⟨p, rfl, vs, h, l⟩ := r.lst_ref
    exact .lst (SqL.of h) (toDs_Dp ws vs ds l e1)
  | .dct _, _, d, _, e => nomatch (show none = some d from e)
  | .ref _, _, d, _, e => nomatch (show none = some d from e)
  | .arg _, _, d, _, e => nomatch (show none = some d from e)
theorem toDs_Dp : ∀ (ws : List Wv) (vs : List V) (ds : List PyData), RepL K H ι Y ws vs → toDs ws = some ds → DpAll K H vs ds
  | [], vs, ds, r, e => by
    have e : some [] = some ds := e
    cases e
    cases r
    exact .nil
  | w :: ws, vs, ds, r, e => by
    cases r with
    | cons r t =>
      have e' : (match toD w, toDs ws with | some d, some ds => some (d :: ds) | _, _ => none) = some ds := e
      cases e1 : toD w with
      | none => rw [e1] at e'; cases e'
      | some d =>
        cases e2 : toDs ws with
        | none => rw [e1, e2] at e'; cases e'
        | some ds' =>
          rw [e1, e2] at e'
          cases e'
          exact .cons (toD_Dp w _ d r e1) (toDs_Dp ws _ ds' t e2)
end
end
theorem flatW_V {K : PySem.W.Frag} {H : Hp} {ι : Io} {Y : Addr → Prop} {w : Wv} {v : V} (r : RepV K H ι Y w v) : flatV v = flatW w := by cases r <;> rfl
theorem eqW_V {K : PySem.W.Frag} {H : Hp} {ι : Io} {Y : Addr → Prop} {w w' : Wv} {v v' : V} (r : RepV K H ι Y w v) (r' : RepV K H ι Y w' v') (f : flatW w = true) (f' : flatW w' = true) : eqV v v' = eqW w w' := by
  cases r <;> first | (cases f; done) | (cases r' <;> first | (cases f'; done) | rfl)
theorem flatL_V {K : PySem.W.Frag} {H : Hp} {ι : Io} {Y : Addr → Prop} : ∀ {ws : List Wv} {vs : List V}, RepL K H ι Y ws vs → vs.all flatV = ws.all flatW
  | _, _, .nil => rfl
  | _, _, .cons r t => by rw [List.all_cons, List.all_cons, flatW_V r, flatL_V t]
theorem inW_V {K : PySem.W.Frag} {H : Hp} {ι : Io} {Y : Addr → Prop} {w : Wv} {v : V} (r : RepV K H ι Y w v) (f : flatW w = true) : ∀ {ws : List Wv} {vs : List V}, RepL K H ι Y ws vs → ws.all flatW = true → inV v vs = inW w ws
  | _, _, .nil, _ => rfl
  | _, _, .cons (w := w1) r1 t, h => by
    rw [List.all_cons, Bool.and_eq_true] at h
    have ih := inW_V r f t h.2
    unfold inV inW at ih ⊢
    rw [List.any_cons, List.any_cons, eqW_V r1 r h.1 f, ih]
theorem valW_V {K : PySem.W.Frag} {H : Hp} {ι : Io} {Y : Addr → Prop} {k : Key} : ∀ {ws : List (Key × Wv)} {vs : List (Key × V)}, RepD K H ι Y ws vs → (match valW ws k, valV vs k with | some w, some v => RepV K H ι Y w v | none, none => True | _, _ => False)
  | _, _, .nil => by trivial
  | _, _, .cons (k := k') (w := w) (v := v) (ws := ws) (vs := vs) r t => by
    have ih := valW_V (k := k) t
    unfold valW valV at ih ⊢
    by_cases e : k' = k
    · simp only [List.find?_cons, decide_eq_true e]
      exact r
    · simp only [List.find?_cons, decide_eq_false e]
      exact ih
theorem RepD.length {K : PySem.W.Frag} {H : Hp} {ι : Io} {Y : Addr → Prop} : ∀ {ws : List (Key × Wv)} {vs : List (Key × V)}, RepD K H ι Y ws vs → ws.length = vs.length
  | _, _, .nil => rfl
  | _, _, .cons _ t => by simp [RepD.length t]
theorem rd_dct {K : PySem.W.Frag} {G : Glob} {ι : Io} {Y : Addr → Prop} {S : Sto} {H : Hp} {w : Wv} {v : V} {ws : List (Key × Wv)} (R : Rel K G ι Y S H) (r : RepV K H ι Y w v) (e : rd S w = .dct ws) : ∃ p vs, v = .ref p ∧ H p = some (.dK vs) ∧ RepD K H ι Y ws vs := by
  cases w with
  | ref i =>
    simp only [rd] at e
    cases r with
    | ref hi =>
      cases ho : S[i]? with
      | none => rw [ho] at e; cases e
      | some o =>
        rw [ho] at e
        obtain ⟨a, h, h1, h2, h3⟩ := R.obj i o ho
        rw [hi] at h1
        cases h1
        cases h3 with
        | lst l => cases e
        | dct l => cases e; exact ⟨_, _, rfl, h2, l⟩
        | ins c l => cases e
        | lam _ _ => cases e
  | dct xs =>
    cases e
    cases r with
    | dct h f l => exact ⟨_, _, rfl, h, l⟩
  | _ => cases e
theorem keyW_V {K : PySem.W.Frag} {H : Hp} {ι : Io} {Y : Addr → Prop} {w : Wv} {v : V} {k : Key} (r : RepV K H ι Y w v) (e : keyW w = some k) : v = kV k := by
  cases r <;> first | (cases e; done) | (cases e; rfl)

mutual
theorem toD_plain : ∀ (w : Wv) (d : PyData), toD w = some d → d.plain = true
  | .non, _, h => by cases h; rfl
  | .bl _, _, h => by cases h; rfl
  | .int _, _, h => by cases h; rfl
  | .str _, _, h => by cases h; rfl
  | .tup xs, d, h => by
    have h : (toDs xs).map PyData.tuple = some d := h
    cases e : toDs xs with
    | none => rw [e] at h; cases h
    | some ds =>
      rw [e] at h
      cases h
      exact (show PyData.plainAll ds = true from toDs_plain xs ds e)
  | .lst xs, d, h => by
    have h : (toDs xs).map PyData.list = some d := h
    cases e : toDs xs with
    | none => rw [e] at h; cases h
    | some ds =>
      rw [e] at h
      cases h
      exact (show PyData.plainAll ds = true from toDs_plain xs ds e)
  | .dct _, _, h => by cases h
  | .ref _, _, h => by cases h
  | .arg _, _, h => by cases h
theorem toDs_plain : ∀ (ws : List Wv) (ds : List PyData), toDs ws = some ds → PyData.plainAll ds = true
  | [], _, h => by cases h; rfl
  | x :: xs, ds, h => by
    have h : (match toD x, toDs xs with | some d, some ds => some (d :: ds) | _, _ => none) = some ds := h
    cases e1 : toD x with
    | none => rw [e1] at h; cases h
    | some d =>
      cases e2 : toDs xs with
      | none => rw [e1, e2] at h; cases h
      | some es =>
        rw [e1, e2] at h
        cases h
        show (d.plain && PyData.plainAll es) = true
        rw [toD_plain x d e1, toDs_plain xs es e2]
        rfl
end
theorem toD_rd {K : PySem.W.Frag} {G : Glob} {ι : Io} {Y : Addr → Prop} {S : Sto} {H : Hp} {w : Wv} {v : V} {d : PyData} (R : Rel K G ι Y S H) (r : RepV K H ι Y w v) (e : toD (rd S w) = some d) : Dp K H v d := by
  cases w with
  | ref i =>
    cases hS : S[i]? with
    | none =>
      have : rd S (.ref i) = .ref i := by simp only [rd, hS]
      rw [this] at e; cases e
    | some o =>
      cases o with
      | lst ws =>
        have hr : rd S (.ref i) = .lst ws := by simp only [rd, hS]
        obtain ⟨p, vs, rfl, h, l⟩ := rd_lst R r hr
        rw [hr] at e
        have e : (toDs ws).map PyData.list = some d := e
        obtain ⟨ds, e1, rfl⟩ := Option.map_eq_some_iff.mp e
        exact .lst (SqL.of h) (toDs_Dp ws vs ds l e1)
      | dct ws =>
        have hr : rd S (.ref i) = .dct ws := by simp only [rd, hS]
        rw [hr] at e; cases e
      | ins c fs =>
        have hr : rd S (.ref i) = .ref i := by simp only [rd, hS]
        rw [hr] at e; cases e
      | lam k =>
        have hr : rd S (.ref i) = .ref i := by simp only [rd, hS]
        rw [hr] at e; cases e
  | _ => exact toD_Dp _ v d r e
def copA : Cop → CmpOp
  | .eq => .Eq | .ne => .NotEq | .lt => .Lt | .le => .LtE | .gt => .Gt | .ge => .GtE | .isN => .Is | .notN => .IsNot | .isin => .In | .notin => .NotIn
def rCmp (K : PySem.W.Frag) (G : Glob) (o : Cop) : R2 := fun x y H Q => ∃ ι Y S w w' E, Rel K G ι Y S H ∧ RepV K H ι Y w x ∧ RepV K H ι Y w' y ∧ Post K G Y ι H (cmpW o w w' S) Q E
section
variable {X : Cx} {G : Glob}
theorem ofB_post {K : PySem.W.Frag} {Y : Addr → Prop} {ι : Io} {H : Hp} {o : Option Bool} {neg : Bool} {S : Sto} {Q : VK} {E : XK} (R : Rel K G ι Y S H) (p : Post K G Y ι H (ofB o neg S) Q E) : ∃ b, o = some b ∧ Q (.bl (if neg then !b else b)) H := by
  cases o with
  | none => exact p.elim
  | some b => exact ⟨b, rfl, p.here R (.bl _)⟩
/-- x in y, by its answer -/
theorem mem_in {pins : List (Addr × Obj)} {s : Shared} {σ : L2.St} {H : Hp} {x y : V} {v u : Value} {Q : VK} {ι : Io} {Y : Addr → Prop} {S : Sto} {w w' : Wv} {b neg : Bool} (hu64 : X.A.units + 64 < cLine) (hu : X.A.units + 1 < cLine) (I : Inv X pins σ H s) (rx : RelV x v) (ry : RelV y u) (R : Rel X.K G ι Y S H)
    (r1 : RepV X.K H ι Y w x) (r2 : RepV X.K H ι Y w' y) (hm : memW w (rd S w') = some b) (q : Q (.bl (if neg then !b else b)) H) :
    wpAny (model X.prog X.w) X.A (compareOp (if neg then .NotIn else .In) v u) (EP X pins σ Q) X.xe s := by
  have seq : ∀ {p : Addr} {ws : List Wv} {vs : List V}, y = .ref p → (SqL X.K H p vs ∨ SqT X.K H p vs) → RepL X.K H ι Y ws vs → (rd S w' = .lst ws ∨ rd S w' = .tup ws) → (if flatW w = true ∧ ws.all flatW = true then some (inW w ws) else memD w ws) = some b →
      wpAny (model X.prog X.w) X.A (compareOp (if neg then .NotIn else .In) v u) (EP X pins σ Q) X.xe s := by
    intro p ws vs ey hs l er e
    subst ey
    by_cases f : flatW w = true ∧ ws.all flatW = true
    · rw [if_pos f] at e
      cases e
      cases neg with
      | false => exact op_in_seq pins s σ H _ _ v u Q I rx ry ⟨p, vs, rfl, hs, by rw [flatW_V r1]; exact f.1, by rw [flatL_V l]; exact f.2, by rw [inW_V r1 f.1 l f.2]; exact q⟩
      | true => exact op_notIn_seq pins s σ H _ _ v u Q I rx ry ⟨p, vs, rfl, hs, by rw [flatW_V r1]; exact f.1, by rw [flatL_V l]; exact f.2, by rw [inW_V r1 f.1 l f.2]; exact q⟩
    · rw [if_neg f] at e
      unfold memD at e
      cases e1 : toD w with
      | none => rw [e1] at e; cases e
      | some d =>
        cases e2 : toDs ws with
        | none => rw [e1, e2] at e; cases e
        | some ds =>
          rw [e1, e2] at e
          have e : (if d.depth ≤ 60 then some (ds.any fun y => PyData.eqv y d) else none) = some b := e
          by_cases hdp : d.depth ≤ 60
          · rw [if_pos hdp] at e
            cases e
            have hrd : rd S w = w := by cases w <;> first | rfl | cases e1
            obtain ⟨as, ra⟩ := Dp.reads I d _ v (toD_rd R r1 (by rw [hrd]; exact e1)) rx
            have hpd := toD_plain w d e1
            have hps := toDs_plain ws ds e2
            have hun : X.A.units + 1 + min (PyData.depthAll ds) d.depth < cLine := by
              have : min (PyData.depthAll ds) d.depth ≤ d.depth := Nat.min_le_right _ _
              omega
            rcases er with er | er
            · obtain ⟨bs, rb⟩ := Dp.reads I (.list ds) _ u (toD_rd R r2 (by rw [er]; show (toDs ws).map _ = _; rw [e2]; rfl)) ry
              cases neg with
              | false => exact PySem.SeqAt.in_list_data rb ra hps hpd hun ⟨.bl _, H, I, rfl, q⟩
              | true => exact PySem.SeqAt.notIn_list_data rb ra hps hpd hun ⟨.bl _, H, I, rfl, q⟩
            · obtain ⟨bs, rb⟩ := Dp.reads I (.tuple ds) _ u (toD_rd R r2 (by rw [er]; show (toDs ws).map _ = _; rw [e2]; rfl)) ry
              cases neg with
              | false => exact PySem.SeqAt.in_tuple_data rb ra hps hpd hun ⟨.bl _, H, I, rfl, q⟩
              | true => exact PySem.SeqAt.notIn_tuple_data rb ra hps hpd hun ⟨.bl _, H, I, rfl, q⟩
          · rw [if_neg hdp] at e; cases e
  cases e : rd S w' with
  | lst ws =>
    rw [e] at hm
    obtain ⟨p, vs, ey, h, l⟩ := rd_lst R r2 e
    exact seq ey (.inl (SqL.of h)) l (.inl e) hm
  | tup ws =>
    rw [e] at hm
    rw [rd_tup e] at r2
    obtain ⟨p, ey, vs, h, l⟩ := r2.tup_ref
    exact seq ey (.inr h) l (.inr e) hm
  | str z =>
    rw [e] at hm
    rw [rd_str e] at r2
    cases r2.str_eq
    cases w with
    | str a =>
      cases r1.str_eq
      cases hm
      cases neg with
      | false => exact op_in_str pins s σ H _ _ v u Q I rx ry ⟨_, _, rfl, rfl, q⟩
      | true => exact op_notin_str pins s σ H _ _ v u Q I rx ry ⟨_, _, rfl, rfl, q⟩
    | _ => cases hm
  | dct kvs =>
    rw [e] at hm
    obtain ⟨p, vs, rfl, h, l⟩ := rd_dct R r2 e
    have hm' : (match keyW w with | some k => some (valW kvs k).isSome | none => none) = some b := hm
    cases ek : keyW w with
    | none => rw [ek] at hm'; cases hm'
    | some k =>
      rw [ek] at hm'
      cases hm'
      cases keyW_V r1 ek
      have hv := valW_V (k := k) l
      have es : (valV vs k).isSome = (valW kvs k).isSome := by
        cases e1 : valW kvs k <;> cases e2 : valV vs k <;> rw [e1, e2] at hv <;> first | rfl | exact hv.elim
      obtain rfl : u = Value.ref p := ry
      cases neg with
      | false => exact d_in hu I (DGet.k (k := k) h) rx fun s3 I3 => ⟨.bl _, H, I3, rfl, by rw [es]; exact q⟩
      | true => exact d_notIn hu I (DGet.k (k := k) h) rx fun s3 I3 => ⟨.bl _, H, I3, rfl, by rw [es]; exact q⟩
  | non => rw [e] at hm; cases hm
  | bl _ => rw [e] at hm; cases hm
  | int _ => rw [e] at hm; cases hm
  | ref _ => rw [e] at hm; cases hm
  | arg _ => rw [e] at hm; cases hm
theorem op_cmp (hu : X.A.units + 64 < cLine) (o : Cop) (ho : o ≠ .isN) (ho' : o ≠ .notN) : OpR X (compareOp (copA o)) (rCmp X.K G o) := by
  intro pins s σ H x y v u Q I rx ry h
  obtain ⟨ι, Y, S, w, w', E, R, r1, r2, p⟩ := h
  have hu1 : X.A.units + 1 < cLine := Nat.lt_of_le_of_lt (Nat.add_le_add_left (by decide : 1 ≤ 64) _) hu
  have eqc : ∀ b, eqD (rd S w) (rd S w') = some b → ∃ d e, Dp X.K H x d ∧ Dp X.K H y e ∧ d.plain = true ∧ e.plain = true ∧ X.A.units + min d.depth e.depth < cLine ∧ PyData.eqv d e = b := by
    intro b e
    unfold eqD at e
    cases e1 : toD (rd S w) with
    | none => rw [e1] at e; cases e
    | some d =>
      cases e2 : toD (rd S w') with
      | none => rw [e1, e2] at e; cases e
      | some d' =>
        rw [e1, e2] at e
        have e : (if d.depth ≤ 64 ∧ d'.depth ≤ 64 then some (PyData.eqv d d') else none) = some b := e
        by_cases hs : d.depth ≤ 64 ∧ d'.depth ≤ 64
        · rw [if_pos hs] at e
          cases e
          exact ⟨d, d', toD_rd R r1 e1, toD_rd R r2 e2, toD_plain _ d e1, toD_plain _ d' e2, by have : min d.depth d'.depth ≤ d.depth := Nat.min_le_left _ _; omega, rfl⟩
        · rw [if_neg hs] at e; cases e
  cases o with
  | isN => exact absurd rfl ho
  | notN => exact absurd rfl ho'
  | eq =>
    obtain ⟨b, e, q⟩ := ofB_post R p
    obtain ⟨d, d', h1, h2, s1, s2, su, eb⟩ := eqc b e
    obtain ⟨as, ra⟩ := Dp.reads I d x v h1 rx
    obtain ⟨bs, rb⟩ := Dp.reads I d' y u h2 ry
    exact PySem.SeqAt.eq_plain ra rb s1 s2 su ⟨.bl _, H, I, rfl, by rw [eb]; exact q⟩
  | ne =>
    obtain ⟨b, e, q⟩ := ofB_post R p
    obtain ⟨d, d', h1, h2, s1, s2, su, eb⟩ := eqc b e
    obtain ⟨as, ra⟩ := Dp.reads I d x v h1 rx
    obtain ⟨bs, rb⟩ := Dp.reads I d' y u h2 ry
    exact PySem.SeqAt.ne_plain ra rb s1 s2 su ⟨.bl _, H, I, rfl, by rw [eb]; exact q⟩
  | isin =>
    obtain ⟨b, e, q⟩ := ofB_post R p
    exact mem_in (neg := false) hu hu1 I rx ry R r1 r2 e q
  | notin =>
    obtain ⟨b, e, q⟩ := ofB_post R p
    exact mem_in (neg := true) hu hu1 I rx ry R r1 r2 e q
  | lt =>
    cases w <;> first | exact p.elim | skip
    cases w' <;> first | exact p.elim | skip
    cases r1.int_eq; cases r2.int_eq
    exact op_lt pins s σ H _ _ v u Q I rx ry ⟨_, _, rfl, rfl, p.here R (.bl _)⟩
  | le =>
    cases w <;> first | exact p.elim | skip
    cases w' <;> first | exact p.elim | skip
    cases r1.int_eq; cases r2.int_eq
    exact op_le pins s σ H _ _ v u Q I rx ry ⟨_, _, rfl, rfl, p.here R (.bl _)⟩
  | gt =>
    cases w <;> first | exact p.elim | skip
    cases w' <;> first | exact p.elim | skip
    cases r1.int_eq; cases r2.int_eq
    exact op_gt pins s σ H _ _ v u Q I rx ry ⟨_, _, rfl, rfl, p.here R (.bl _)⟩
  | ge =>
    cases w <;> first | exact p.elim | skip
    cases w' <;> first | exact p.elim | skip
    cases r1.int_eq; cases r2.int_eq
    exact op_ge pins s σ H _ _ v u Q I rx ry ⟨_, _, rfl, rfl, p.here R (.bl _)⟩
end

/-! ### subscripts, slices -/
theorem atI_rep {K : PySem.W.Frag} {H : Hp} {ι : Io} {Y : Addr → Prop} {ws : List Wv} {vs : List V} {i : Int} {w : Wv} (l : RepL K H ι Y ws vs) (e : atI ws i = some w) : ∃ v, atI vs i = some v ∧ RepV K H ι Y w v := by
  unfold atI at e ⊢
  rw [← l.length]
  cases e1 : ixN ws.length i with
  | none => rw [e1] at e; cases e
  | some j =>
    rw [e1] at e
    exact l.get e
def rIdx (K : PySem.W.Frag) (G : Glob) : R2 := fun x y H Q => ∃ ι Y S w w' E, Rel K G ι Y S H ∧ RepV K H ι Y w x ∧ RepV K H ι Y w' y ∧ Post K G Y ι H (idxW w w' S) Q E
section
variable {X : Cx} {G : Glob}
theorem ix_W (hu : X.A.units + 1 < cLine) : IxR X (rIdx X.K G) := by
  intro value slice pins s σ H x y v u Q I rx ry h hs
  obtain ⟨ι, Y, S, w, w', E, R, r1, r2, p⟩ := h
  have isD : ∀ kvs, rd S w = .dct kvs → wpAny (model X.prog X.w) X.A (subscriptTail value slice v u) (EP X pins σ Q) X.xe s := by
    intro kvs e
    obtain ⟨a, vs, rfl, h, l⟩ := rd_dct R r1 e
    have p : Post X.K G Y ι H (match keyW w' with | some k => (match valW kvs k with | some v => .ok v S | none => .bad) | none => .bad) Q E := by
      unfold idxW at p
      rw [e] at p
      exact p
    cases ek : keyW w' with
    | none => rw [ek] at p; exact p.elim
    | some k =>
      rw [ek] at p
      cases keyW_V r2 ek
      have hv := valW_V (k := k) l
      have p : Post X.K G Y ι H (match valW kvs k with | some v => .ok v S | none => .bad) Q E := p
      cases e1 : valW kvs k with
      | none => rw [e1] at p; exact p.elim
      | some z =>
        rw [e1] at p hv
        cases e2 : valV vs k with
        | none => rw [e2] at hv; exact hv.elim
        | some z' =>
          rw [e2] at hv
          obtain rfl : v = Value.ref a := rx
          have g : DGet H a (kV k) (some z') := by rw [← e2]; exact DGet.k h
          exact tail_any (dict_typeIs I g) PySem.F.slot_dict_getitem.lookup (d_getItem hu I g ry fun w3 s3 I3 rw3 => ⟨z', H, I3, rw3, p.here R hv⟩) hs
  by_cases hd : ∃ kvs, rd S w = .dct kvs
  · obtain ⟨kvs, hd⟩ := hd
    exact isD kvs hd
  unfold idxW at p
  cases w' with
  | int i =>
    cases r2.int_eq
    cases e : rd S w with
    | lst ws =>
      rw [e] at p
      obtain ⟨q, vs, rfl, h, l⟩ := rd_lst R r1 e
      cases ea : atI ws i with
      | none => simp only [ea] at p; exact p.elim
      | some z =>
        simp only [ea] at p
        obtain ⟨z', e2, rz⟩ := atI_rep l ea
        exact ix_list value slice pins s σ H _ _ v u Q I rx ry ⟨q, vs, i, z', rfl, rfl, SqL.of h, e2, p.here R rz⟩ hs
    | tup ws =>
      rw [e] at p
      rw [rd_tup e] at r1
      obtain ⟨q, rfl, vs, h, l⟩ := r1.tup_ref
      cases ea : atI ws i with
      | none => simp only [ea] at p; exact p.elim
      | some z =>
        simp only [ea] at p
        obtain ⟨z', e2, rz⟩ := atI_rep l ea
        exact ix_tup value slice pins s σ H _ _ v u Q I rx ry ⟨q, vs, i, z', rfl, rfl, h, e2, p.here R rz⟩ hs
    | str z =>
      rw [e] at p
      rw [rd_str e] at r1
      cases r1.str_eq
      by_cases hz : z.length ≤ sizeLine
      · simp only [if_pos hz] at p
        cases ea : atI z.cps.toList i with
        | none => simp only [ea] at p; exact p.elim
        | some c =>
          simp only [ea] at p
          exact ix_str value slice pins s σ H _ _ v u Q I rx ry ⟨z, i, c, rfl, rfl, hz, ea, p.here R (.str _)⟩ hs
      · simp only [if_neg hz] at p; exact p.elim
    | non => rw [e] at p; exact p.elim
    | bl _ => rw [e] at p; exact p.elim
    | int _ => rw [e] at p; exact p.elim
    | ref _ => rw [e] at p; exact p.elim
    | arg _ => rw [e] at p; exact p.elim
    | dct kvs => exact absurd ⟨kvs, e⟩ hd
  | _ => cases e : rd S w <;> first | (rw [e] at p; exact p.elim; done) | (exact absurd ⟨_, e⟩ hd)
theorem cutW_V {K : PySem.W.Frag} {H : Hp} {ι : Io} {Y : Addr → Prop} {ws : List Wv} {vs : List V} (l : RepL K H ι Y ws vs) (lo hi : Option Int) : RepL K H ι Y (cutW ws lo hi) (cutV vs lo hi) := by
  unfold cutW cutV
  rw [l.length]
  exact (l.drop _).take _
def rSli (K : PySem.W.Frag) (G : Glob) : V → Option Int → Option Int → Hp → VK → Prop := fun x lo hi H Q => ∃ ι Y S w wl wh E, Rel K G ι Y S H ∧ RepV K H ι Y w x ∧ bndW wl = some lo ∧ bndW wh = some hi ∧ Post K G Y ι H (slW w wl wh S) Q E
theorem sl_W : SlR X (rSli X.K G) := by
  intro pins s σ H x v vl vu lo hi sl Q I rx hs pl pu h
  obtain ⟨ι, Y, S, w, wl, wh, E, R, r1, e1, e2, p⟩ := h
  unfold slW at p
  rw [e1, e2] at p
  have p : Post X.K G Y ι H (match rd S w with
    | .lst xs => .ok (.lst (cutW xs lo hi)) S
    | .arg ns => .ok (.lst (cutW (ns.map .int) lo hi)) S
    | .tup xs => .ok (.tup (cutW xs lo hi)) S
    | .str z => if z.length ≤ sizeLine then .ok (.str (cutS z lo hi)) S else .bad
    | _ => .bad) Q E := p
  cases e : rd S w with
  | lst ws =>
    rw [e] at p
    obtain ⟨q, vs, rfl, h, l⟩ := rd_lst R r1 e
    exact sl_list pins s σ H _ v vl vu lo hi sl Q I rx hs pl pu ⟨q, vs, rfl, SqL.of h, p.newL R (cutW_V l lo hi)⟩
  | arg ns =>
    rw [e] at p
    rw [rd_arg e] at r1
    obtain ⟨q, rfl, h⟩ := r1.arg_ref
    exact sl_list pins s σ H _ v vl vu lo hi sl Q I rx hs pl pu ⟨q, _, rfl, h, p.newL R (cutW_V (RepL.of_ints ns) lo hi)⟩
  | str z =>
    rw [e] at p
    rw [rd_str e] at r1
    cases r1.str_eq
    by_cases hz : z.length ≤ sizeLine
    · simp only [if_pos hz] at p
      exact sl_str pins s σ H _ v vl vu lo hi sl Q I rx hs pl pu ⟨z, rfl, hz, p.here R (.str _)⟩
    · simp only [if_neg hz] at p; exact p.elim
  | non => rw [e] at p; exact p.elim
  | bl _ => rw [e] at p; exact p.elim
  | int _ => rw [e] at p; exact p.elim
  | ref _ => rw [e] at p; exact p.elim
  | tup xs =>
    rw [e] at p
    rw [rd_tup e] at r1
    obtain ⟨q, rfl, vs, h, l⟩ := r1.tup_ref
    refine sl_tupA pins s σ H _ v vl vu lo hi sl Q I rx hs pl pu ⟨q, vs, rfl, h, fun ⟨a1, a2⟩ => ?_, fun _ => p.newT R (cutW_V l lo hi)⟩
    have ec : cutW xs lo hi = xs := by
      unfold cutW
      rw [l.length, a1, a2, List.drop_zero, Nat.sub_zero, ← l.length, List.take_length]
    have p : Post X.K G Y ι H (.ok (.tup (cutW xs lo hi)) S) Q E := p
    rw [ec] at p
    exact p.here R r1
  | dct _ => rw [e] at p; exact p.elim
end
end Dy

end
section
set_option Elab.async false
set_option linter.all false
set_option maxRecDepth 100000
set_option maxHeartbeats 400000
/-! Dy, part D: built-in functions and methods. -/
namespace Dy
open PySem PySem.Spec PyProof.Rows L2

theorem intsW_map : ∀ {ws : List Wv} {ns : List Int}, intsW ws = some ns → ws = ns.map Wv.int
  | [], ns, e => by
    have e : some [] = some ns := e
    cases e
    rfl
  | .int i :: r, ns, e => by
    have e : (intsW r).map (i :: ·) = some ns := e
    obtain ⟨ms, e1, rfl⟩ := Option.map_eq_some_iff.mp e
    rw [intsW_map e1]
    rfl
  | .non :: r, ns, e => nomatch (show none = some ns from e)
  | .bl _ :: r, ns, e => nomatch (show none = some ns from e)
  | .str _ :: r, ns, e => nomatch (show none = some ns from e)
  | .tup _ :: r, ns, e => nomatch (show none = some ns from e)
  | .lst _ :: r, ns, e => nomatch (show none = some ns from e)
  | .dct _ :: r, ns, e => nomatch (show none = some ns from e)
  | .ref _ :: r, ns, e => nomatch (show none = some ns from e)
  | .arg _ :: r, ns, e => nomatch (show none = some ns from e)
theorem strsW_map : ∀ {ws : List Wv} {ns : List Str}, strsW ws = some ns → ws = ns.map Wv.str
  | [], ns, e => by
    have e : some [] = some ns := e
    cases e
    rfl
  | .str i :: r, ns, e => by
    have e : (strsW r).map (i :: ·) = some ns := e
    obtain ⟨ms, e1, rfl⟩ := Option.map_eq_some_iff.mp e
    rw [strsW_map e1]
    rfl
  | .non :: r, ns, e => nomatch (show none = some ns from e)
  | .bl _ :: r, ns, e => nomatch (show none = some ns from e)
  | .int _ :: r, ns, e => nomatch (show none = some ns from e)
  | .tup _ :: r, ns, e => nomatch (show none = some ns from e)
  | .lst _ :: r, ns, e => nomatch (show none = some ns from e)
  | .dct _ :: r, ns, e => nomatch (show none = some ns from e)
  | .ref _ :: r, ns, e => nomatch (show none = some ns from e)
  | .arg _ :: r, ns, e => nomatch (show none = some ns from e)
section
variable {K : PySem.W.Frag} {H : Hp} {ι : Io} {Y : Addr → Prop}
theorem RepL.strs : ∀ {ns : List Str} {vs : List V}, RepL K H ι Y (ns.map Wv.str) vs → vs = ns.map V.str
  | [], _, h => by cases h; rfl
  | n :: ns, _, h => by
    cases h with
    | cons r t =>
      cases r
      rw [RepL.strs t]
      rfl
theorem RepL.of_strs : ∀ (ns : List Str), RepL K H ι Y (ns.map Wv.str) (ns.map V.str)
  | [] => .nil
  | n :: ns => .cons (.str n) (RepL.of_strs ns)
end

def biF : BI → Value
  | .len => .builtin "len" | .str => .type "str" | .int => .type "int" | .abs => .builtin "abs" | .min2 => .builtin "min" | .max2 => .builtin "max" | .sum => .builtin "sum" | .tup1 => .type "tuple" | .min1 => .builtin "min" | .max1 => .builtin "max"
def rBi (K : PySem.W.Frag) (G : Glob) (b : BI) : List V → Hp → VK → Prop := fun vs H Q => ∃ ι Y S ws E, Rel K G ι Y S H ∧ RepL K H ι Y ws vs ∧ Post K G Y ι H (biW b ws S) Q E
section
variable {X : Cx} {G : Glob}
theorem RepL.one {K : PySem.W.Frag} {H : Hp} {ι : Io} {Y : Addr → Prop} {w : Wv} {vs : List V} (l : RepL K H ι Y [w] vs) : ∃ v, vs = [v] ∧ RepV K H ι Y w v := by
  cases l with
  | cons r t => cases t; exact ⟨_, rfl, r⟩
theorem RepL.two {K : PySem.W.Frag} {H : Hp} {ι : Io} {Y : Addr → Prop} {w w' : Wv} {vs : List V} (l : RepL K H ι Y [w, w'] vs) : ∃ v v', vs = [v, v'] ∧ RepV K H ι Y w v ∧ RepV K H ι Y w' v' := by
  cases l with
  | cons r t =>
    cases t with
    | cons r' t => cases t; exact ⟨_, _, rfl, r, r'⟩
theorem anyK_V {K : PySem.W.Frag} {H : Hp} {ι : Io} {Y : Addr → Prop} {k : Key} : ∀ {ws : List (Key × Wv)} {vs : List (Key × V)}, RepD K H ι Y ws vs → (vs.any fun kv => decide (kv.1 = k)) = ws.any fun kv => decide (kv.1 = k)
  | _, _, .nil => rfl
  | _, _, .cons r t => by rw [List.any_cons, List.any_cons, anyK_V t]
theorem mapK_V {K : PySem.W.Frag} {H : Hp} {ι : Io} {Y : Addr → Prop} {k : Key} {w : Wv} {v : V} (r : RepV K H ι Y w v) : ∀ {ws : List (Key × Wv)} {vs : List (Key × V)}, RepD K H ι Y ws vs → RepD K H ι Y (ws.map fun kv => if kv.1 = k then (kv.1, w) else kv) (vs.map fun kv => if kv.1 = k then (kv.1, v) else kv)
  | _, _, .nil => .nil
  | _, _, .cons (k := k') r1 t => by
    rw [List.map_cons, List.map_cons]
    by_cases e : k' = k
    · rw [if_pos e, if_pos e]; exact .cons r (mapK_V r t)
    · rw [if_neg e, if_neg e]; exact .cons r1 (mapK_V r t)
theorem RepD.append {K : PySem.W.Frag} {H : Hp} {ι : Io} {Y : Addr → Prop} : ∀ {ws us : List (Key × Wv)} {vs xs : List (Key × V)}, RepD K H ι Y ws vs → RepD K H ι Y us xs → RepD K H ι Y (ws ++ us) (vs ++ xs)
  | _, _, _, _, .nil, s => s
  | _, _, _, _, .cons r t, s => .cons r (RepD.append t s)
theorem putW_V {K : PySem.W.Frag} {H : Hp} {ι : Io} {Y : Addr → Prop} {k : Key} {w : Wv} {v : V} {ws : List (Key × Wv)} {vs : List (Key × V)} (r : RepV K H ι Y w v) (d : RepD K H ι Y ws vs) : RepD K H ι Y (putW ws k w) (putK vs k v) := by
  unfold putW putK
  rw [anyK_V d]
  split
  · exact mapK_V r d
  · exact d.append (.cons r .nil)

/-! ### what a datum stands for -/
theorem toDs_cons {x : Wv} {xs : List Wv} {ds : List PyData} (h : toDs (x :: xs) = some ds) : ∃ d es, ds = d :: es ∧ toD x = some d ∧ toDs xs = some es := by
  have h : (match toD x, toDs xs with | some d, some ds => some (d :: ds) | _, _ => none) = some ds := h
  cases e1 : toD x with
  | none => rw [e1] at h; cases h
  | some d =>
    cases e2 : toDs xs with
    | none => rw [e1, e2] at h; cases h
    | some es =>
      rw [e1, e2] at h
      cases h
      exact ⟨d, es, rfl, rfl, rfl⟩
theorem toD_cases {a : Wv} {d : PyData} (h : toD a = some d) : (a = .non ∧ d = .none) ∨ (∃ b, a = .bl b ∧ d = .bool b) ∨ (∃ i, a = .int i ∧ d = .int i) ∨ (∃ s, a = .str s ∧ d = .str s) ∨ (∃ xs ds, a = .lst xs ∧ d = .list ds ∧ toDs xs = some ds) ∨ ∃ xs ds, a = .tup xs ∧ d = .tuple ds ∧ toDs xs = some ds := by
  cases a with
  | non => have h : some PyData.none = some d := h; cases h; exact .inl ⟨rfl, rfl⟩
  | bl b => have h : some (PyData.bool b) = some d := h; cases h; exact .inr (.inl ⟨_, rfl, rfl⟩)
  | int b => have h : some (PyData.int b) = some d := h; cases h; exact .inr (.inr (.inl ⟨_, rfl, rfl⟩))
  | str b => have h : some (PyData.str b) = some d := h; cases h; exact .inr (.inr (.inr (.inl ⟨_, rfl, rfl⟩)))
  | lst xs =>
    have h : (toDs xs).map PyData.list = some d := h
    obtain ⟨ds, e, rfl⟩ := Option.map_eq_some_iff.mp h
    exact .inr (.inr (.inr (.inr (.inl ⟨xs, ds, rfl, rfl, e⟩))))
  | tup xs =>
    have h : (toDs xs).map PyData.tuple = some d := h
    obtain ⟨ds, e, rfl⟩ := Option.map_eq_some_iff.mp h
    exact .inr (.inr (.inr (.inr (.inr ⟨xs, ds, rfl, rfl, e⟩))))
  | dct _ => exact nomatch (show none = some d from h)
  | ref _ => exact nomatch (show none = some d from h)
  | arg _ => exact nomatch (show none = some d from h)
theorem toD_non {a : Wv} (h : toD a = some .none) : a = .non := by
  rcases toD_cases h with ⟨e, z⟩ | ⟨_, e, z⟩ | ⟨_, e, z⟩ | ⟨_, e, z⟩ | ⟨_, _, e, z, _⟩ | ⟨_, _, e, z, _⟩ <;> first | exact e | cases z
theorem toD_bl {a : Wv} {b : Bool} (h : toD a = some (.bool b)) : a = .bl b := by
  rcases toD_cases h with ⟨e, z⟩ | ⟨_, e, z⟩ | ⟨_, e, z⟩ | ⟨_, e, z⟩ | ⟨_, _, e, z, _⟩ | ⟨_, _, e, z, _⟩ <;> cases z <;> exact e
theorem toD_int {a : Wv} {b : Int} (h : toD a = some (.int b)) : a = .int b := by
  rcases toD_cases h with ⟨e, z⟩ | ⟨_, e, z⟩ | ⟨_, e, z⟩ | ⟨_, e, z⟩ | ⟨_, _, e, z, _⟩ | ⟨_, _, e, z, _⟩ <;> cases z <;> exact e
theorem toD_str {a : Wv} {b : Str} (h : toD a = some (.str b)) : a = .str b := by
  rcases toD_cases h with ⟨e, z⟩ | ⟨_, e, z⟩ | ⟨_, e, z⟩ | ⟨_, e, z⟩ | ⟨_, _, e, z, _⟩ | ⟨_, _, e, z, _⟩ <;> cases z <;> exact e
theorem toD_lst {a : Wv} {ds : List PyData} (h : toD a = some (.list ds)) : ∃ xs, a = .lst xs ∧ toDs xs = some ds := by
  rcases toD_cases h with ⟨e, z⟩ | ⟨_, e, z⟩ | ⟨_, e, z⟩ | ⟨_, e, z⟩ | ⟨_, _, e, z, q⟩ | ⟨_, _, e, z, q⟩ <;> cases z <;> exact ⟨_, e, q⟩
theorem toD_tup {a : Wv} {ds : List PyData} (h : toD a = some (.tuple ds)) : ∃ xs, a = .tup xs ∧ toDs xs = some ds := by
  rcases toD_cases h with ⟨e, z⟩ | ⟨_, e, z⟩ | ⟨_, e, z⟩ | ⟨_, e, z⟩ | ⟨_, _, e, z, q⟩ | ⟨_, _, e, z, q⟩ <;> cases z <;> exact ⟨_, e, q⟩
theorem toD_dict {a : Wv} {ds : List (PyData × PyData)} (h : toD a = some (.dict ds)) : False := by
  rcases toD_cases h with ⟨e, z⟩ | ⟨_, e, z⟩ | ⟨_, e, z⟩ | ⟨_, e, z⟩ | ⟨_, _, e, z, q⟩ | ⟨_, _, e, z, q⟩ <;> cases z
theorem toDs_len : ∀ {xs : List Wv} {ds : List PyData}, toDs xs = some ds → xs.length = ds.length
  | [], ds, h => by have h : some [] = some ds := h; cases h; rfl
  | x :: xs, ds, h => by
    obtain ⟨d, es, rfl, _, h2⟩ := toDs_cons h
    simp [toDs_len h2]
theorem toDs_zip : ∀ {xs : List Wv} {ds : List PyData}, toDs xs = some ds → ∀ p ∈ xs.zip ds, toD p.1 = some p.2
  | [], ds, h, p, hp => by simp at hp
  | x :: xs, ds, h, p, hp => by
    obtain ⟨d, es, rfl, h1, h2⟩ := toDs_cons h
    rcases List.mem_cons.mp hp with rfl | hp
    · exact h1
    · exact toDs_zip h2 p hp
theorem toDs_at : ∀ {xs : List Wv} {ds : List PyData}, toDs xs = some ds → ∀ (i : Nat) (w : Wv) (d : PyData), xs[i]? = some w → ds[i]? = some d → toD w = some d
  | [], ds, h, i, w, d, h1, h2 => by simp at h1
  | x :: xs, ds, h, i, w, d, h1, h2 => by
    obtain ⟨e, es, rfl, a1, a2⟩ := toDs_cons h
    cases i with
    | zero => simp at h1 h2; subst h1 h2; exact a1
    | succ i => exact toDs_at a2 i w d (by simpa using h1) (by simpa using h2)

/-! ### data -/
mutual
theorem toD_inj : ∀ {a b : Wv} {d : PyData}, toD a = some d → toD b = some d → a = b
  | a, b, .none, h1, h2 => by rw [toD_non h1, toD_non h2]
  | a, b, .bool x, h1, h2 => by rw [toD_bl h1, toD_bl h2]
  | a, b, .int x, h1, h2 => by rw [toD_int h1, toD_int h2]
  | a, b, .str x, h1, h2 => by rw [toD_str h1, toD_str h2]
  | a, b, .list ds, h1, h2 => by
    obtain ⟨xs, rfl, e1⟩ := toD_lst h1
    obtain ⟨ys, rfl, e2⟩ := toD_lst h2
    rw [toDs_inj e1 e2]
  | a, b, .tuple ds, h1, h2 => by
    obtain ⟨xs, rfl, e1⟩ := toD_tup h1
    obtain ⟨ys, rfl, e2⟩ := toD_tup h2
    rw [toDs_inj e1 e2]
  | a, b, .dict ds, h1, h2 => (toD_dict h1).elim
theorem toDs_inj : ∀ {a b : List Wv} {ds : List PyData}, toDs a = some ds → toDs b = some ds → a = b
  | [], [], _, _, _ => rfl
  | [], y :: ys, [], h1, h2 => by obtain ⟨d, es, e, _⟩ := toDs_cons h2; cases e
  | [], y :: ys, d :: ds, h1, h2 => by cases h1
  | x :: xs, [], ds, h1, h2 => by cases h2; obtain ⟨d, es, e, _⟩ := toDs_cons h1; cases e
  | x :: xs, y :: ys, [], h1, h2 => by obtain ⟨d, es, e, _⟩ := toDs_cons h1; cases e
  | x :: xs, y :: ys, d :: ds, h1, h2 => by
    obtain ⟨d1, es1, e1, a1, b1⟩ := toDs_cons h1
    obtain ⟨d2, es2, e2, a2, b2⟩ := toDs_cons h2
    cases e1; cases e2
    rw [toD_inj a1 a2, toDs_inj b1 b2]
end

/-! ### sorted rows -/
def leP (a b : Wv × PyData) : Bool := !PySem.W.dataLt b.2 a.2
theorem leP_eq : leP = PySem.W.dataLe false Prod.snd := rfl
theorem leP_total : PySem.W.TotalLe leP := by
  rw [leP_eq]
  unfold PySem.W.dataLe
  exact PySem.W.sortLe_total _ _ _
theorem insP_at (x : Wv × PyData) : ∀ (l₁ l₂ : List (Wv × PyData)), (∀ b ∈ l₁, (!leP x b) = true) → (∀ b ∈ l₂, leP x b = true) → insP x (l₁ ++ l₂) = l₁ ++ x :: l₂
  | [], [], _, _ => rfl
  | [], y :: ys, _, h => by
    have hy : leP x y = true := h y List.mem_cons_self
    have hy : PySem.W.dataLt y.2 x.2 = false := by unfold leP at hy; simpa using hy
    show (if PySem.W.dataLt y.2 x.2 then y :: insP x ys else x :: y :: ys) = x :: y :: ys
    rw [hy]; rfl
  | y :: l₁, l₂, h1, h2 => by
    have hy : (!leP x y) = true := h1 y List.mem_cons_self
    have hy : PySem.W.dataLt y.2 x.2 = true := by unfold leP at hy; simpa using hy
    show (if PySem.W.dataLt y.2 x.2 then y :: insP x (l₁ ++ l₂) else x :: y :: (l₁ ++ l₂)) = y :: (l₁ ++ x :: l₂)
    rw [hy, if_pos rfl, insP_at x l₁ l₂ (fun b hb => h1 b (List.mem_cons_of_mem _ hb)) h2]
theorem isortP_eq : ∀ l : List (Wv × PyData), isortP l = l.mergeSort leP
  | [] => by rw [List.mergeSort_nil]; rfl
  | x :: xs => by
    have tr : ∀ a b c : Wv × PyData, leP a b = true → leP b c = true → leP a c = true := leP_total.trans
    have to : ∀ a b : Wv × PyData, (leP a b || leP b a) = true := fun a b => by rw [Bool.or_eq_true]; exact leP_total.total a b
    obtain ⟨l₁, l₂, e1, e2, h⟩ := List.mergeSort_cons tr to x xs
    have hs := List.pairwise_mergeSort tr to (x :: xs)
    rw [e1] at hs ⊢
    show insP x (isortP xs) = _
    rw [isortP_eq xs, e2]
    refine insP_at x l₁ l₂ h fun b hb => ?_
    rw [List.pairwise_append] at hs
    exact (List.pairwise_cons.mp hs.2.1).1 b hb
section
variable {K : PySem.W.Frag} {H : Hp} {ι : Io} {Y : Addr → Prop}
theorem each_zip : ∀ {ws : List Wv} {vs : List V} {ds : List PyData}, RepL K H ι Y ws vs → ws.length = ds.length → PySem.W.EachIs (fun (a : Wv × PyData) (b : V × PyData) => RepV K H ι Y a.1 b.1 ∧ a.2 = b.2) (ws.zip ds) (vs.zip ds)
  | _, _, [], .nil, _ => .nil
  | _, _, d :: ds, .cons r t, e => .cons ⟨r, rfl⟩ (each_zip t (by simpa using e))
theorem each_rep : ∀ {as : List (Wv × PyData)} {bs : List (V × PyData)}, PySem.W.EachIs (fun (a : Wv × PyData) (b : V × PyData) => RepV K H ι Y a.1 b.1 ∧ a.2 = b.2) as bs → RepL K H ι Y (as.map (·.1)) (bs.map Prod.fst)
  | _, _, .nil => .nil
  | _, _, .cons r t => .cons r.1 (each_rep t)
theorem sort_rep {ws : List Wv} {vs : List V} {ds : List PyData} (l : RepL K H ι Y ws vs) (e : ws.length = ds.length) : RepL K H ι Y ((isortP (ws.zip ds)).map (·.1)) (Gx.sortV vs ds) := by
  rw [isortP_eq]
  unfold Gx.sortV
  refine each_rep (PySem.W.sort_each (each_zip l e) fun p hp q hq => ?_)
  have h1 : p.1.2 = p.2.2 := (PySem.W.EachIs.zip (each_zip l e) p hp).2
  have h2 : q.1.2 = q.2.2 := (PySem.W.EachIs.zip (each_zip l e) q hq).2
  show (!PySem.W.dataLt q.1.2 p.1.2) = (!PySem.W.dataLt q.2.2 p.2.2)
  rw [h1, h2]
theorem sort_wanted {G : Glob} {S : Sto} {ws : List Wv} {vs : List V} {Q : VK} {E : XK} (R : Rel K G ι Y S H) (l : RepL K H ι Y ws vs) (p : PostN K G Y ι H (sortW ws S) Q E) : Gx.SortOk K Q vs H := by
  unfold sortW at p
  cases e : toDs ws with
  | none => rw [e] at p; exact p.elim
  | some ds =>
    rw [e] at p
    have p : PostN K G Y ι H (if sortB ds then .ok (.lst ((isortP (ws.zip ds)).map (·.1))) S else .bad) Q E := p
    by_cases hs : sortB ds = true
    · rw [if_pos hs] at p
      unfold sortB at hs
      rw [Bool.and_eq_true, Bool.and_eq_true, Bool.or_eq_true] at hs
      obtain ⟨h1, h2, h3⟩ := hs
      refine ⟨ds, toDs_Dp ws vs ds l e, fun d hd d' hd' => ?_, ?_, fun d hd => of_decide_eq_true (List.all_eq_true.mp h3 d hd), p.newL R (sort_rep l (toDs_len e))⟩
      · exact List.all_eq_true.mp (List.all_eq_true.mp h1 d hd) d' hd'
      · rcases h2 with h2 | h2
        · refine .inl fun d hd => ?_
          have q := List.all_eq_true.mp h2 d hd
          unfold isTupC at q
          split at q
          · exact ⟨_, _, rfl⟩
          · cases q
        · refine .inr fun d hd => ?_
          have q := List.all_eq_true.mp h2 d hd
          rw [Bool.and_eq_true, Bool.not_eq_true', Bool.not_eq_true'] at q
          refine ⟨fun z => ?_, fun xs z => ?_⟩
          · rw [z] at q; cases q.2
          · rw [z] at q; cases q.1
    · rw [if_neg hs] at p; exact p.elim
theorem RepL.keys : ∀ {ws : List (Key × Wv)} {vs : List (Key × V)}, RepD K H ι Y ws vs → RepL K H ι Y (ws.map fun kv => keyV kv.1) (vs.map fun kv => kV kv.1)
  | _, _, .nil => .nil
  | _, _, .cons (k := k) r t => by
    refine .cons ?_ (RepL.keys t)
    cases k with
    | inl i => exact .int i
    | inr s => exact .str s
theorem mergeW_V : ∀ {ms : List (Key × Wv)} {ns : List (Key × V)} {ws : List (Key × Wv)} {vs : List (Key × V)}, RepD K H ι Y ms ns → RepD K H ι Y ws vs → RepD K H ι Y (mergeW ws ms) (mergeK vs ns)
  | _, _, _, _, .nil, d => d
  | _, _, ws, vs, .cons (k := k) (w := w) (v := v) (ws := ms) (vs := ns) r t, d => by
    show RepD K H ι Y (mergeW (putW ws k w) ms) (mergeK (putK vs k v) ns)
    exact mergeW_V t (putW_V r d)
theorem pairs_rep : ∀ {ws : List Wv} {vs : List V} {kvs : List (Key × Wv)}, RepL K H ι Y ws vs → pairsW ws = some kvs → ∃ (ps : List Addr) (nvs : List (Key × V)), vs = ps.map V.ref ∧ Paired (fun p kv => SqT K H p [kV kv.1, kv.2]) ps nvs ∧ RepD K H ι Y kvs nvs
  | _, _, kvs, .nil, e => by
    have e : some [] = some kvs := e
    cases e
    exact ⟨[], [], rfl, .nil, .nil⟩
  | w :: ws, _, kvs, .cons r t, e => by
    unfold pairsW at e
    split at e
    · rename_i heq; cases heq
    · rename_i a b r' heq
      cases heq
      cases e1 : keyW a with
      | none => rw [e1] at e; cases e
      | some k =>
        cases e2 : pairsW ws with
        | none => rw [e1, e2] at e; cases e
        | some kws =>
          rw [e1, e2] at e
          cases e
          obtain ⟨p, rfl, us, hs, l⟩ := r.tup_ref
          obtain ⟨v, v', rfl, r1, r2⟩ := l.two
          cases keyW_V r1 e1
          obtain ⟨ps, nvs, rfl, h1, h2⟩ := pairs_rep t e2
          exact ⟨p :: ps, (k, v') :: nvs, rfl, .cons hs h1, .cons r2 h2⟩
    · cases e
end
theorem bi_len : CallR X (biF .len) (rBi X.K G .len) := by
  intro pins s σ H vs us Q I rv h
  obtain ⟨ι, Y, S, ws, E, R, l, p⟩ := h
  match ws, l, p with
  | [], _, p => exact p.elim
  | _ :: _ :: _, _, p => exact p.elim
  | [w], l, p =>
    obtain ⟨v, rfl, r⟩ := l.one
    have p : Post X.K G Y ι H (match rd S w with
      | .lst xs => .ok (.int xs.length) S
      | .tup xs => .ok (.int xs.length) S
      | .str z => if z.length ≤ sizeLine then .ok (.int z.length) S else .bad
      | _ => .bad) Q E := p
    cases e : rd S w with
    | lst xs =>
      rw [e] at p
      obtain ⟨q, vs, rfl, h, l2⟩ := rd_lst R r e
      exact call_len_seq pins s σ H _ us Q I rv ⟨q, vs, rfl, .inl (SqL.of h), by rw [← l2.length]; exact p.here R (.int _)⟩
    | tup xs =>
      rw [e] at p
      rw [rd_tup e] at r
      obtain ⟨q, rfl, vs, h, l2⟩ := r.tup_ref
      exact call_len_seq pins s σ H _ us Q I rv ⟨q, vs, rfl, .inr h, by rw [← l2.length]; exact p.here R (.int _)⟩
    | str z =>
      rw [e] at p
      rw [rd_str e] at r
      cases r.str_eq
      by_cases hz : z.length ≤ sizeLine
      · simp only [if_pos hz] at p
        exact call_len_str pins s σ H _ us Q I rv ⟨z, rfl, hz, p.here R (.int _)⟩
      · simp only [if_neg hz] at p; exact p.elim
    | non => rw [e] at p; exact p.elim
    | bl _ => rw [e] at p; exact p.elim
    | int _ => rw [e] at p; exact p.elim
    | ref _ => rw [e] at p; exact p.elim
    | dct _ => rw [e] at p; exact p.elim
    | arg _ => rw [e] at p; exact p.elim
theorem bi_str : CallR X (biF .str) (rBi X.K G .str) := by
  intro pins s σ H vs us Q I rv h
  obtain ⟨ι, Y, S, ws, E, R, l, p⟩ := h
  match ws, l, p with
  | [], _, p => exact p.elim
  | w1 :: _ :: _, _, p => cases w1 <;> exact p.elim
  | [w], l, p =>
    obtain ⟨v, rfl, r⟩ := l.one
    cases w <;> first | exact p.elim | skip
    rename_i i
    cases r.int_eq
    have p : Post X.K G Y ι H (if i.natAbs.log2 < 1920 then .ok (.str (Str.ofString (toString i))) S else .bad) Q E := p
    by_cases hz : i.natAbs.log2 < 1920
    · rw [if_pos hz] at p
      exact call_str_int pins s σ H _ us Q I rv ⟨i, rfl, hz, p.here R (.str _)⟩
    · rw [if_neg hz] at p; exact p.elim
theorem int_or : CallR X (.type "int") (fun xs H Q => ((∃ i, xs = [.int i] ∧ Q (.int i) H) ∨ ∃ k, xs = [.bl k] ∧ Q (.int (if k then 1 else 0)) H) ∨ (∃ a n, xs = [.str a] ∧ PySem.intText? a = some n ∧ a.length ≤ 640 ∧ Q (.int n) H)) := by
  intro pins s σ H vs us Q I rv h
  rcases h with h | h
  · exact call_int1 pins s σ H vs us Q I rv h
  · exact call_int_str pins s σ H vs us Q I rv h
theorem bi_int : CallR X (biF .int) (rBi X.K G .int) := by
  intro pins s σ H vs us Q I rv h
  obtain ⟨ι, Y, S, ws, E, R, l, p⟩ := h
  match ws, l, p with
  | [], _, p => exact p.elim
  | w1 :: _ :: _, _, p => cases w1 <;> exact p.elim
  | [w], l, p =>
    obtain ⟨v, rfl, r⟩ := l.one
    cases w <;> first | exact p.elim | skip
    · rename_i b
      cases r.bl_eq
      exact int_or pins s σ H _ us Q I rv (.inl (.inr ⟨_, rfl, p.here R (.int _)⟩))
    · rename_i i
      cases r.int_eq
      exact int_or pins s σ H _ us Q I rv (.inl (.inl ⟨_, rfl, p.here R (.int _)⟩))
    · rename_i a
      cases r.str_eq
      have p : Post X.K G Y ι H (match PySem.intText? a with
        | some n => if a.length ≤ 640 then .ok (.int n) S else .bad
        | none => .bad) Q E := p
      cases e : PySem.intText? a with
      | none => simp only [e] at p; exact p.elim
      | some n =>
        simp only [e] at p
        by_cases hz : a.length ≤ 640
        · rw [if_pos hz] at p
          exact int_or pins s σ H _ us Q I rv (.inr ⟨_, n, rfl, e, hz, p.here R (.int _)⟩)
        · rw [if_neg hz] at p; exact p.elim
theorem bi_abs : CallR X (biF .abs) (rBi X.K G .abs) := by
  intro pins s σ H vs us Q I rv h
  obtain ⟨ι, Y, S, ws, E, R, l, p⟩ := h
  match ws, l, p with
  | [], _, p => exact p.elim
  | w1 :: _ :: _, _, p => cases w1 <;> exact p.elim
  | [w], l, p =>
    obtain ⟨v, rfl, r⟩ := l.one
    cases w <;> first | exact p.elim | skip
    cases r.int_eq
    exact call_abs pins s σ H _ us Q I rv ⟨_, rfl, p.here R (.int _)⟩
theorem bi_min2 (hc : X.calm = true) : CallR X (biF .min2) (rBi X.K G .min2) := by
  intro pins s σ H vs us Q I rv h
  obtain ⟨ι, Y, S, ws, E, R, l, p⟩ := h
  match ws, l, p with
  | [], _, p => exact p.elim
  | [w1], _, p => cases w1 <;> exact p.elim
  | w1 :: w2 :: _ :: _, _, p => cases w1 <;> first | exact p.elim | (cases w2 <;> exact p.elim)
  | [w, w'], l, p =>
    obtain ⟨v, v', rfl, r, r'⟩ := l.two
    cases w <;> first | exact p.elim | skip
    cases w' <;> first | exact p.elim | skip
    cases r.int_eq; cases r'.int_eq
    exact call_min2 hc pins s σ H _ us Q I rv ⟨_, _, rfl, p.here R (.int _)⟩
theorem bi_max2 (hc : X.calm = true) : CallR X (biF .max2) (rBi X.K G .max2) := by
  intro pins s σ H vs us Q I rv h
  obtain ⟨ι, Y, S, ws, E, R, l, p⟩ := h
  match ws, l, p with
  | [], _, p => exact p.elim
  | [w1], _, p => cases w1 <;> exact p.elim
  | w1 :: w2 :: _ :: _, _, p => cases w1 <;> first | exact p.elim | (cases w2 <;> exact p.elim)
  | [w, w'], l, p =>
    obtain ⟨v, v', rfl, r, r'⟩ := l.two
    cases w <;> first | exact p.elim | skip
    cases w' <;> first | exact p.elim | skip
    cases r.int_eq; cases r'.int_eq
    exact call_max2 hc pins s σ H _ us Q I rv ⟨_, _, rfl, p.here R (.int _)⟩
theorem bi_sum (hc : X.calm = true) : CallR X (biF .sum) (rBi X.K G .sum) := by
  intro pins s σ H vs us Q I rv h
  obtain ⟨ι, Y, S, ws, E, R, l, p⟩ := h
  match ws, l, p with
  | [], _, p => exact p.elim
  | w1 :: _ :: _, _, p => cases w1 <;> exact p.elim
  | [w], l, p =>
    obtain ⟨v, rfl, r⟩ := l.one
    cases w <;> first | exact p.elim | skip
    rename_i xs
    obtain ⟨q, rfl, vs, h, l2⟩ := r.lst_ref
    have p : Post X.K G Y ι H (match intsW xs with
      | some ns => .ok (.int ns.sum) S
      | none => .bad) Q E := p
    cases e : intsW xs with
    | none => simp only [e] at p; exact p.elim
    | some ns =>
      simp only [e] at p
      rw [intsW_map e] at l2
      rw [l2.ints] at h
      exact cr_sum hc pins s σ H _ us Q I rv ⟨q, ns, rfl, SqL.of h, p.here R (.int _)⟩

theorem bi_tup1 : CallR X (biF .tup1) (rBi X.K G .tup1) := by
  intro pins s σ H vs us Q I rv h
  obtain ⟨ι, Y, S, ws, E, R, l, p⟩ := h
  match ws, l, p with
  | [], _, p => exact p.elim
  | _ :: _ :: _, _, p => exact p.elim
  | [w], l, p =>
    obtain ⟨v, rfl, r⟩ := l.one
    have p : Post X.K G Y ι H (match rd S w with
      | .lst xs => .ok (.tup xs) S
      | .tup xs => .ok (.tup xs) S
      | _ => .bad) Q E := p
    cases e : rd S w with
    | lst xs =>
      rw [e] at p
      obtain ⟨q, vs, rfl, h, l2⟩ := rd_lst R r e
      exact call_tuple_of pins s σ H _ us Q I rv ⟨q, vs, rfl, .inl ⟨SqL.of h, p.newT R l2⟩⟩
    | tup xs =>
      rw [e] at p
      rw [rd_tup e] at r
      obtain ⟨q, rfl, vs, h, l2⟩ := r.tup_ref
      exact call_tuple_of pins s σ H _ us Q I rv ⟨q, vs, rfl, .inr ⟨h, p.here R r⟩⟩
    | _ => rw [e] at p; exact p.elim
theorem bestP_mem (lt : PyData → PyData → Bool) : ∀ (xs : List (Wv × PyData)) (x : Wv × PyData), bestP lt x xs ∈ x :: xs
  | [], x => List.mem_cons_self
  | y :: ys, x => by
    have e : bestP lt x (y :: ys) = bestP lt (if lt y.2 x.2 then y else x) ys := rfl
    rw [e]
    rcases List.mem_cons.mp (bestP_mem lt ys (if lt y.2 x.2 then y else x)) with h | h
    · rw [h]
      split
      · exact List.mem_cons_of_mem _ List.mem_cons_self
      · exact List.mem_cons_self
    · exact List.mem_cons_of_mem _ (List.mem_cons_of_mem _ h)
theorem bestP_snd (lt : PyData → PyData → Bool) : ∀ (ws : List Wv) (ds : List PyData) (x : Wv × PyData), ws.length = ds.length → (bestP lt x (ws.zip ds)).2 = ds.foldl (fun a y => if lt y a then y else a) x.2
  | [], [], x, _ => rfl
  | w :: ws, d :: ds, x, e => by
    have e1 : bestP lt x ((w :: ws).zip (d :: ds)) = bestP lt (if lt d x.2 then (w, d) else x) (ws.zip ds) := rfl
    rw [e1, bestP_snd lt ws ds _ (by simpa using e)]
    show _ = ds.foldl _ (if lt d x.2 then d else x.2)
    by_cases h : lt d x.2 = true
    · rw [if_pos h, if_pos h]
    · rw [if_neg h, if_neg h]
theorem best_wanted {K : PySem.W.Frag} {H : Hp} {ι : Io} {Y : Addr → Prop} {S : Sto} {lt : PyData → PyData → Bool} {ws : List Wv} {vs : List V} {Q : VK} {E : XK} (R : Rel K G ι Y S H) (l : RepL K H ι Y ws vs) (p : Post K G Y ι H (bestW lt ws S) Q E) :
    ∃ d ds, DpAll K H vs (d :: ds) ∧ PySem.W.AlikeAll (d :: ds) ∧ PyData.depthAll (d :: ds) ≤ 60 ∧ ∀ (i : Nat) (v : V), vs[i]? = some v → (d :: ds)[i]? = some (ds.foldl (fun a y => if lt y a then y else a) d) → Q v H := by
  unfold bestW at p
  cases e : toDs ws with
  | none => rw [e] at p; exact p.elim
  | some es =>
    rw [e] at p
    have p : Post K G Y ι H (if alikeB es && (!(es.any isNonD) && decide (PyData.depthAll es ≤ 60)) then (match ws.zip es with | p :: ps => .ok (bestP lt p ps).1 S | [] => .bad) else .bad) Q E := p
    by_cases hs : (alikeB es && (!(es.any isNonD) && decide (PyData.depthAll es ≤ 60))) = true
    · rw [if_pos hs] at p
      rw [Bool.and_eq_true, Bool.and_eq_true, Bool.not_eq_true', decide_eq_true_eq] at hs
      obtain ⟨h1, h2, h3⟩ := hs
      have hd := toDs_Dp ws vs es l e
      cases ws with
      | nil =>
        have : ([] : List Wv).zip es = [] := rfl
        rw [this] at p; exact p.elim
      | cons w0 ws =>
        obtain ⟨d, ds, rfl, a1, a2⟩ := toDs_cons e
        have p : Post K G Y ι H (.ok (bestP lt (w0, d) (ws.zip ds)).1 S) Q E := p
        refine ⟨d, ds, hd, ⟨fun x hx y hy => List.all_eq_true.mp (List.all_eq_true.mp h1 x hx) y hy, fun x hx z => ?_⟩, h3, fun i v hv hm => ?_⟩
        · have := List.any_eq_false.mp h2 x hx
          rw [z] at this
          exact this rfl
        · obtain ⟨w, hw, rw1⟩ := l.getV hv
          have t1 := toDs_at e i w _ hw hm
          have t2 : toD (bestP lt (w0, d) (ws.zip ds)).1 = some (bestP lt (w0, d) (ws.zip ds)).2 := toDs_zip e _ (bestP_mem lt _ _)
          rw [bestP_snd lt ws ds _ (toDs_len a2)] at t2
          rw [toD_inj t2 t1] at p
          exact p.here R rw1
    · rw [if_neg hs] at p; exact p.elim
theorem bi_min1 (hc : X.calm = true) (hu : X.A.units + 70 < cLine) : CallR X (biF .min1) (rBi X.K G .min1) := by
  intro pins s σ H vs us Q I rv h
  obtain ⟨ι, Y, S, ws, E, R, l, p⟩ := h
  match ws, l, p with
  | [], _, p => exact p.elim
  | w1 :: _ :: _, _, p => cases w1 <;> exact p.elim
  | [w], l, p =>
    obtain ⟨v, rfl, r⟩ := l.one
    have p : Post X.K G Y ι H (match rd S w with
      | .lst xs => bestW PySem.W.dataLt xs S
      | .tup xs => bestW PySem.W.dataLt xs S
      | _ => .bad) Q E := p
    cases e : rd S w with
    | lst xs =>
      rw [e] at p
      obtain ⟨q, vs, rfl, h, l2⟩ := rd_lst R r e
      obtain ⟨d, ds, h1, h2, h3, h4⟩ := best_wanted R l2 p
      exact Mz.cr_minA hc hu pins s σ H _ us Q I rv ⟨q, vs, d, ds, rfl, .inl (SqL.of h), h1, h2, h3, h4⟩
    | tup xs =>
      rw [e] at p
      rw [rd_tup e] at r
      obtain ⟨q, rfl, vs, h, l2⟩ := r.tup_ref
      obtain ⟨d, ds, h1, h2, h3, h4⟩ := best_wanted R l2 p
      exact Mz.cr_minA hc hu pins s σ H _ us Q I rv ⟨q, vs, d, ds, rfl, .inr h, h1, h2, h3, h4⟩
    | _ => rw [e] at p; exact p.elim
theorem bi_max1 (hc : X.calm = true) (hu : X.A.units + 70 < cLine) : CallR X (biF .max1) (rBi X.K G .max1) := by
  intro pins s σ H vs us Q I rv h
  obtain ⟨ι, Y, S, ws, E, R, l, p⟩ := h
  match ws, l, p with
  | [], _, p => exact p.elim
  | w1 :: _ :: _, _, p => cases w1 <;> exact p.elim
  | [w], l, p =>
    obtain ⟨v, rfl, r⟩ := l.one
    have p : Post X.K G Y ι H (match rd S w with
      | .lst xs => bestW (fun x y => PySem.W.dataLt y x) xs S
      | .tup xs => bestW (fun x y => PySem.W.dataLt y x) xs S
      | _ => .bad) Q E := p
    cases e : rd S w with
    | lst xs =>
      rw [e] at p
      obtain ⟨q, vs, rfl, h, l2⟩ := rd_lst R r e
      obtain ⟨d, ds, h1, h2, h3, h4⟩ := best_wanted R l2 p
      exact Mz.cr_maxA hc hu pins s σ H _ us Q I rv ⟨q, vs, d, ds, rfl, .inl (SqL.of h), h1, h2, h3, h4⟩
    | tup xs =>
      rw [e] at p
      rw [rd_tup e] at r
      obtain ⟨q, rfl, vs, h, l2⟩ := r.tup_ref
      obtain ⟨d, ds, h1, h2, h3, h4⟩ := best_wanted R l2 p
      exact Mz.cr_maxA hc hu pins s σ H _ us Q I rv ⟨q, vs, d, ds, rfl, .inr h, h1, h2, h3, h4⟩
    | _ => rw [e] at p; exact p.elim
theorem bi_ok (hc : X.calm = true) (hu : X.A.units + 70 < cLine) : ∀ b : BI, CallR X (biF b) (rBi X.K G b)
  | .len => bi_len | .str => bi_str | .int => bi_int | .abs => bi_abs | .min2 => bi_min2 hc | .max2 => bi_max2 hc | .sum => bi_sum hc | .tup1 => bi_tup1 | .min1 => bi_min1 hc hu | .max1 => bi_max1 hc hu
end
/-! ### what makes a list, a dict -/
def bnF : BN → Value
  | .lst1 => .type "list" | .srt => .builtin "sorted" | .dct1 => .type "dict"
def rBn (K : PySem.W.Frag) (G : Glob) (b : BN) : List V → Hp → VK → Prop := fun vs H Q => ∃ ι Y S ws E, Rel K G ι Y S H ∧ RepL K H ι Y ws vs ∧ PostN K G Y ι H (bnW b ws S) Q E
section
variable {X : Cx} {G : Glob}
theorem bn_ok (hc : X.calm = true) (hu : X.A.units + 70 < cLine) (b : BN) : CallR X (bnF b) (rBn X.K G b) := by
  intro pins s σ H vs us Q I rv h
  obtain ⟨ι, Y, S, ws, E, R, l, p⟩ := h
  match ws, l, p with
  | [], _, p => cases b <;> exact p.elim
  | _ :: _ :: _, _, p => cases b <;> exact p.elim
  | [w], l, p =>
    obtain ⟨v, rfl, r⟩ := l.one
    cases b with
    | lst1 =>
      have p : PostN X.K G Y ι H (match rd S w with
        | .lst xs => .ok (.lst xs) S
        | .tup xs => .ok (.lst xs) S
        | .dct kvs => .ok (.lst (kvs.map fun kv => keyV kv.1)) S
        | _ => .bad) Q E := p
      cases e : rd S w with
      | lst xs =>
        rw [e] at p
        obtain ⟨q, vs, rfl, h, l2⟩ := rd_lst R r e
        exact call_list_of pins s σ H _ us Q I rv ⟨q, vs, rfl, .inl (SqL.of h), p.newL R l2⟩
      | tup xs =>
        rw [e] at p
        rw [rd_tup e] at r
        obtain ⟨q, rfl, vs, h, l2⟩ := r.tup_ref
        exact call_list_of pins s σ H _ us Q I rv ⟨q, vs, rfl, .inr h, p.newL R l2⟩
      | dct kvs =>
        rw [e] at p
        obtain ⟨q, vs, rfl, h, l2⟩ := rd_dct R r e
        exact call_list_dK hc pins s σ H _ us Q I rv ⟨q, vs, rfl, h, p.newL R (RepL.keys l2)⟩
      | _ => rw [e] at p; exact p.elim
    | srt =>
      have p : PostN X.K G Y ι H (match rd S w with
        | .lst xs => sortW xs S
        | .dct kvs => sortW (kvs.map fun kv => keyV kv.1) S
        | _ => .bad) Q E := p
      cases e : rd S w with
      | lst xs =>
        rw [e] at p
        obtain ⟨q, vs, rfl, h, l2⟩ := rd_lst R r e
        exact Mz.cr_sortA hc hu pins s σ H _ us Q I rv ⟨q, rfl, .inl ⟨vs, SqL.of h, sort_wanted R l2 p⟩⟩
      | dct kvs =>
        rw [e] at p
        obtain ⟨q, vs, rfl, h, l2⟩ := rd_dct R r e
        exact Mz.cr_sortA hc hu pins s σ H _ us Q I rv ⟨q, rfl, .inr ⟨vs, .inl h, sort_wanted R (RepL.keys l2) p⟩⟩
      | _ => rw [e] at p; exact p.elim
    | dct1 =>
      have p : PostN X.K G Y ι H (match rd S w with
        | .lst xs => (match pairsW xs with
          | some kvs => if xs.length ≤ sizeLine then .ok (.dct (mergeW [] kvs)) S else .bad
          | none => .bad)
        | _ => .bad) Q E := p
      cases e : rd S w with
      | lst xs =>
        rw [e] at p
        obtain ⟨q, vs, rfl, h, l2⟩ := rd_lst R r e
        have p : PostN X.K G Y ι H (match pairsW xs with | some kvs => if xs.length ≤ sizeLine then .ok (.dct (mergeW [] kvs)) S else .bad | none => .bad) Q E := p
        cases ep : pairsW xs with
        | none => rw [ep] at p; exact p.elim
        | some kvs =>
          rw [ep] at p
          have p : PostN X.K G Y ι H (if xs.length ≤ sizeLine then .ok (.dct (mergeW [] kvs)) S else .bad) Q E := p
          by_cases hz : xs.length ≤ sizeLine
          · rw [if_pos hz] at p
            obtain ⟨ps, nvs, rfl, h1, h2⟩ := pairs_rep l2 ep
            exact call_dictP hc pins s σ H _ us Q I rv ⟨q, ps, nvs, rfl, SqL.of h, h1, p.newD R (mergeW_V h2 .nil)⟩
          · rw [if_neg hz] at p; exact p.elim
      | _ => rw [e] at p; exact p.elim
end

/-! ### methods of texts -/
def miId : MI → String
  | .split => "str.split" | .partition => "str.partition" | .join => "str.join"
def rMi (K : PySem.W.Frag) (G : Glob) (m : MI) : V → List V → Hp → VK → Prop := fun x vs H Q => ∃ ι Y S w ws E, Rel K G ι Y S H ∧ RepV K H ι Y w x ∧ RepL K H ι Y ws vs ∧ Post K G Y ι H (miW m w ws S) Q E
section
variable {X : Cx} {G : Glob}
theorem mi_split : MtR X (miId .split) (rMi X.K G .split) := by
  intro pins s σ H x xs v us Q I rx rv h
  obtain ⟨ι, Y, S, w, ws, E, R, r, l, p⟩ := h
  cases w <;> first | exact p.elim | skip
  rename_i a
  cases r.str_eq
  match ws, l, p with
  | [], _, p => exact p.elim
  | w1 :: _ :: _, _, p => cases w1 <;> exact p.elim
  | [w], l, p =>
    obtain ⟨v, rfl, r⟩ := l.one
    cases w <;> first | exact p.elim | skip
    rename_i b
    cases r.str_eq
    have p : Post X.K G Y ι H (if (b.length == 0) = false ∧ a.length + 2 ≤ sizeLine then .ok (.lst ((Txt.split a b).map .str)) S else .bad) Q E := p
    by_cases hz : (b.length == 0) = false ∧ a.length + 2 ≤ sizeLine
    · rw [if_pos hz] at p
      exact mt_split pins s σ H _ _ _ us Q I rx rv ⟨a, b, rfl, rfl, hz.1, hz.2, p.newL R (RepL.of_strs _)⟩
    · rw [if_neg hz] at p; exact p.elim
theorem mi_partition : MtR X (miId .partition) (rMi X.K G .partition) := by
  intro pins s σ H x xs v us Q I rx rv h
  obtain ⟨ι, Y, S, w, ws, E, R, r, l, p⟩ := h
  cases w <;> first | exact p.elim | skip
  rename_i a
  cases r.str_eq
  match ws, l, p with
  | [], _, p => exact p.elim
  | w1 :: _ :: _, _, p => cases w1 <;> exact p.elim
  | [w], l, p =>
    obtain ⟨v, rfl, r⟩ := l.one
    cases w <;> first | exact p.elim | skip
    rename_i b
    cases r.str_eq
    have p : Post X.K G Y ι H (if (b.length == 0) = false ∧ a.length ≤ sizeLine then .ok (.tup [.str (Txt.partition a b).1, .str (Txt.partition a b).2.1, .str (Txt.partition a b).2.2]) S else .bad) Q E := p
    by_cases hz : (b.length == 0) = false ∧ a.length ≤ sizeLine
    · rw [if_pos hz] at p
      exact mt_partition pins s σ H _ _ _ us Q I rx rv ⟨a, b, rfl, rfl, hz.1, hz.2, p.newT R (.cons (.str _) (.cons (.str _) (.cons (.str _) .nil)))⟩
    · rw [if_neg hz] at p; exact p.elim
theorem mi_join : MtR X (miId .join) (rMi X.K G .join) := by
  intro pins s σ H x xs v us Q I rx rv h
  obtain ⟨ι, Y, S, w, ws, E, R, r, l, p⟩ := h
  cases w <;> first | exact p.elim | skip
  rename_i a
  cases r.str_eq
  match ws, l, p with
  | [], _, p => exact p.elim
  | _ :: _ :: _, _, p => exact p.elim
  | [w], l, p =>
    obtain ⟨v, rfl, r⟩ := l.one
    have p : Post X.K G Y ι H (match rd S w with
      | .lst xs => match strsW xs with
        | some ys => if (ys.map Str.length).sum + ys.length * a.length ≤ 16777216 then .ok (.str (Txt.join a ys)) S else .bad
        | none => .bad
      | _ => .bad) Q E := p
    cases e : rd S w with
    | lst ws =>
      simp only [e] at p
      obtain ⟨q, vs, rfl, h, l2⟩ := rd_lst R r e
      cases e2 : strsW ws with
      | none => simp only [e2] at p; exact p.elim
      | some ys =>
        simp only [e2] at p
        rw [strsW_map e2] at l2
        rw [l2.strs] at h
        by_cases hz : (ys.map Str.length).sum + ys.length * a.length ≤ 16777216
        · rw [if_pos hz] at p
          exact mt_join pins s σ H _ _ _ us Q I rx rv ⟨a, q, ys, rfl, rfl, .inl (SqL.of h), hz, p.here R (.str _)⟩
        · rw [if_neg hz] at p; exact p.elim
    | tup _ => simp only [e] at p; exact p.elim
    | str _ => simp only [e] at p; exact p.elim
    | non => simp only [e] at p; exact p.elim
    | bl _ => simp only [e] at p; exact p.elim
    | int _ => simp only [e] at p; exact p.elim
    | ref _ => simp only [e] at p; exact p.elim
    | dct _ => simp only [e] at p; exact p.elim
    | arg _ => simp only [e] at p; exact p.elim
end

/-! ### methods of lists, dicts -/
def mtId : MT → String
  | .app => "list.append" | .updD => "dict.update" | .idxL => "list.index"
def mtTy : MT → String
  | .app => "list" | .updD => "dict" | .idxL => "list"
def rMt (K : PySem.W.Frag) (G : Glob) (m : MT) : V → List V → Hp → VK → Prop := fun x vs H Q => ∃ ι Y S w ws E, Rel K G ι Y S H ∧ RepV K H ι Y w x ∧ RepL K H ι Y ws vs ∧ Post K G Y ι H (mtW m w ws S) Q E
section
variable {K : PySem.W.Frag} {H : Hp} {ι : Io} {Y : Addr → Prop} {G : Glob} {S : Sto} {Q : VK} {E : XK}
/-- an object of the store is written -/
theorem evo_write {S : Sto} (R : Rel K G ι Y S H) {n : Nat} {p : Addr} {o : HO} (hn : ι n = some p) : Evo ι H ι (upd H p o) where
  keep := fun a u e ni _ => by rw [upd_ne (fun z : a = p => ni n (z ▸ hn))]; exact e
  ext := fun _ _ e => e
  new := fun _ _ e => .inl e
  stay := fun a h => by
    by_cases z : a = p
    · subst z; rw [upd_same]; simp
    · rw [upd_ne z]; exact h
theorem Rel.write {S : Sto} (R : Rel K G ι Y S H) {n : Nat} {p : Addr} {so : SO} {o : HO} (hn : ι n = some p) (n1 : ∀ ps, H p ≠ some (.tbl ps)) (n2 : ∀ c s, H p ≠ some (LamX.CodeO c s)) (r : RepO K G H ι Y p so o) : Rel K G ι Y (S.set n so) (upd H p o) where
  inj := R.inj
  lt := fun i a e => by rw [List.length_set]; exact R.lt i a e
  obj := fun i u e => by
    have E : Evo ι H ι (upd H p o) := evo_write R hn
    by_cases z : i = n
    · subst z
      rw [List.getElem?_set_self (R.lt i p hn)] at e
      cases e
      exact ⟨p, o, hn, upd_same, r.evo E⟩
    · rw [List.getElem?_set_ne (Ne.symm z)] at e
      obtain ⟨a, ho, h1, h2, h3⟩ := R.obj i u e
      exact ⟨a, ho, h1, by rw [upd_ne (fun q : a = p => z (R.inj i n a h1 (q ▸ hn)))]; exact h2, h3.evo E⟩
  yt := fun a h => by
    rw [upd_ne (fun z : a = p => R.ny n p hn (z ▸ h))]
    exact R.yt a h
  ny := R.ny
  tabs := fun q hq => by
    obtain ⟨ps, h1, h2, h3⟩ := R.tabs q hq
    refine ⟨ps, ?_, h2, fun pos cv hc => ?_⟩
    · rw [upd_ne (fun z : q.1 = p => n1 ps (z ▸ h1))]; exact h1
    · obtain ⟨c, e1, e2⟩ := h3 pos cv hc
      exact ⟨c, e1, by rw [upd_ne (fun z : c = p => n2 c q.2 (z ▸ e2))]; exact e2⟩
  gens := fun P hP => by
    obtain ⟨ps, h1, h2⟩ := R.gens P hP
    exact ⟨ps, by rw [upd_ne (fun z : P = p => n1 ps (z ▸ h1))]; exact h1, h2⟩
theorem codeO_lst {q : Addr} {xs : List V} {H : Hp} (h : H q = some (.lst xs)) : (∀ ps, H q ≠ some (.tbl ps)) ∧ ∀ c s, H q ≠ some (LamX.CodeO c s) := by
  rw [h]
  exact ⟨fun ps z => (by cases z), fun c s z => (by unfold LamX.CodeO at z; cases z)⟩
theorem codeO_dK {q : Addr} {xs : List (Key × V)} {H : Hp} (h : H q = some (.dK xs)) : (∀ ps, H q ≠ some (.tbl ps)) ∧ ∀ c s, H q ≠ some (LamX.CodeO c s) := by
  rw [h]
  exact ⟨fun ps z => (by cases z), fun c s z => (by unfold LamX.CodeO at z; cases z)⟩
/-- the store's list at n -/
theorem Rel.lstAt {n : Nat} {xs : List Wv} {v : V} (R : Rel K G ι Y S H) (r : RepV K H ι Y (.ref n) v) (e : S[n]? = some (.lst xs)) : ∃ p vs, v = .ref p ∧ ι n = some p ∧ H p = some (.lst vs) ∧ RepL K H ι Y xs vs := by
  cases r with
  | @ref _ p hi =>
    obtain ⟨a, ho, h1, h2, h3⟩ := R.obj n _ e
    rw [hi] at h1
    cases h1
    cases h3 with
    | lst l => exact ⟨p, _, rfl, hi, h2, l⟩
theorem Rel.dctAt {n : Nat} {xs : List (Key × Wv)} {v : V} (R : Rel K G ι Y S H) (r : RepV K H ι Y (.ref n) v) (e : S[n]? = some (.dct xs)) : ∃ p vs, v = .ref p ∧ ι n = some p ∧ H p = some (.dK vs) ∧ RepD K H ι Y xs vs := by
  cases r with
  | @ref _ p hi =>
    obtain ⟨a, ho, h1, h2, h3⟩ := R.obj n _ e
    rw [hi] at h1
    cases h1
    cases h3 with
    | dct l => exact ⟨p, _, rfl, hi, h2, l⟩
theorem findW_spec {w : Wv} : ∀ {ys : List Wv} {n j : Nat}, findW w ys n = some j → ∃ i, j = n + i ∧ (∃ y, ys[i]? = some y ∧ eqW y w = true) ∧ ∀ m y, m < i → ys[m]? = some y → eqW y w = false
  | [], n, j, h => by cases h
  | y :: ys, n, j, h => by
    have h : (if eqW y w then some n else findW w ys (n + 1)) = some j := h
    by_cases e : eqW y w = true
    · rw [if_pos e] at h
      cases h
      exact ⟨0, rfl, ⟨y, rfl, e⟩, fun m y hm => absurd hm (Nat.not_lt_zero m)⟩
    · rw [if_neg e] at h
      obtain ⟨i, e1, ⟨z, h1, h2⟩, h3⟩ := findW_spec h
      refine ⟨i + 1, by omega, ⟨z, by simpa using h1, h2⟩, fun m z hm hz => ?_⟩
      cases m with
      | zero => simp at hz; subst hz; simpa using e
      | succ m => exact h3 m z (by omega) (by simpa using hz)
end
section
variable {X : Cx} {G : Glob}
theorem mt_ok (m : MT) : MtR X (mtId m) (rMt X.K G m) := by
  intro pins s σ H x xs v us Q I rx rv h
  obtain ⟨ι, Y, S, w, ws, E, R, r, l, p⟩ := h
  cases m with
  | app =>
    cases w <;> first | (exact p.elim; done) | skip
    rename_i n
    match ws, l, p with
    | [], _, p => exact p.elim
    | _ :: _ :: _, _, p => exact p.elim
    | [y], l, p =>
      obtain ⟨yv, rfl, ry⟩ := l.one
      have p : Post X.K G Y ι H (match S[n]? with | some (.lst xs) => if xs.length < sizeLine then .ok .non (S.set n (.lst (xs ++ [y]))) else .bad | _ => .bad) Q E := p
      cases hS : S[n]? with
      | none => rw [hS] at p; exact p.elim
      | some so =>
        rw [hS] at p
        cases so with
        | lst zs =>
          have p : Post X.K G Y ι H (if zs.length < sizeLine then .ok .non (S.set n (.lst (zs ++ [y]))) else .bad) Q E := p
          obtain ⟨a, vs, rfl, hn, hH, lz⟩ := R.lstAt r hS
          by_cases hz : zs.length < sizeLine
          · rw [if_pos hz] at p
            obtain ⟨n1, n2⟩ := codeO_lst hH
            have Ev := evo_write (o := HO.lst (vs ++ [yv])) R hn
            exact mt_append pins s σ H _ _ v us Q I rx rv ⟨a, vs, yv, rfl, rfl, hH, by rw [← lz.length]; exact hz, p ι _ .non Ev (R.write hn n1 n2 (.lst (lz.append (.cons ry .nil)))) .non⟩
          · rw [if_neg hz] at p; exact p.elim
        | _ => exact p.elim
  | updD =>
    cases w <;> first | (exact p.elim; done) | skip
    rename_i n
    match ws, l, p with
    | [], _, p => exact p.elim
    | _ :: _ :: _, _, p => exact p.elim
    | [y], l, p =>
      obtain ⟨yv, rfl, ry⟩ := l.one
      have p : Post X.K G Y ι H (match S[n]?, rd S y with | some (.dct ks), .dct ls => if ks.length + ls.length ≤ sizeLine ∧ isRefW n y = false then .ok .non (S.set n (.dct (mergeW ks ls))) else .bad | _, _ => .bad) Q E := p
      cases hS : S[n]? with
      | none => rw [hS] at p; exact p.elim
      | some so =>
        rw [hS] at p
        cases so with
        | dct ks =>
          cases hr : rd S y with
          | dct ls =>
            rw [hr] at p
            have p : Post X.K G Y ι H (if ks.length + ls.length ≤ sizeLine ∧ isRefW n y = false then .ok .non (S.set n (.dct (mergeW ks ls))) else .bad) Q E := p
            obtain ⟨a, vs, rfl, hn, hH, lk⟩ := R.dctAt r hS
            obtain ⟨b, us', rfl, hb, ll⟩ := rd_dct R ry hr
            by_cases hz : ks.length + ls.length ≤ sizeLine ∧ isRefW n y = false
            · rw [if_pos hz] at p
              have hne : a ≠ b := by
                intro z
                subst z
                cases y with
                | dct yy =>
                  cases ry with
                  | dct _ f _ => exact f.2 n hn
                | ref m =>
                  cases ry with
                  | ref hj =>
                    have e := R.inj _ _ _ hn hj
                    have h2 : decide (n = m) = false := hz.2
                    rw [decide_eq_true e] at h2
                    cases h2
                | _ => cases hr
              obtain ⟨n1, n2⟩ := codeO_dK hH
              have Ev := evo_write (o := HO.dK (mergeK vs us')) R hn
              exact Mz.mt_updD pins s σ H _ _ v us Q I rx rv ⟨a, b, vs, us', rfl, rfl, hne, hH, .inl hb, by rw [← lk.length, ← ll.length]; exact hz.1, p ι _ .non Ev (R.write hn n1 n2 (.dct (mergeW_V ll lk))) .non⟩
            · rw [if_neg hz] at p; exact p.elim
          | _ => rw [hr] at p; exact p.elim
        | _ => cases hr : rd S y <;> (rw [hr] at p; exact p.elim)
  | idxL =>
    match ws, l, p with
    | [], _, p => cases w <;> exact p.elim
    | _ :: _ :: _, _, p => cases w <;> exact p.elim
    | [y], l, p =>
      obtain ⟨yv, rfl, ry⟩ := l.one
      have p : Post X.K G Y ι H (match rd S w with | .lst ys => (if flatW y = true ∧ ys.all flatW = true then (match findW y ys 0 with | some j => .ok (.int j) S | none => .bad) else .bad) | _ => .bad) Q E := p
      cases hr : rd S w with
      | lst ys =>
        rw [hr] at p
        have p : Post X.K G Y ι H (if flatW y = true ∧ ys.all flatW = true then (match findW y ys 0 with | some j => .ok (.int j) S | none => .bad) else .bad) Q E := p
        by_cases hf : flatW y = true ∧ ys.all flatW = true
        · rw [if_pos hf] at p
          obtain ⟨a, vs, rfl, h, lz⟩ := rd_lst R r hr
          cases e : findW y ys 0 with
          | none => rw [e] at p; exact p.elim
          | some j =>
            rw [e] at p
            obtain ⟨i, e1, ⟨z, hz, ez⟩, hno⟩ := findW_spec e
            obtain rfl : j = i := by omega
            obtain ⟨zv, hzv, rz⟩ := lz.get hz
            have fz : flatW z = true := List.all_eq_true.mp hf.2 z (List.mem_of_getElem? hz)
            refine mt_index pins s σ H _ _ v us Q I rx rv ⟨a, vs, yv, j, zv, rfl, rfl, SqL.of h, by rw [flatW_V ry]; exact hf.1, by rw [flatL_V lz]; exact hf.2, hzv, by rw [eqW_V rz ry fz hf.1]; exact ez, fun m z' hm hz' => ?_, p.here R (.int _)⟩
            obtain ⟨w', hw', rw'⟩ := lz.getV hz'
            have fw : flatW w' = true := List.all_eq_true.mp hf.2 w' (List.mem_of_getElem? hw')
            rw [eqW_V rw' ry fw hf.1]
            exact hno m w' hm hw'
        · rw [if_neg hf] at p; exact p.elim
      | _ => rw [hr] at p; exact p.elim
end
end Dy

end
section
set_option Elab.async false
set_option linter.all false
set_option maxRecDepth 100000
set_option maxHeartbeats 400000
/-! Dy, part E: readings by the evaluator; the rules of the expressions. -/
namespace Dy
open PySem PySem.Spec PyProof.Rows L2

theorem _root_.L2.PE.imp {X : Cx} {e : Expr} {t t' : TE} (h : PE X e t) (i : ∀ σ H Q, t' σ H Q → t σ H Q) : PE X e t' := ⟨fun pins s σ H Q I w => h.run pins s σ H Q I (i σ H Q w)⟩
theorem _root_.L2.PT.imp {X : Cx} {e : Expr} {t t' : TT} (h : PT X e t) (i : ∀ σ H Q, t' σ H Q → t σ H Q) : PT X e t' := ⟨fun pins s σ H Q I w => h.run pins s σ H Q I (i σ H Q w)⟩
theorem _root_.L2.PW.imp {X : Cx} {e : Expr} {t t' : TT} (h : PW X e t) (i : ∀ σ H Q, t' σ H Q → t σ H Q) : PW X e t' := ⟨fun wh pins s σ H Q I w => h.run wh pins s σ H Q I (i σ H Q w)⟩
theorem _root_.L2.PA.imp {X : Cx} {es : List Expr} {t t' : TA} (h : PA X es t) (i : ∀ σ H Q, t' σ H Q → t σ H Q) : PA X es t' := ⟨fun pos pins s σ H Q I w => h.run pos pins s σ H Q I (i σ H Q w)⟩
theorem _root_.L2.PI.imp {X : Cx} {tg e : Expr} {t t' : TI} (h : PI X tg e t) (i : ∀ σ H Q, t' σ H Q → t σ H Q) : PI X tg e t' := ⟨fun pins s σ H Q I w => h.run pins s σ H Q I (i σ H Q w)⟩
theorem _root_.L2.PS.imp {X : Cx} {e : Stmt} {t t' : TS} (h : PS X e t) (i : ∀ D σ H, t' D σ H → t D σ H) : PS X e t' := ⟨fun pins s σ H D I w => h.run pins s σ H D I (i D σ H w)⟩
theorem _root_.L2.PSs.imp {X : Cx} {e : List Stmt} {t t' : TS} (h : PSs X e t) (i : ∀ D σ H, t' D σ H → t D σ H) : PSs X e t' := ⟨fun pins s σ H D I w => h.run pins s σ H D I (i D σ H w)⟩

/-- a list of values, wanted -/
def PostL (K : PySem.W.Frag) (G : Glob) (Y : Addr → Prop) (ι : Io) (H : Hp) (r : Res) (Q : List V → Hp → Prop) (E : XK) : Prop := match r with
  | .ok (.tup ws) S => ∀ ι' H' vs, Evo ι H ι' H' → Rel K G ι' Y S H' → RepL K H' ι' Y ws vs → Q vs H'
  | .exc c S => ∃ C, G.cls c = some C ∧ ∀ ι' H', Evo ι H ι' H' → Rel K G ι' Y S H' → E (.ref C) none H'
  | _ => False
section
variable {K : PySem.W.Frag} {G : Glob} {Y : Addr → Prop} {ι ι' : Io} {H H' : Hp} {r : Res} {Q : VK} {QL : List V → Hp → Prop} {E : XK} {k : Wv → Sto → Res}
theorem PostL.evo (h : PostL K G Y ι H r QL E) (e : Evo ι H ι' H') : PostL K G Y ι' H' r QL E := by
  cases r with
  | ok w S =>
    cases w with
    | tup ws => exact fun ι2 H2 v e2 R r => h ι2 H2 v (e.trans e2) R r
    | _ => exact h
  | exc c S =>
    obtain ⟨C, hc, h⟩ := h
    exact ⟨C, hc, fun ι2 H2 e2 R => h ι2 H2 (e.trans e2) R⟩
  | bad => exact h
theorem PostL.mono {Q' : List V → Hp → Prop} {E' : XK} (h : PostL K G Y ι H r QL E) (hq : ∀ v H', QL v H' → Q' v H') (he : ∀ c d H', E c d H' → E' c d H') : PostL K G Y ι H r Q' E' := by
  cases r with
  | ok w S =>
    cases w with
    | tup ws => exact fun ι2 H2 v e2 R r => hq _ _ (h ι2 H2 v e2 R r)
    | _ => exact h
  | exc c S =>
    obtain ⟨C, hc, h⟩ := h
    exact ⟨C, hc, fun ι2 H2 e2 R => he _ _ _ (h ι2 H2 e2 R)⟩
  | bad => exact h
theorem PostL.bind (h : PostL K G Y ι H (r.bind k) QL E) : Post K G Y ι H r (fun v H' => ∃ ι' w S', Evo ι H ι' H' ∧ Rel K G ι' Y S' H' ∧ RepV K H' ι' Y w v ∧ PostL K G Y ι' H' (k w S') QL E) E := by
  cases r with
  | ok w S => exact fun ι' H' v e R r => ⟨ι', w, S, e, R, r, PostL.evo h e⟩
  | exc c S => exact h
  | bad => exact h
theorem PostL.toN_ : True := trivial
def TupOnly (k : Wv → Sto → Res) : Prop := ∀ w S, (∀ ws, w ≠ .tup ws) → k w S = .bad
theorem Post.bindL (h : Post K G Y ι H (r.bind k) Q E) (hk : TupOnly k) : PostL K G Y ι H r (fun vs H' => ∃ ι' ws S', Evo ι H ι' H' ∧ Rel K G ι' Y S' H' ∧ RepL K H' ι' Y ws vs ∧ Post K G Y ι' H' (k (.tup ws) S') Q E) E := by
  cases r with
  | ok w S =>
    cases w with
    | tup ws => exact fun ι' H' v e R r => ⟨ι', ws, S, e, R, r, Post.evo h e⟩
    | _ => rw [bind_ok, hk _ _ (by intro ws z; cases z)] at h; exact h
  | exc c S => exact h
  | bad => exact h
theorem PostN.bindL (h : PostN K G Y ι H (r.bind k) Q E) (hk : TupOnly k) : PostL K G Y ι H r (fun vs H' => ∃ ι' ws S', Evo ι H ι' H' ∧ Rel K G ι' Y S' H' ∧ RepL K H' ι' Y ws vs ∧ PostN K G Y ι' H' (k (.tup ws) S') Q E) E := by
  cases r with
  | ok w S =>
    cases w with
    | tup ws => exact fun ι' H' v e R r => ⟨ι', ws, S, e, R, r, PostN.evo h e⟩
    | _ => rw [bind_ok, hk _ _ (by intro ws z; cases z)] at h; exact h
  | exc c S => exact h
  | bad => exact h
theorem PostL.bindL (h : PostL K G Y ι H (r.bind k) QL E) (hk : TupOnly k) : PostL K G Y ι H r (fun vs H' => ∃ ι' ws S', Evo ι H ι' H' ∧ Rel K G ι' Y S' H' ∧ RepL K H' ι' Y ws vs ∧ PostL K G Y ι' H' (k (.tup ws) S') QL E) E := by
  cases r with
  | ok w S =>
    cases w with
    | tup ws => exact fun ι' H' v e R r => ⟨ι', ws, S, e, R, r, PostL.evo h e⟩
    | _ => rw [bind_ok, hk _ _ (by intro ws z; cases z)] at h; exact h
  | exc c S => exact h
  | bad => exact h
end
/-- the reading of a form that makes a list, a dict -/
def tN (K : PySem.W.Frag) (G : Glob) (f : Sl → Sto → Res) (W : WX) : TE := fun σ H Q => ∃ ι Y S σd, Rel K G ι Y S H ∧ RepS K H ι Y σd σ ∧ PostN K G Y ι H (f σd S) Q (L2.WE W σ)
/-- the reading of an expression, of an argument list, of a test -/
def tE (K : PySem.W.Frag) (G : Glob) (f : Sl → Sto → Res) (W : WX) : TE := fun σ H Q => ∃ ι Y S σd, Rel K G ι Y S H ∧ RepS K H ι Y σd σ ∧ Post K G Y ι H (f σd S) Q (L2.WE W σ)
def tL (K : PySem.W.Frag) (G : Glob) (f : Sl → Sto → Res) (W : WX) : TA := fun σ H Q => ∃ ι Y S σd, Rel K G ι Y S H ∧ RepS K H ι Y σd σ ∧ PostL K G Y ι H (f σd S) Q (L2.WE W σ)
theorem idE {E : XK} : ∀ c d H', E c d H' → E c d H' := fun _ _ _ h => h

/-! ### the checker's table, the context -/
structure GT where
  fns : List Str
  cons : List (Str × Cst)
  bis : List Str
  excs : List Str
  tolds : List (Str × Str)
  lamc : Nat → Expr → Bool := fun _ _ => false
/-- what a def promises -/
def spC (K : PySem.W.Frag) (G : Glob) (f : List Wv → Sto → Res) : Sp := fun vs H Q E => ∃ ι Y S ws, Rel K G ι Y S H ∧ RepL K H ι Y ws vs ∧ Post K G Y ι H (f ws S) Q E
/-- a def that tells what a lambda comes to, or the exception's name -/
def ToldFn (K : PySem.W.Frag) (mg : Str → Option Value) (G : Glob) (x e : Str) : Prop :=
  ∃ (a : Str) (g CS : Addr) (pg : Arguments) (bg : List Stmt) (sg : Scope) (dV kV doc pm cdv ct oc : Value) (an od : Option Addr) (osl : Array (Option Value)) (Ng : List Str) (j : Nat) (p1 p2 p3 p4 p5 p6 p7 p8 : Pos),
    mg x = some (.ref g) ∧ PySem.W.keepIn K (.ref g) = true ∧ K.lookup g = some ⟨oc, od, .func (PySem.W.fnOf x x pg bg sg dV kV doc pm an cdv ct), osl⟩ ∧ PySem.W.codeIn K cdv x = true ∧
    Binds K (PySem.W.fnOf x x pg bg sg dV kV doc pm an cdv ct) [a] [] ∧ FnScope Ng [a] sg ∧ Ng[0]? = some a ∧ Vis sg a ∧ (a == ("__debug__" : Str)) = false ∧ (a == ("__classdict__" : Str)) = false ∧
    bg = [.Try [.Return (some (.Call (.Name a p1) [] [] p2)) p3] [.ExceptHandler (some (.Name e p4)) none [.Return (some (.Constant (.str e) j p5)) p6] p7] [] [] p8] ∧
    sg.names.lookup e = some .globalImplicit ∧ mg e = some (.ref CS) ∧ (e == ("__debug__" : Str)) = false ∧ G.cls e = some CS ∧ PySem.W.exmOne K (.ref CS) (.ref CS) = some true
/-- an own exception class that is raised with a text -/
def ExcF (K : PySem.W.Frag) (mg : Str → Option Value) (G : Glob) (c : Str) : Prop :=
  ∃ (C : Addr) (B newId initId : String) (bmB : List Value), ExcBaseFacts B newId initId bmB ∧ PySem.W.excIn K C bmB newId = true ∧ mg c = some (.ref C) ∧ PySem.W.keepIn K (.ref C) = true ∧ PySem.W.subIn K (.ref C) (.type "BaseException") = some true ∧ PySem.W.typeIn K (.ref C) = some (.type "type") ∧ G.cls c = some C
structure GOk (P : Program) (w : World) (K : PySem.W.Frag) (mg : Str → Option Value) (base : Heap) (G : Glob) (T : GT) (cl : Clr) (lv : Nat) : Prop where
  fns : ∀ x, T.fns.contains x = true → ∃ f fd ps, mg x = some (.ref f) ∧ PySem.W.keepIn K (.ref f) = true ∧ Binds K fd ps [] ∧ FnOk P w K mg base (CX P w) lv f fd ps (spC K G (cl x))
  cons : ∀ x c, T.cons.lookup x = some c → ∃ u v, mg x = some u ∧ RelV v u ∧ ∀ (H : Hp) (ι : Io) (Y : Addr → Prop), RepV K H ι Y c.w v
  bis : ∀ x, T.bis.contains x = true → mg x = none
  tolds : ∀ x e, (x, e) ∈ T.tolds → ToldFn K mg G x e
  excs : ∀ c, T.excs.contains c = true → ExcF K mg G c
  lamc : ∀ k x, T.lamc k x = true → ∃ params body scope p, x = .Lambda params body scope p ∧ noArgs params = true ∧ closedB scope = true ∧ G.lamB k body scope
  lams : ∀ (k : Nat) (A : Around) (outer : List Env) (s : Shared) (H : Hp) (a c : Addr) (q : Str) (Q : VK) (E : XK), Room lv A → Env0 P w K mg base A outer s H → H a = some (.ext (LamAt G k a c q)) → H c = some (LamX.CodeO c q) → spC K G (cl (lamName k)) [] H Q E →
    codeAny (model P w) A (.call (.ref a) ⟨[], []⟩) (CR (CX P w) outer P w H s Q E) s
/-- what a def makes: code objects of generator expressions, or of lambdas -/
inductive Kd where
  | no | gen | lam
  deriving DecidableEq
def KdOk (X : Cx) (G : Glob) (lv : Nat) : Kd → Prop
  | .no => True
  | .gen => ∃ c P, X.env.code = .ref c ∧ GxR.TabB X.base X.mg c P ∧ P ∈ G.gens ∧ (∀ p ∈ G.tabs, p.1 ≠ P) ∧ Room (lv + 10) X.A
  | .lam => ∃ c P, X.env.code = .ref c ∧ LamX.TabB X.base X.mg c P ∧ (P, X.env.qual ++ "<lambda>") ∈ G.tabs ∧ (∀ p ∈ G.tabs, p.1 = P → p.2 = X.env.qual ++ "<lambda>") ∧ P ∉ G.gens ∧ Room (lv + 4) X.A
structure XOk (X : Cx) (G : Glob) (T : GT) (cl : Clr) (lv : Nat) (N : List Str) (sc : List (Str × NameKind)) (fn : Str → Bool) (kd : Kd) (W : WX) : Prop where
  g : GOk X.prog X.w X.K X.mg X.base G T cl lv
  hN : X.N = N
  nd : N.Nodup
  kind : X.env.scope.kind = .function
  sc : X.env.scope.names = sc
  fn : X.fn = fn
  calm : X.calm = true
  room : Room (lv + 2) X.A
  tk : Takes X W
  kd : KdOk X G lv kd

def okN (x : Str) : Bool := decide (x ≠ "__debug__") && decide (x ≠ "__classdict__") && decide (x ≠ "__name__")
def isGl (sc : List (Str × NameKind)) (x : Str) : Bool := decide (sc.lookup x = some .globalImplicit) && okN x
def isVis (sc : List (Str × NameKind)) (x : Str) : Bool := (decide (sc.lookup x = some .local) || decide (sc.lookup x = some .cell) || decide (sc.lookup x = some .free)) && okN x
def isLoc (sc : List (Str × NameKind)) (fn : Str → Bool) (x : Str) : Bool := decide (sc.lookup x = some .local) || (decide (sc.lookup x = some .cell) && fn x)
theorem okN_d {x : Str} (h : okN x = true) : (x == ("__debug__" : Str)) = false ∧ (x == ("__classdict__" : Str)) = false ∧ x ≠ "__name__" := by
  unfold okN at h
  simp only [Bool.and_eq_true, decide_eq_true_eq] at h
  exact ⟨beq_false_of_ne h.1.1, beq_false_of_ne h.1.2, h.2⟩
section
variable {X : Cx} {G : Glob} {T : GT} {cl : Clr} {lv : Nat} {N : List Str} {sc : List (Str × NameKind)} {fn : Str → Bool} {kd : Kd} {W : WX} (C : XOk X G T cl lv N sc fn kd W)
include C
theorem XOk.gl {x : Str} (h : isGl sc x = true) : Gl X x ∧ (x == ("__debug__" : Str)) = false ∧ x ≠ "__name__" := by
  unfold isGl at h
  rw [Bool.and_eq_true, decide_eq_true_eq] at h
  obtain ⟨d, _, n⟩ := okN_d h.2
  refine ⟨?_, d, n⟩
  show X.env.scope.names.lookup x = _
  rw [C.sc]; exact h.1
theorem XOk.vis {x : Str} (h : isVis sc x = true) : Vis X.env.scope x ∧ (x == ("__debug__" : Str)) = false ∧ (x == ("__classdict__" : Str)) = false := by
  unfold isVis at h
  rw [Bool.and_eq_true, Bool.or_eq_true, Bool.or_eq_true, decide_eq_true_eq, decide_eq_true_eq, decide_eq_true_eq] at h
  obtain ⟨d, c, _⟩ := okN_d h.2
  refine ⟨?_, d, c⟩
  unfold Vis
  rw [C.sc]
  rcases h.1 with (z | z) | z
  · exact .inl z
  · exact .inr (.inl z)
  · exact .inr (.inr z)
theorem XOk.loc {x : Str} (h : isLoc sc fn x = true) : L2.Loc X.env.scope x ∧ (X.fn x = true ∨ X.env.scope.names.lookup x = some .local) := by
  unfold isLoc at h
  rw [Bool.or_eq_true, Bool.and_eq_true, decide_eq_true_eq, decide_eq_true_eq] at h
  unfold L2.Loc
  rw [C.sc, C.fn]
  rcases h with z | ⟨z, f⟩
  · exact ⟨.inl z, .inr z⟩
  · exact ⟨.inr z, .inl f⟩
theorem XOk.units : X.A.units + 64 < cLine := C.room.units
end
def noStar : Expr → Bool
  | .Starred .. => false
  | _ => true
theorem starEach_cons {e : Expr} {es : List Expr} {env : Env} (h : noStar e = true) : starEach (e :: es) env = (false, eval e env) :: starEach es env := by
  cases e <;> first | rfl | cases h
theorem noStars {env : Env} {pos : Pos} : ∀ {es : List Expr}, es.all noStar = true → (backTo pos (starEach es env)).any (·.1) = false
  | [], _ => rfl
  | e :: es, h => by
    rw [List.all_cons, Bool.and_eq_true] at h
    rw [starEach_cons h.1]
    show (false || (backTo pos (starEach es env)).any (·.1)) = false
    rw [noStars h.2]
    rfl
theorem noStars2 {env : Env} {pos : Pos} : ∀ {es : List Expr}, es.all noStar = true → (backTo pos (starEach es env)).all (fun x => !x.1) = true
  | [], _ => rfl
  | e :: es, h => by
    rw [List.all_cons, Bool.and_eq_true] at h
    rw [starEach_cons h.1]
    show (true && (backTo pos (starEach es env)).all (fun x => !x.1)) = true
    rw [noStars2 h.2]
    rfl
def plainB : Expr → Bool
  | .Call (.Name _ _) [] [] _ => false
  | _ => true
theorem plainBase {o : Expr} {name : Str} {env : Env} (h : plainB o = true) : attributeBase o name env (eval o env) = eval o env := by
  cases o with
  | Call f as ks p =>
    cases f <;> cases as <;> cases ks <;> first | rfl | cases h
  | _ => rfl
def noSl : Expr → Bool
  | .Slice .. => false
  | _ => true
theorem plainIx {b : Expr} (h : noSl b = true) : PlainIx b := by
  cases b <;> first | (intro o i; rfl) | cases h
def noSet : Expr → Bool
  | .Set .. => false
  | _ => true
theorem noFold {e : Expr} {env : Env} (h : noSet e = true) : ∀ x, foldedSetIterable e env x = pure x := by
  cases e <;> first | (intro x; rfl) | cases h

/-! ### the rules -/
section
variable {X : Cx} {G : Glob} {T : GT} {cl : Clr} {lv : Nat} {N : List Str} {sc : List (Str × NameKind)} {fn : Str → Bool} {kd : Kd} {W : WX}
variable {a b c : Expr} {f g h : Sl → Sto → Res} {es : List Expr} {pos : Pos}
theorem e_var (C : XOk X G T cl lv N sc fn kd W) {i : Nat} {x : Str} (hi : N[i]? = some x) (hv : isVis sc x = true) : PE X (.Name x pos) (tE X.K G (ev cl (.var i)) W) := by
  obtain ⟨v, d, c⟩ := C.vis hv
  refine (pe_var (i := i) (by rw [C.hN]; exact hi) v d c).imp fun σ H Q q => ?_
  obtain ⟨ι, Y, S, σd, R, rs, p⟩ := q
  have p : Post X.K G Y ι H (match σd[i]? with | some (some w) => .ok w S | _ => .bad) Q (L2.WE W σ) := p
  cases e : σd[i]? with
  | none => rw [e] at p; exact p.elim
  | some o =>
    cases o with
    | none => rw [e] at p; exact p.elim
    | some w =>
      rw [e] at p
      obtain ⟨u, h1, h2⟩ := rs.2 i w e
      exact ⟨u, h1, p.here R h2⟩
theorem e_lit {w : Wv} {v : V} (h : PE X a (tC v)) (r : ∀ H ι Y, RepV X.K H ι Y w v) : PE X a (tE X.K G (ev cl (.lit w)) W) := by
  refine h.imp fun σ H Q q => ?_
  obtain ⟨ι, Y, S, σd, R, rs, p⟩ := q
  have p : Post X.K G Y ι H (.ok w S) Q (L2.WE W σ) := p
  exact p.here R (r H ι Y)
theorem e_glob (C : XOk X G T cl lv N sc fn kd W) {x : Str} {w : Cst} (hx : isGl sc x = true) (hc : T.cons.lookup x = some w) : PE X (.Name x pos) (tE X.K G (ev cl (.glob x w)) W) := by
  obtain ⟨gl, d, _⟩ := C.gl hx
  obtain ⟨u, v, h1, h2, h3⟩ := C.g.cons x w hc
  exact e_lit (cl := cl) (w := w.w) (pe_glob gl h1 h2 d) h3
theorem e_bin (o : Bop) (ha : PE X a (tE X.K G f W)) (hb : PE X b (tE X.K G g W)) : PE X (.BinOp a (bopA o) b pos) (tE X.K G (fun σ S => (f σ S).bind fun x S => (g σ S).bind fun y S => binW o x y S) W) := by
  refine (pe_op (op_bin (G := G) o) ha hb).imp fun σ H Q q => ?_
  obtain ⟨ι, Y, S, σd, R, rs, p⟩ := q
  refine ⟨ι, Y, S, σd, R, rs, p.bind.mono ?_ idE⟩
  rintro v H' ⟨ι1, w, S1, e, R1, r1, p1⟩
  refine ⟨ι1, Y, S1, σd, R1, rs.evo e, p1.bind.mono ?_ idE⟩
  rintro u H2 ⟨ι2, w2, S2, e2, R2, r2, p2⟩
  exact ⟨ι2, Y, S2, w, w2, _, R2, r1.evo e2, r2, p2⟩
theorem e_neg (ha : PE X a (tE X.K G f W)) : PE X (.UnaryOp .USub a pos) (tE X.K G (fun σ S => (f σ S).bind fun x S => match x with | .int i => .ok (.int (-i)) S | _ => .bad) W) := by
  refine (pe_un un_neg ha).imp fun σ H Q q => ?_
  obtain ⟨ι, Y, S, σd, R, rs, p⟩ := q
  refine ⟨ι, Y, S, σd, R, rs, p.bind.mono ?_ idE⟩
  rintro v H' ⟨ι1, w, S1, e, R1, r1, p1⟩
  cases w <;> first | exact p1.elim | skip
  cases r1.int_eq
  exact ⟨_, rfl, p1.here R1 (.int _)⟩
theorem opW (q : tE X.K G (fun σ S => (f σ S).bind fun x S => (g σ S).bind fun y S => cmpW o x y S) W σ H Q) : tOp (rCmp X.K G o) (tE X.K G f W) (tE X.K G g W) σ H Q := by
  obtain ⟨ι, Y, S, σd, R, rs, p⟩ := q
  refine ⟨ι, Y, S, σd, R, rs, p.bind.mono ?_ idE⟩
  rintro v H' ⟨ι1, w, S1, e, R1, r1, p1⟩
  refine ⟨ι1, Y, S1, σd, R1, rs.evo e, p1.bind.mono ?_ idE⟩
  rintro u H2 ⟨ι2, w2, S2, e2, R2, r2, p2⟩
  exact ⟨ι2, Y, S2, w, w2, _, R2, r1.evo e2, r2, p2⟩
/-- a test -/
def tT (K : PySem.W.Frag) (G : Glob) (f : Sl → Sto → Res) (W : WX) : TT := tB (tE K G f W)
theorem e_cmp (C : XOk X G T cl lv N sc fn kd W) (o : Cop) (h1 : o ≠ .isN) (h2 : o ≠ .notN) (ha : PE X a (tE X.K G f W)) (hb : PE X b (tE X.K G g W)) (hm : behindInMarks (copA o) b = false) :
    PE X (.Compare a [copA o] [b] pos) (tE X.K G (fun σ S => (f σ S).bind fun x S => (g σ S).bind fun y S => cmpW o x y S) W) :=
  (pe_cmpR (op_cmp (G := G) C.units o h1 h2) ha hb hm).imp fun σ H Q q => opW q
theorem t_cmp (C : XOk X G T cl lv N sc fn kd W) (o : Cop) (h1 : o ≠ .isN) (h2 : o ≠ .notN) (ha : PE X a (tE X.K G f W)) (hb : PE X b (tE X.K G g W)) (hm : behindInMarks (copA o) b = false) :
    PT X (.Compare a [copA o] [b] pos) (tT X.K G (fun σ S => (f σ S).bind fun x S => (g σ S).bind fun y S => cmpW o x y S) W) :=
  (pt_cmpR (op_cmp (G := G) C.units o h1 h2) ha hb hm).imp fun σ H Q q => opW q
theorem isNon_V {K : PySem.W.Frag} {H : Hp} {ι : Io} {Y : Addr → Prop} {w : Wv} {v : V} (r : RepV K H ι Y w v) : decide (v = V.non) = isNonW w := by
  cases r <;> simp [isNonW]
theorem isNW (q : tE X.K G (fun σ S => (f σ S).bind fun x S => .ok (.bl (isNonW x)) S) W σ H Q) : tIsN (tE X.K G f W) σ H Q := by
  obtain ⟨ι, Y, S, σd, R, rs, p⟩ := q
  refine ⟨ι, Y, S, σd, R, rs, p.bind.mono ?_ idE⟩
  rintro v H' ⟨ι1, w, S1, e, R1, r1, p1⟩
  rw [isNon_V r1]
  exact p1.here R1 (.bl _)
theorem notNW (q : tE X.K G (fun σ S => (f σ S).bind fun x S => .ok (.bl (!isNonW x)) S) W σ H Q) : tNotN (tE X.K G f W) σ H Q := by
  obtain ⟨ι, Y, S, σd, R, rs, p⟩ := q
  refine ⟨ι, Y, S, σd, R, rs, p.bind.mono ?_ idE⟩
  rintro v H' ⟨ι1, w, S1, e, R1, r1, p1⟩
  rw [isNon_V r1]
  exact p1.here R1 (.bl _)
theorem e_isN {j : Nat} {p' : Pos} (ha : PE X a (tE X.K G f W)) : PE X (.Compare a [.Is] [.Constant .none j p'] pos) (tE X.K G (fun σ S => (f σ S).bind fun x S => .ok (.bl (isNonW x)) S) W) := (pe_cmp (pc_isN ha) rfl).imp fun σ H Q q => isNW q
theorem t_isN {j : Nat} {p' : Pos} (ha : PE X a (tE X.K G f W)) : PT X (.Compare a [.Is] [.Constant .none j p'] pos) (tT X.K G (fun σ S => (f σ S).bind fun x S => .ok (.bl (isNonW x)) S) W) := (pt_cmp (pc_isN ha) rfl).imp fun σ H Q q => isNW q
theorem e_notN {j : Nat} {p' : Pos} (ha : PE X a (tE X.K G f W)) : PE X (.Compare a [.IsNot] [.Constant .none j p'] pos) (tE X.K G (fun σ S => (f σ S).bind fun x S => .ok (.bl (!isNonW x)) S) W) := (pe_cmp (pc_notN ha) rfl).imp fun σ H Q q => notNW q
theorem t_notN {j : Nat} {p' : Pos} (ha : PE X a (tE X.K G f W)) : PT X (.Compare a [.IsNot] [.Constant .none j p'] pos) (tT X.K G (fun σ S => (f σ S).bind fun x S => .ok (.bl (!isNonW x)) S) W) := (pt_cmp (pc_notN ha) rfl).imp fun σ H Q q => notNW q
theorem cmpW_bl {o : Cop} {x y : Wv} {S : Sto} : (∃ t, cmpW o x y S = .ok (.bl t) S) ∨ cmpW o x y S = .bad := by
  have ob : ∀ (o : Option Bool) (n : Bool), (∃ t, ofB o n S = .ok (.bl t) S) ∨ ofB o n S = .bad := fun o n => by
    cases o with
    | none => exact .inr rfl
    | some b => exact .inl ⟨_, rfl⟩
  cases o with
  | eq => exact ob _ _
  | ne => exact ob _ _
  | isin => exact ob _ _
  | notin => exact ob _ _
  | isN => exact .inr rfl
  | notN => exact .inr rfl
  | _ => cases x <;> cases y <;> first | exact .inr rfl | exact .inl ⟨_, rfl⟩
theorem chW (q : tE X.K G (fun σ S => (f σ S).bind fun x S => (g σ S).bind fun y S => (cmpW o x y S).bind fun t S => andK t ((h σ S).bind fun z S => cmpW o' y z S) S) W σ H Q) :
    tChain (rCmp X.K G o) (rCmp X.K G o') (tE X.K G f W) (tE X.K G g W) (tE X.K G h W) σ H Q := by
  obtain ⟨ι, Y, S, σd, R, rs, p⟩ := q
  refine ⟨ι, Y, S, σd, R, rs, p.bind.mono ?_ idE⟩
  rintro v H' ⟨ι1, w, S1, e, R1, r1, p1⟩
  refine ⟨ι1, Y, S1, σd, R1, rs.evo e, p1.bind.mono ?_ idE⟩
  rintro u H2 ⟨ι2, w2, S2, e2, R2, r2, p2⟩
  refine ⟨ι2, Y, S2, w, w2, L2.WE W σ, R2, r1.evo e2, r2, p2.bind.mono ?_ idE⟩
  rintro d H3 ⟨ι3, w3, S3, e3, R3, r3, p3⟩
  cases w3 with
  | bl t =>
    cases r3.bl_eq
    refine ⟨t, rfl, ?_⟩
    cases t with
    | false => exact p3.here R3 (.bl _)
    | true =>
      refine ⟨ι3, Y, S3, σd, R3, (rs.evo e).evo (e2.trans e3), p3.bind.mono ?_ idE⟩
      rintro z H4 ⟨ι4, w4, S4, e4, R4, r4, p4⟩
      exact ⟨ι4, Y, S4, w2, w4, _, R4, r2.evo (e3.trans e4), r4, p4⟩
  | _ => exact p3.elim
theorem e_chain (C : XOk X G T cl lv N sc fn kd W) (o o' : Cop) (h1 : o ≠ .isN) (h2 : o ≠ .notN) (h3 : o' ≠ .isN) (h4 : o' ≠ .notN) (ha : PE X a (tE X.K G f W)) (hb : PE X b (tE X.K G g W)) (hc : PE X c (tE X.K G h W)) (hm : lastMarks [copA o, copA o'] [b, c] = false) :
    PE X (.Compare a [copA o, copA o'] [b, c] pos) (tE X.K G (fun σ S => (f σ S).bind fun x S => (g σ S).bind fun y S => (cmpW o x y S).bind fun t S => andK t ((h σ S).bind fun z S => cmpW o' y z S) S) W) :=
  (pe_chain (op_cmp (G := G) C.units o h1 h2) (op_cmp (G := G) C.units o' h3 h4) ha hb hc hm).imp fun σ H Q q => chW q
theorem t_chain (C : XOk X G T cl lv N sc fn kd W) (o o' : Cop) (h1 : o ≠ .isN) (h2 : o ≠ .notN) (h3 : o' ≠ .isN) (h4 : o' ≠ .notN) (ha : PE X a (tE X.K G f W)) (hb : PE X b (tE X.K G g W)) (hc : PE X c (tE X.K G h W)) (hm : lastMarks [copA o, copA o'] [b, c] = false) :
    PT X (.Compare a [copA o, copA o'] [b, c] pos) (tT X.K G (fun σ S => (f σ S).bind fun x S => (g σ S).bind fun y S => (cmpW o x y S).bind fun t S => andK t ((h σ S).bind fun z S => cmpW o' y z S) S) W) :=
  (pt_chain (op_cmp (G := G) C.units o h1 h2) (op_cmp (G := G) C.units o' h3 h4) ha hb hc hm).imp fun σ H Q q => chW q

/-! and, or, not, if-else -/
theorem andW (q : tE X.K G (fun σ S => (f σ S).bind fun t S => andK t (g σ S) S) W σ H Q) : tAndV (tE X.K G f W) (tE X.K G g W) σ H Q := by
  obtain ⟨ι, Y, S, σd, R, rs, p⟩ := q
  refine ⟨ι, Y, S, σd, R, rs, p.bind.mono ?_ idE⟩
  rintro v H' ⟨ι1, w, S1, e, R1, r1, p1⟩
  cases w with
  | bl t =>
    cases r1.bl_eq
    refine ⟨t, rfl, ?_⟩
    cases t with
    | false => exact p1.here R1 (.bl _)
    | true => exact ⟨ι1, Y, S1, σd, R1, rs.evo e, p1⟩
  | _ => exact p1.elim
theorem orW (q : tE X.K G (fun σ S => (f σ S).bind fun t S => orK t (g σ S) S) W σ H Q) : tOrV (tE X.K G f W) (tE X.K G g W) σ H Q := by
  obtain ⟨ι, Y, S, σd, R, rs, p⟩ := q
  refine ⟨ι, Y, S, σd, R, rs, p.bind.mono ?_ idE⟩
  rintro v H' ⟨ι1, w, S1, e, R1, r1, p1⟩
  cases w with
  | bl t =>
    cases r1.bl_eq
    refine ⟨t, rfl, ?_⟩
    cases t with
    | true => exact p1.here R1 (.bl _)
    | false => exact ⟨ι1, Y, S1, σd, R1, rs.evo e, p1⟩
  | _ => exact p1.elim
theorem tandW (q : tT X.K G (fun σ S => (f σ S).bind fun t S => andK t (g σ S) S) W σ H Q) : tAnd (tT X.K G f W) (tT X.K G g W) σ H Q := by
  have q' := andW q
  obtain ⟨ι, Y, S, σd, R, rs, p⟩ := q'
  refine ⟨ι, Y, S, σd, R, rs, p.mono ?_ idE⟩
  rintro v H' ⟨t, rfl, q⟩
  refine ⟨t, rfl, ?_⟩
  cases t with
  | true => exact q
  | false => obtain ⟨c, e, q⟩ := q; cases e; exact q
theorem torW (q : tT X.K G (fun σ S => (f σ S).bind fun t S => orK t (g σ S) S) W σ H Q) : tOr (tT X.K G f W) (tT X.K G g W) σ H Q := by
  have q' := orW q
  obtain ⟨ι, Y, S, σd, R, rs, p⟩ := q'
  refine ⟨ι, Y, S, σd, R, rs, p.mono ?_ idE⟩
  rintro v H' ⟨t, rfl, q⟩
  refine ⟨t, rfl, ?_⟩
  cases t with
  | false => exact q
  | true => obtain ⟨c, e, q⟩ := q; cases e; exact q
theorem notW (q : tE X.K G (fun σ S => (f σ S).bind fun x S => match x with | .bl c => .ok (.bl (!c)) S | _ => .bad) W σ H Q) : tNotV (tE X.K G f W) σ H Q := by
  obtain ⟨ι, Y, S, σd, R, rs, p⟩ := q
  refine ⟨ι, Y, S, σd, R, rs, p.bind.mono ?_ idE⟩
  rintro v H' ⟨ι1, w, S1, e, R1, r1, p1⟩
  cases w with
  | bl t =>
    cases r1.bl_eq
    exact ⟨t, rfl, p1.here R1 (.bl _)⟩
  | _ => exact p1.elim
theorem e_not (ha : PE X a (tE X.K G f W)) : PE X (.UnaryOp .Not a pos) (tE X.K G (fun σ S => (f σ S).bind fun x S => match x with | .bl c => .ok (.bl (!c)) S | _ => .bad) W) := (pe_not ha).imp fun σ H Q q => notW q
theorem t_not (ha : PT X a (tT X.K G f W)) : PT X (.UnaryOp .Not a pos) (tT X.K G (fun σ S => (f σ S).bind fun x S => match x with | .bl c => .ok (.bl (!c)) S | _ => .bad) W) := by
  refine (pt_not ha).imp fun σ H Q q => ?_
  obtain ⟨ι, Y, S, σd, R, rs, p⟩ := notW q
  refine ⟨ι, Y, S, σd, R, rs, p.mono ?_ idE⟩
  rintro v H' ⟨t, rfl, c, e, q⟩
  cases e
  exact ⟨t, rfl, q⟩
theorem e_ite (hc : PT X c (tT X.K G f W)) (ha : PE X a (tE X.K G g W)) (hb : PE X b (tE X.K G h W)) : PE X (.IfExp c a b pos) (tE X.K G (fun σ S => (f σ S).bind fun t S => iteK t (g σ S) (h σ S)) W) := by
  refine (pe_ifExp hc ha hb).imp fun σ H Q q => ?_
  obtain ⟨ι, Y, S, σd, R, rs, p⟩ := q
  refine ⟨ι, Y, S, σd, R, rs, p.bind.mono ?_ idE⟩
  rintro v H' ⟨ι1, w, S1, e, R1, r1, p1⟩
  cases w with
  | bl t =>
    cases r1.bl_eq
    refine ⟨t, rfl, ?_⟩
    cases t with
    | true => exact ⟨ι1, Y, S1, σd, R1, rs.evo e, p1⟩
    | false => exact ⟨ι1, Y, S1, σd, R1, rs.evo e, p1⟩
  | _ => exact p1.elim

/-! argument lists, displays -/
theorem a_nil : PA X [] (tL X.K G (fun _ S => .ok (.tup []) S) W) := pa_nil.imp fun σ H Q q => by
  obtain ⟨ι, Y, S, σd, R, rs, p⟩ := q
  exact p ι H [] (Evo.refl _ _) R .nil
theorem a_cons (hs : noStar a = true) (ha : PE X a (tE X.K G f W)) (hr : PA X es (tL X.K G g W)) :
    PA X (a :: es) (tL X.K G (fun σ S => (f σ S).bind fun x S => (g σ S).bind fun y S => match y with | .tup ws => .ok (.tup (x :: ws)) S | _ => .bad) W) := by
  refine (pa_cons ha hr (starEach_cons hs)).imp fun σ H Q q => ?_
  obtain ⟨ι, Y, S, σd, R, rs, p⟩ := q
  refine ⟨ι, Y, S, σd, R, rs, p.bind.mono ?_ idE⟩
  rintro v H' ⟨ι1, w, S1, e, R1, r1, p1⟩
  refine ⟨ι1, Y, S1, σd, R1, rs.evo e, (p1.bindL fun w S h => ?_).mono ?_ idE⟩
  · cases w with
    | tup ws => exact absurd rfl (h ws)
    | _ => rfl
  rintro vs H2 ⟨ι2, ws, S2, e2, R2, r2, p2⟩
  exact p2 ι2 H2 _ (Evo.refl _ _) R2 (.cons (r1.evo e2) r2)
theorem e_tup {k : Nat} (ha : PA X es (tL X.K G f W)) : PE X (.Tuple es k pos) (tE X.K G (fun σ S => (f σ S).bind fun x S => match x with | .tup ws => if ws.length ≤ sizeLine then .ok (.tup ws) S else .bad | _ => .bad) W) := by
  refine (pe_tup ha).imp fun σ H Q q => ?_
  obtain ⟨ι, Y, S, σd, R, rs, p⟩ := q
  refine ⟨ι, Y, S, σd, R, rs, (p.bindL fun w S h => ?_).mono ?_ idE⟩
  · cases w with
    | tup ws => exact absurd rfl (h ws)
    | _ => rfl
  rintro vs H2 ⟨ι2, ws, S2, e2, R2, r2, p2⟩
  by_cases hz : ws.length ≤ sizeLine
  · simp only [if_pos hz] at p2
    exact ⟨by rw [← r2.length]; exact hz, p2.newT R2 r2⟩
  · simp only [if_neg hz] at p2
    exact p2.elim
/-- as a tree, as an object -/
theorem e_ofN (h : PE X a (tN X.K G f W)) : PE X a (tE X.K G f W) := h.imp fun σ H Q q => by
  obtain ⟨ι, Y, S, σd, R, rs, p⟩ := q
  exact ⟨ι, Y, S, σd, R, rs, p.toN⟩
theorem e_objN (h : PE X a (tN X.K G f W)) : PE X a (tE X.K G (fun σ S => (f σ S).bind objK) W) := h.imp fun σ H Q q => by
  obtain ⟨ι, Y, S, σd, R, rs, p⟩ := q
  exact ⟨ι, Y, S, σd, R, rs, p.objN⟩
theorem n_dd0 : PE X (.Dict [] [] pos) (tN X.K G (fun σ S => (Res.ok (.tup []) S).bind fun x S => match x with | .tup ws => (match dispW ws with | some kvs => .ok (.dct (mergeW [] kvs)) S | none => .bad) | _ => .bad) W) := by
  refine pe_dnewK.imp fun σ H Q q => ?_
  obtain ⟨ι, Y, S, σd, R, rs, p⟩ := q
  exact PostN.newD (ws := []) p R .nil
theorem n_lst (ha : PA X es (tL X.K G f W)) : PE X (.List es pos) (tN X.K G (fun σ S => (f σ S).bind fun x S => match x with | .tup ws => if ws.length ≤ sizeLine then .ok (.lst ws) S else .bad | _ => .bad) W) := by
  refine (pe_lst ha).imp fun σ H Q q => ?_
  obtain ⟨ι, Y, S, σd, R, rs, p⟩ := q
  refine ⟨ι, Y, S, σd, R, rs, (p.bindL fun w S h => ?_).mono ?_ idE⟩
  · cases w with
    | tup ws => exact absurd rfl (h ws)
    | _ => rfl
  rintro vs H2 ⟨ι2, ws, S2, e2, R2, r2, p2⟩
  by_cases hz : ws.length ≤ sizeLine
  · simp only [if_pos hz] at p2
    exact ⟨by rw [← r2.length]; exact hz, p2.newL R2 r2⟩
  · simp only [if_neg hz] at p2
    exact p2.elim
theorem e_new (ha : PA X es (tL X.K G f W)) : PE X (.List es pos) (tE X.K G (fun σ S => (f σ S).bind fun x S => match x with | .tup ws => if ws.length ≤ sizeLine then .ok (.ref S.length) (S ++ [.lst ws]) else .bad | _ => .bad) W) := by
  refine (pe_lst ha).imp fun σ H Q q => ?_
  obtain ⟨ι, Y, S, σd, R, rs, p⟩ := q
  refine ⟨ι, Y, S, σd, R, rs, (p.bindL fun w S h => ?_).mono ?_ idE⟩
  · cases w with
    | tup ws => exact absurd rfl (h ws)
    | _ => rfl
  rintro vs H2 ⟨ι2, ws, S2, e2, R2, r2, p2⟩
  by_cases hz : ws.length ≤ sizeLine
  · simp only [if_pos hz] at p2
    refine ⟨by rw [← r2.length]; exact hz, fun q n => ?_⟩
    exact p2 (ext ι2 S2.length q) _ _ (evo_ext R2 n) (R2.push n (.lst r2)) (.ref (by unfold ext; rw [if_pos rfl]))
  · simp only [if_neg hz] at p2
    exact p2.elim

/-! subscripts, slices -/
theorem e_idx (hu : X.A.units + 1 < cLine) (hs : noSl b = true) (ha : PE X a (tE X.K G f W)) (hb : PE X b (tE X.K G g W)) : PE X (.Subscript a b pos) (tE X.K G (fun σ S => (f σ S).bind fun x S => (g σ S).bind fun y S => idxW x y S) W) := by
  refine (pe_ix (ix_W (G := G) hu) ha hb (plainIx hs)).imp fun σ H Q q => ?_
  obtain ⟨ι, Y, S, σd, R, rs, p⟩ := q
  refine ⟨ι, Y, S, σd, R, rs, p.bind.mono ?_ idE⟩
  rintro v H' ⟨ι1, w, S1, e, R1, r1, p1⟩
  refine ⟨ι1, Y, S1, σd, R1, rs.evo e, p1.bind.mono ?_ idE⟩
  rintro u H2 ⟨ι2, w2, S2, e2, R2, r2, p2⟩
  exact ⟨ι2, Y, S2, w, w2, _, R2, r1.evo e2, r2, p2⟩
/-- a bound of a slice: left out, or an int -/
def tOb (K : PySem.W.Frag) (G : Glob) (b : Bool) (f : Sl → Sto → Res) (W : WX) : TO := if b then tNoPart else tPart (tE K G f W)
theorem obW {K : PySem.W.Frag} {ι : Io} {Y : Addr → Prop} {S : Sto} {σd : Sl} {σ : L2.St} {H : Hp} {bl : Bool} {Q : Option Int → Hp → Prop} {k : Wv → Sto → Res} {Q0 : VK} (R : Rel K G ι Y S H) (rs : RepS K H ι Y σd σ) (hb : bl = true → ∀ σ S, g σ S = .ok .non S)
    (p : Post K G Y ι H (((g σd S).bind (intO bl)).bind k) Q0 (L2.WE W σ)) (hq : ∀ ι' H' S' l w, bndW w = some l → Evo ι H ι' H' → Rel K G ι' Y S' H' → Post K G Y ι' H' (k w S') Q0 (L2.WE W σ) → Q l H') : tOb K G bl g W σ H Q := by
  cases bl with
  | true =>
    have hg := hb rfl σd S
    rw [hg] at p
    exact hq ι H S none .non rfl (Evo.refl _ _) R p
  | false =>
    refine ⟨ι, Y, S, σd, R, rs, ?_⟩
    have e : ((g σd S).bind (intO false)).bind k = (g σd S).bind fun w S => (intO false w S).bind k := by cases g σd S <;> rfl
    rw [e] at p
    refine p.bind.mono ?_ idE
    rintro v H' ⟨ι1, w, S1, e, R1, r1, p1⟩
    cases w with
    | int i =>
      cases r1.int_eq
      exact ⟨i, rfl, hq ι1 H' S1 (some i) (.int i) rfl e R1 p1⟩
    | _ => exact p1.elim
theorem o_b {b : Option Expr} {bl : Bool} (hb : bl = true → b = none) (hb2 : bl = false → ∃ x, b = some x ∧ PE X x (tE X.K G g W)) : PO X b (tOb X.K G bl g W) := by
  cases bl with
  | true => rw [hb rfl]; exact po_none
  | false =>
    obtain ⟨x, rfl, h⟩ := hb2 rfl
    exact po_some h
theorem e_sl {lo hi : Option Expr} {p2 : Pos} {bl bh : Bool} (ha : PE X a (tE X.K G f W)) (hl : PO X lo (tOb X.K G bl g W)) (hh : PO X hi (tOb X.K G bh h W)) (gl : bl = true → ∀ σ S, g σ S = .ok .non S) (gh : bh = true → ∀ σ S, h σ S = .ok .non S) :
    PE X (.Subscript a (.Slice lo hi none p2) pos) (tE X.K G (fun σ S => (f σ S).bind fun x S => ((g σ S).bind (intO bl)).bind fun l S => ((h σ S).bind (intO bh)).bind fun u S => slW x l u S) W) := by
  refine (pe_slice (sl_W (G := G)) ha hl hh).imp fun σ H Q q => ?_
  obtain ⟨ι, Y, S, σd, R, rs, p⟩ := q
  refine ⟨ι, Y, S, σd, R, rs, p.bind.mono ?_ idE⟩
  rintro v H' ⟨ι1, w, S1, e, R1, r1, p1⟩
  refine obW R1 (rs.evo e) gl p1 fun ι2 H2 S2 l wl hwl e2 R2 p2 => ?_
  refine obW R2 ((rs.evo e).evo e2) gh p2 fun ι3 H3 S3 u wu hwu e3 R3 p3 => ?_
  exact ⟨ι3, Y, S3, w, wl, wu, _, R3, r1.evo (e2.trans e3), hwl, hwu, p3⟩

/-! calls -/
theorem pe_callS0 {CX : CXT} {k : Nat} {f : Addr} {fd : FuncData} {ps : List Str} {sp : Sp} {E : L2.St → XK} {x : Str} {p : Pos} (F : FnOk X.prog X.w X.K X.mg X.base CX k f fd ps sp) (hr : Room k X.A) (hg : Gl X x) (hm : X.mg x = some (.ref f)) (hk : PySem.W.keepIn X.K (.ref f) = true) (hb : Binds X.K fd ps []) (hx : ∀ σ, PassesAt CX X σ (E σ))
    (hdb : (x == ("__debug__" : Str)) = false) : PE X (.Call (.Name x p) [] [] pos) (tCallS sp E tNil) := by
  refine ⟨fun pins s σ H Q I h => ?_⟩
  refine wpAny_Call_Name_kw (ld_glob I hg hm ?_ hdb)
  exact PySem.W.callWith_K0 I.kIn hk (run_fnS (us := []) F hr hb (hx σ) I .nil h)
theorem tupOnly_call {k : List Wv → Sto → Res} : TupOnly (fun x S => match x with | .tup ws => k ws S | _ => .bad) := fun w S h => by
  cases w with
  | tup ws => exact absurd rfl (h ws)
  | _ => rfl
theorem callKey {x : Str} (σ : L2.St) (H : Hp) (Q : VK) (q : tE X.K G (fun σ S => (f σ S).bind fun y S => match y with | .tup ws => cl x ws S | _ => .bad) W σ H Q) : tCallS (spC X.K G (cl x)) (L2.WE W) (tL X.K G f W) σ H Q := by
  obtain ⟨ι, Y, S, σd, R, rs, p⟩ := q
  refine ⟨ι, Y, S, σd, R, rs, (p.bindL tupOnly_call).mono ?_ idE⟩
  rintro vs H2 ⟨ι2, ws, S2, e2, R2, r2, p2⟩
  exact ⟨ι2, Y, S2, ws, R2, r2, p2⟩
theorem e_call (C : XOk X G T cl lv N sc fn kd W) {x : Str} {p : Pos} (hx : isGl sc x = true) (hn : T.fns.contains x = true) (hs : (a :: es).all noStar = true) (ha : PA X (a :: es) (tL X.K G f W)) :
    PE X (.Call (.Name x p) (a :: es) [] pos) (tE X.K G (fun σ S => (f σ S).bind fun y S => match y with | .tup ws => cl x ws S | _ => .bad) W) := by
  obtain ⟨gl, d, _⟩ := C.gl hx
  obtain ⟨fa, fd, ps, h1, h2, h3, F⟩ := C.g.fns x hn
  rw [List.all_cons, Bool.and_eq_true] at hs
  exact (pe_callS F (C.room.mono (Nat.le_add_right lv 2)) gl h1 h2 h3 (fun σ => passAt C.tk σ) ha d (starEach_cons hs.1) (noStars hs.2)).imp callKey
theorem e_call0 (C : XOk X G T cl lv N sc fn kd W) {x : Str} {p : Pos} (hx : isGl sc x = true) (hn : T.fns.contains x = true) :
    PE X (.Call (.Name x p) [] [] pos) (tE X.K G (fun σ S => (Res.ok (.tup []) S).bind fun y S => match y with | .tup ws => cl x ws S | _ => .bad) W) := by
  obtain ⟨gl, d, _⟩ := C.gl hx
  obtain ⟨fa, fd, ps, h1, h2, h3, F⟩ := C.g.fns x hn
  refine (pe_callS0 F (C.room.mono (Nat.le_add_right lv 2)) gl h1 h2 h3 (fun σ => passAt C.tk σ) d).imp fun σ H Q q => ?_
  obtain ⟨ι, Y, S, σd, R, rs, p⟩ := q
  exact ⟨ι, Y, S, [], R, .nil, p⟩
def biN : BI → Str
  | .len => "len" | .str => "str" | .int => "int" | .abs => "abs" | .min2 => "min" | .max2 => "max" | .sum => "sum" | .tup1 => "tuple" | .min1 => "min" | .max1 => "max"
theorem e_bi (C : XOk X G T cl lv N sc fn kd W) (b : BI) {p : Pos} (hx : isGl sc (biN b) = true) (hn : T.bis.contains (biN b) = true) (hs : (a :: es).all noStar = true) (ha : PA X (a :: es) (tL X.K G f W)) :
    PE X (.Call (.Name (biN b) p) (a :: es) [] pos) (tE X.K G (fun σ S => (f σ S).bind fun y S => match y with | .tup ws => biW b ws S | _ => .bad) W) := by
  obtain ⟨gl, d, nn⟩ := C.gl hx
  have hm := C.g.bis _ hn
  rw [List.all_cons, Bool.and_eq_true] at hs
  have key : PE X (.Call (.Name (biN b) p) (a :: es) [] pos) (tCB (rBi X.K G b) (tL X.K G f W)) := by
    have ok := bi_ok (G := G) C.calm (Nat.lt_of_le_of_lt (by omega) C.room.un : X.A.units + 70 < cLine) b
    cases b with
    | len => exact pe_callB ok gl hm (by rfl) ha nn d (starEach_cons hs.1) (noStars hs.2)
    | str => exact pe_callTy ok gl hm (by rfl) ha nn d (starEach_cons hs.1) (noStars hs.2)
    | int => exact pe_callTy ok gl hm (by rfl) ha nn d (starEach_cons hs.1) (noStars hs.2)
    | abs => exact pe_callB ok gl hm (by rfl) ha nn d (starEach_cons hs.1) (noStars hs.2)
    | min2 => exact pe_callB ok gl hm (by rfl) ha nn d (starEach_cons hs.1) (noStars hs.2)
    | max2 => exact pe_callB ok gl hm (by rfl) ha nn d (starEach_cons hs.1) (noStars hs.2)
    | sum => exact pe_callB ok gl hm (by rfl) ha nn d (starEach_cons hs.1) (noStars hs.2)
    | tup1 => exact pe_callTy ok gl hm (by rfl) ha nn d (starEach_cons hs.1) (noStars hs.2)
    | min1 => exact pe_callB ok gl hm (by rfl) ha nn d (starEach_cons hs.1) (noStars hs.2)
    | max1 => exact pe_callB ok gl hm (by rfl) ha nn d (starEach_cons hs.1) (noStars hs.2)
  refine key.imp fun σ H Q q => ?_
  obtain ⟨ι, Y, S, σd, R, rs, p⟩ := q
  refine ⟨ι, Y, S, σd, R, rs, (p.bindL tupOnly_call).mono ?_ idE⟩
  rintro vs H2 ⟨ι2, ws, S2, e2, R2, r2, p2⟩
  exact ⟨ι2, Y, S2, ws, _, R2, r2, p2⟩
def bnN : BN → Str
  | .lst1 => "list" | .srt => "sorted" | .dct1 => "dict"
theorem n_bn (C : XOk X G T cl lv N sc fn kd W) (b : BN) {p : Pos} (hx : isGl sc (bnN b) = true) (hn : T.bis.contains (bnN b) = true) (hs : (a :: es).all noStar = true) (ha : PA X (a :: es) (tL X.K G f W)) :
    PE X (.Call (.Name (bnN b) p) (a :: es) [] pos) (tN X.K G (fun σ S => (f σ S).bind fun y S => match y with | .tup ws => bnW b ws S | _ => .bad) W) := by
  obtain ⟨gl, d, nn⟩ := C.gl hx
  have hm := C.g.bis _ hn
  rw [List.all_cons, Bool.and_eq_true] at hs
  have key : PE X (.Call (.Name (bnN b) p) (a :: es) [] pos) (tCB (rBn X.K G b) (tL X.K G f W)) := by
    have ok := bn_ok (G := G) C.calm (Nat.lt_of_le_of_lt (by omega) C.room.un : X.A.units + 70 < cLine) b
    cases b with
    | lst1 => exact pe_callTy ok gl hm (by rfl) ha nn d (starEach_cons hs.1) (noStars hs.2)
    | srt => exact pe_callB ok gl hm (by rfl) ha nn d (starEach_cons hs.1) (noStars hs.2)
    | dct1 => exact pe_callTy ok gl hm (by rfl) ha nn d (starEach_cons hs.1) (noStars hs.2)
  refine key.imp fun σ H Q q => ?_
  obtain ⟨ι, Y, S, σd, R, rs, p⟩ := q
  refine ⟨ι, Y, S, σd, R, rs, (p.bindL tupOnly_call).mono ?_ idE⟩
  rintro vs H2 ⟨ι2, ws, S2, e2, R2, r2, p2⟩
  exact ⟨ι2, Y, S2, ws, _, R2, r2, p2⟩
def mtN : MT → Str
  | .app => "append" | .updD => "update" | .idxL => "index"
theorem isMtW_ty {K : PySem.W.Frag} {ι : Io} {Y : Addr → Prop} {S : Sto} {H : Hp} {m : MT} {w : Wv} {x : V} (R : Rel K G ι Y S H) (r : RepV K H ι Y w x) (h : isMtW m w S = true) : tyV K (mtTy m) x H := by
  have lst : ∀ ws, rd S w = .lst ws → tyV K "list" x H := fun ws e => by
    obtain ⟨p, vs, rfl, h1, _⟩ := rd_lst R r e
    exact .inl ⟨rfl, vs, SqL.of h1⟩
  have dct : ∀ ws, rd S w = .dct ws → tyV K "dict" x H := fun ws e => by
    obtain ⟨p, vs, rfl, h1, _⟩ := rd_dct R r e
    exact .inr (.inr (.inl ⟨rfl, .inl ⟨vs, h1⟩⟩))
  cases m with
  | app =>
    have h : (match rd S w with | .lst _ => true | _ => false) = true := h
    cases e : rd S w with
    | lst ws => exact lst ws e
    | _ => rw [e] at h; cases h
  | updD =>
    have h : (match rd S w with | .dct _ => true | _ => false) = true := h
    cases e : rd S w with
    | dct ws => exact dct ws e
    | _ => rw [e] at h; cases h
  | idxL =>
    have h : (match rd S w with | .lst _ => true | _ => false) = true := h
    cases e : rd S w with
    | lst ws => exact lst ws e
    | _ => rw [e] at h; cases h
theorem e_mt (m : MT) {p : Pos} (ho : PE X b (tE X.K G f W)) (hp : plainB b = true) (hl : (p.endLine == pos.line) = true) (hs : (a :: es).all noStar = true) (hz : decide ((a :: es).length < 30) = true) (ha : PA X (a :: es) (tL X.K G g W)) :
    PE X (.Call (.Attribute b (mtN m) p) (a :: es) [] pos) (tE X.K G (fun σ S => (f σ S).bind fun x S => if isMtW m x S = true then (g σ S).bind fun y S => match y with | .tup ws => mtW m x ws S | _ => .bad else .bad) W) := by
  have hs' := hs
  rw [List.all_cons, Bool.and_eq_true] at hs
  have few : ((backTo pos (starEach (a :: es) X.env)).all (fun x => !x.1) && (backToKw pos (keywordEach [] X.env)).all (fun x => x.1.isSome)
      && decide ((a :: es).length + ([] : List Keyword).length + (if ([] : List Keyword).isEmpty then 0 else 1) < 30)) = true := by
    rw [noStars2 hs']
    exact hz
  have key : PE X (.Call (.Attribute b (mtN m) p) (a :: es) [] pos) (tBM X.K (mtTy m) (rMt X.K G m) (tE X.K G f W) (tL X.K G g W)) := by
    have ok := mt_ok (X := X) (G := G) m
    cases m with
    | app => exact pe_bm F.plainAttrs_list F.slot_list_append F.type_list_append ok ho ha (plainBase hp) few hl (starEach_cons hs.1) (noStars hs.2)
    | updD => exact pe_bm F.plainAttrs_dict F.slot_dict_update F.type_dict_update ok ho ha (plainBase hp) few hl (starEach_cons hs.1) (noStars hs.2)
    | idxL => exact pe_bm F.plainAttrs_list F.slot_list_index F.type_list_index ok ho ha (plainBase hp) few hl (starEach_cons hs.1) (noStars hs.2)
  refine key.imp fun σ H Q q => ?_
  obtain ⟨ι, Y, S, σd, R, rs, p⟩ := q
  refine ⟨ι, Y, S, σd, R, rs, p.bind.mono ?_ idE⟩
  rintro v H' ⟨ι1, w, S1, e, R1, r1, p1⟩
  by_cases hm : isMtW m w S1 = true
  · rw [if_pos hm] at p1
    refine ⟨isMtW_ty R1 r1 hm, ι1, Y, S1, σd, R1, rs.evo e, (p1.bindL tupOnly_call).mono ?_ idE⟩
    rintro vs H2 ⟨ι2, ws, S2, e2, R2, r2, p2⟩
    exact ⟨ι2, Y, S2, w, ws, _, R2, r1.evo e2, r2, p2⟩
  · rw [if_neg hm] at p1; exact p1.elim
def miN : MI → Str
  | .split => "split" | .partition => "partition" | .join => "join"
theorem mi_ok (m : MI) : MtR X (miId m) (rMi X.K G m) := by
  cases m
  · exact mi_split
  · exact mi_partition
  · exact mi_join
theorem e_mi (m : MI) {p : Pos} (ho : PE X b (tE X.K G f W)) (hp : plainB b = true) (hl : (p.endLine == pos.line) = true) (hs : (a :: es).all noStar = true) (hz : decide ((a :: es).length < 30) = true) (ha : PA X (a :: es) (tL X.K G g W)) :
    PE X (.Call (.Attribute b (miN m) p) (a :: es) [] pos) (tE X.K G (fun σ S => (f σ S).bind fun x S => if isStr x = true then (g σ S).bind fun y S => match y with | .tup ws => miW m x ws S | _ => .bad else .bad) W) := by
  have hs' := hs
  rw [List.all_cons, Bool.and_eq_true] at hs
  have few : ((backTo pos (starEach (a :: es) X.env)).all (fun x => !x.1) && (backToKw pos (keywordEach [] X.env)).all (fun x => x.1.isSome)
      && decide ((a :: es).length + ([] : List Keyword).length + (if ([] : List Keyword).isEmpty then 0 else 1) < 30)) = true := by
    rw [noStars2 hs']
    exact hz
  have key : PE X (.Call (.Attribute b (miN m) p) (a :: es) [] pos) (tBM X.K "str" (rMi X.K G m) (tE X.K G f W) (tL X.K G g W)) := by
    have ok := mi_ok (X := X) (G := G) m
    cases m with
    | split => exact pe_bm F.plainAttrs_str F.slot_str_split F.type_str_split ok ho ha (plainBase hp) few hl (starEach_cons hs.1) (noStars hs.2)
    | partition => exact pe_bm F.plainAttrs_str F.slot_str_partition F.type_str_partition ok ho ha (plainBase hp) few hl (starEach_cons hs.1) (noStars hs.2)
    | join => exact pe_bm F.plainAttrs_str F.slot_str_join F.type_str_join ok ho ha (plainBase hp) few hl (starEach_cons hs.1) (noStars hs.2)
  refine key.imp fun σ H Q q => ?_
  obtain ⟨ι, Y, S, σd, R, rs, p⟩ := q
  refine ⟨ι, Y, S, σd, R, rs, p.bind.mono ?_ idE⟩
  rintro v H' ⟨ι1, w, S1, e, R1, r1, p1⟩
  cases w with
  | str z =>
    cases r1.str_eq
    refine ⟨rfl, ι1, Y, S1, σd, R1, rs.evo e, ((show Post X.K G Y ι1 H' ((g σd S1).bind fun y S => match y with | .tup ws => miW m (.str z) ws S | _ => .bad) Q (L2.WE W σ) from p1).bindL tupOnly_call).mono ?_ idE⟩
    rintro vs H2 ⟨ι2, ws, S2, e2, R2, r2, p2⟩
    exact ⟨ι2, Y, S2, _, ws, _, R2, .str z, r2, p2⟩
  | _ => exact p1.elim

/-! f-strings -/
theorem e_fmt (ha : PE X a (tE X.K G f W)) : PE X (.FormattedValue a (-1) none pos) (tE X.K G (fun σ S => (f σ S).bind fun x S => match fmtW x with | some y => .ok (.str y) S | none => .bad) W) := by
  refine (pe_fmt ha).imp fun σ H Q q => ?_
  obtain ⟨ι, Y, S, σd, R, rs, p⟩ := q
  refine ⟨ι, Y, S, σd, R, rs, p.bind.mono ?_ idE⟩
  rintro v H' ⟨ι1, w, S1, e, R1, r1, p1⟩
  cases w with
  | str z =>
    cases r1.str_eq
    by_cases hz : z.length ≤ sizeLine
    · simp only [fmtW, if_pos hz] at p1
      exact .inl ⟨z, rfl, hz, p1.here R1 (.str _)⟩
    · simp only [fmtW, if_neg hz] at p1
      exact p1.elim
  | int i =>
    cases r1.int_eq
    by_cases hz : i.natAbs.log2 < 1920
    · simp only [fmtW, if_pos hz] at p1
      exact .inr ⟨i, rfl, hz, p1.here R1 (.str _)⟩
    · simp only [fmtW, if_neg hz] at p1
      exact p1.elim
  | _ => exact p1.elim
/-- the parts of an f-string -/
def FsOk (X : Cx) (G : Glob) (f : Sl → Sto → Res) (es : List Expr) : Prop := ∃ ts, PJ X es ts ∧ ∀ (acc : Str) (σ : L2.St) (H : Hp) (Q : Str → Hp → Prop) (ι : Io) (Y : Addr → Prop) (S : Sto) (σd : Sl) (ws : List Wv) (S' : Sto) (out : Str), Rel X.K G ι Y S H → RepS X.K H ι Y σd σ →
  f σd S = .ok (.tup ws) S' → joinF ws acc = some out → (∀ ι' H', Evo ι H ι' H' → Rel X.K G ι' Y S' H' → Q out H') → tJs ts acc σ H Q
theorem fs_nil : FsOk X G (fun _ S => .ok (.tup []) S) [] := ⟨[], .nil, fun acc σ H Q ι Y S σd ws S' out R rs e j k => by
  cases e
  cases j
  exact k ι H (Evo.refl _ _) R⟩
theorem fs_cons (ha : PE X a (tE X.K G f W)) (hr : FsOk X G g es) : FsOk X G (fun σ S => (f σ S).bind fun x S => (g σ S).bind fun y S => match y with | .tup ws => .ok (.tup (x :: ws)) S | _ => .bad) (a :: es) := by
  obtain ⟨ts, hj, hk⟩ := hr
  refine ⟨_, .cons ha hj, fun acc σ H Q ι Y S σd ws S' out R rs e j k => ?_⟩
  cases e1 : f σd S with
  | exc c S => simp only [e1, bind_exc] at e; cases e
  | bad => simp only [e1, bind_bad] at e; cases e
  | ok x S1 =>
    simp only [e1, bind_ok] at e
    cases e2 : g σd S1 with
    | exc c S => simp only [e2, bind_exc] at e; cases e
    | bad => simp only [e2, bind_bad] at e; cases e
    | ok y S2 =>
      simp only [e2, bind_ok] at e
      cases y with
      | tup ws' =>
        cases e
        cases x with
        | str y =>
          have j : (if (acc ++ y).length ≤ sizeLine then joinF ws' (acc ++ y) else none) = some out := j
          by_cases hz : (acc ++ y).length ≤ sizeLine
          · rw [if_pos hz] at j
            refine ⟨ι, Y, S, σd, R, rs, ?_⟩
            rw [e1]
            intro ι1 H1 v ev R1 r1
            cases r1.str_eq
            exact ⟨y, rfl, hz, hk (acc ++ y) σ H1 Q ι1 Y S1 σd ws' S' out R1 (rs.evo ev) e2 j fun ι2 H2 ev2 R2 => k ι2 H2 (ev.trans ev2) R2⟩
          · rw [if_neg hz] at j; cases j
        | _ => cases j
      | _ => cases e
theorem e_fs {c : Expr} (hf : FsOk X G f (a :: b :: es)) : PE X (.JoinedStr (a :: b :: es) pos) (tE X.K G (fun σ S => match f σ S with | .ok (.tup ws) S => (match joinF ws Str.empty with | some y => .ok (.str y) S | none => .bad) | _ => .bad) W) := by
  obtain ⟨ts, hj, hk⟩ := hf
  refine (pe_joined hj).imp fun σ H Q q => ?_
  obtain ⟨ι, Y, S, σd, R, rs, p⟩ := q
  cases e : f σd S with
  | ok w S1 =>
    cases w with
    | tup ws =>
      simp only [e] at p
      cases j : joinF ws Str.empty with
      | none => simp only [j] at p; exact p.elim
      | some out =>
        simp only [j] at p
        exact hk Str.empty σ H _ ι Y S σd ws S1 out R rs e j fun ι2 H2 ev R2 => p ι2 H2 _ ev R2 (.str out)
    | _ => simp only [e] at p; exact p.elim
  | exc c S => simp only [e] at p; exact p.elim
  | bad => simp only [e] at p; exact p.elim
end
end Dy

end
section
set_option Elab.async false
set_option linter.all false
set_option maxRecDepth 100000
set_option maxHeartbeats 400000
/-! Dy, part F: what is walked; comprehensions. -/
namespace Dy
open PySem PySem.Spec PyProof.Rows L2

/-- pairs -/
def pairL : List Wv → List Wv → List Wv
  | a :: as, b :: bs => .tup [a, b] :: pairL as bs
  | _, _ => []
theorem pairL_at : ∀ {as bs : List Wv} {i : Nat} {a b : Wv}, as[i]? = some a → bs[i]? = some b → (pairL as bs)[i]? = some (.tup [a, b])
  | [], _, i, _, _, h, _ => by simp at h
  | _ :: _, [], i, _, _, _, h => by simp at h
  | x :: xs, y :: ys, 0, _, _, h1, h2 => by simp at h1 h2; subst h1 h2; rfl
  | x :: xs, y :: ys, i + 1, _, _, h1, h2 => by
    show (pairL xs ys)[i]? = _
    exact pairL_at (by simpa using h1) (by simpa using h2)
theorem pairL_len : ∀ {as bs : List Wv}, as.length = bs.length → (pairL as bs).length = as.length
  | [], [], _ => rfl
  | _ :: xs, _ :: ys, h => by show (pairL xs ys).length + 1 = xs.length + 1; rw [pairL_len (by simpa using h)]
  | [], _ :: _, h => by simp at h
  | _ :: _, [], h => by simp at h
/-- what is walked, and how: what stands there, or new pairs -/
def WalkOk (K : PySem.W.Frag) (ι : Io) (Y : Addr → Prop) (H : Hp) (J : It) (items : List Wv) : Prop :=
  (∃ (xs : List V) (Gd : Hp → Prop), Walk J xs.length Gd (YAt xs) ∧ RepL K H ι Y items xs ∧ ∀ ι' H', Evo ι H ι' H' → Gd H') ∨
  ∃ (as bs : List Wv) (xs ys : List V) (Gd : Hp → Prop), Walk J xs.length Gd (YPair (fun i => xs[i]?) (fun i => ys[i]?)) ∧ RepL K H ι Y as xs ∧ RepL K H ι Y bs ys ∧ as.length = bs.length ∧ items = pairL as bs ∧ ∀ ι' H', Evo ι H ι' H' → Gd H'
theorem WalkOk.turn {K : PySem.W.Frag} {G : Glob} {ι : Io} {Y : Addr → Prop} {H : Hp} {J : It} {items : List Wv} (w : WalkOk K ι Y H J items) :
    ∃ (Gd : Hp → Prop) (Yy : Nat → Hp → V → Hp → Prop), Walk J items.length Gd Yy ∧ (∀ ι' H', Evo ι H ι' H' → Gd H') ∧
      ∀ (Y2 : Addr → Prop), (Y2 = Y ∨ ∃ D, H D = none ∧ Y2 = plus Y D) → ∀ (ι' : Io) (H' : Hp) (S' : Sto) (i : Nat) (x : V) (H'' : Hp), i < items.length → Evo ι H ι' H' → Rel K G ι' Y2 S' H' → Yy i H' x H'' →
        ∃ w, items[i]? = some w ∧ Evo ι' H' ι' H'' ∧ Rel K G ι' Y2 S' H'' ∧ RepV K H'' ι' Y2 w x := by
  have up : ∀ {ws : List Wv} {vs : List V} {Y2 : Addr → Prop} {ι' : Io} {H' : Hp}, RepL K H ι Y ws vs → (Y2 = Y ∨ ∃ D, H D = none ∧ Y2 = plus Y D) → Evo ι H ι' H' → RepL K H' ι' Y2 ws vs := fun l hY ev => by
    rcases hY with rfl | ⟨D, hD, rfl⟩
    · exact l.evo ev
    · exact (l.plus hD).evo ev
  rcases w with ⟨xs, Gd, wk, l, hG⟩ | ⟨as, bs, xs, ys, Gd, wk, la, lb, hl, rfl, hG⟩
  · refine ⟨Gd, YAt xs, by rw [l.length]; exact wk, hG, ?_⟩
    rintro Y2 hY ι' H' S' i x H'' hi ev R ⟨rfl, hx⟩
    obtain ⟨w, h1, h2⟩ := (up l hY ev).getV hx
    exact ⟨w, h1, Evo.refl _ _, R, h2⟩
  · refine ⟨Gd, YPair (fun i => xs[i]?) (fun i => ys[i]?), by rw [pairL_len hl, la.length]; exact wk, hG, ?_⟩
    rintro Y2 hY ι' H' S' i v H'' hi ev R ⟨Ta, x, y, rfl, hT, rfl, hx, hy⟩
    obtain ⟨w, h1, h2⟩ := (up la hY ev).getV hx
    obtain ⟨w', h3, h4⟩ := (up lb hY ev).getV hy
    have E := evo_new ι' (o := HO.tup [x, y]) hT
    exact ⟨_, pairL_at h1 h3, E, R.newHp hT, .tup (.inl upd_same) (R.fresh hT) (.cons (h2.evo E) (.cons (h4.evo E) .nil))⟩
def PostI (K : PySem.W.Frag) (G : Glob) (Y : Addr → Prop) (ι : Io) (H : Hp) (r : Res) (R : It → Hp → Prop) (E : XK) : Prop := match r with
  | .ok (.lst items) S => ∀ ι' H' J, Evo ι H ι' H' → Rel K G ι' Y S H' → WalkOk K ι' Y H' J items → R J H'
  | .exc c S => ∃ C, G.cls c = some C ∧ ∀ ι' H', Evo ι H ι' H' → Rel K G ι' Y S H' → E (.ref C) none H'
  | _ => False
def tI (K : PySem.W.Frag) (G : Glob) (f : Sl → Sto → Res) (W : WX) : TI := fun σ H R => ∃ ι Y S σd, Rel K G ι Y S H ∧ RepS K H ι Y σd σ ∧ PostI K G Y ι H (f σd S) R (L2.WE W σ)
theorem itK_len {x : Wv} {S S' : Sto} {items : List Wv} (e : itK x S = .ok (.lst items) S') : items.length ≤ sizeLine := by
  have key : ∀ {xs : List Wv}, (match (if xs.length ≤ sizeLine then some xs else none) with | some items => Res.ok (.lst items) S | none => .bad) = .ok (.lst items) S' → items.length ≤ sizeLine := fun {xs} e => by
    by_cases h : xs.length ≤ sizeLine
    · rw [if_pos h] at e; cases e; exact h
    · rw [if_neg h] at e; cases e
  cases x with
  | lst xs => exact key e
  | tup xs => exact key e
  | _ => cases e
section
variable {X : Cx} {tg : Expr}
def iSeq (K : PySem.W.Frag) (tl : TE) : TI := fun σ H R => tl σ H fun x H1 => ∃ a, x = .ref a ∧ (((∃ xs, SqL K H1 a xs) ∧ R (Itl K a) H1) ∨ ((∃ xs, SqT K H1 a xs) ∧ R (Itt K a) H1))
theorem pi_seq {l : Expr} {tl : TE} (hl : PE X l tl) : PI X tg l (iSeq X.K tl) := by
  refine ⟨fun pins s σ H R I h => ?_⟩
  refine thn (hl.run pins s σ H _ I h) fun v s1 ⟨x, H1, I1, r1, q1⟩ => ?_
  obtain ⟨a, e, q⟩ := q1
  subst e
  cases r1
  rcases q with ⟨⟨xs, hq⟩, q⟩ | ⟨⟨xs, hq⟩, q⟩
  · obtain ⟨its, rv, p, hz⟩ := I1.list hq
    refine wpAny_pyIter_list p.isList ?_
    refine ⟨s1.heap.objs.size, [s1.heap.objs.size], _, _, H1, rfl, I1.kept (t' := s1.toks) fun b o e => Heap.get?_push_of_some _ e, turn_list a _, ⟨_, Heap.get?_push_size _ rfl, rfl, rfl⟩, fun b hb => ?_, q⟩
    have e : b = s1.heap.objs.size := by simpa using hb
    subst e
    exact I1.fpOk (Nat.le_refl _) (I1.hok.fresh (Nat.le_refl _))
  · obtain ⟨its, rv, p, hz⟩ := I1.tuple hq
    refine wpAny_pyIter_tuple (show s1.heap.IsTuple a its.toArray from p) ?_
    refine ⟨s1.heap.objs.size, [s1.heap.objs.size], _, _, H1, rfl, I1.kept (t' := s1.toks) fun b o e => Heap.get?_push_of_some _ e, turn_tuple a _, ⟨_, Heap.get?_push_size _ rfl, rfl, rfl⟩, fun b hb => ?_, q⟩
    have e : b = s1.heap.objs.size := by simpa using hb
    subst e
    exact I1.fpOk (Nat.le_refl _) (I1.hok.fresh (Nat.le_refl _))
variable {G : Glob} {W : WX} {f : Sl → Sto → Res}
theorem i_seq {l : Expr} (hl : PE X l (tE X.K G f W)) : PI X tg l (tI X.K G (fun σ S => (f σ S).bind itK) W) := by
  refine (pi_seq hl).imp fun σ H R q => ?_
  obtain ⟨ι, Y, S, σd, Rl, rs, p⟩ := q
  refine ⟨ι, Y, S, σd, Rl, rs, ?_⟩
  have p : PostI X.K G Y ι H ((f σd S).bind itK) R (L2.WE W σ) := p
  cases e : f σd S with
  | exc c S1 => rw [e] at p; exact p
  | bad => rw [e] at p; exact p.elim
  | ok x S1 =>
    rw [e, bind_ok] at p
    intro ι1 H1 v e1 R1 r1
    cases x with
    | lst xs =>
      by_cases hz : xs.length ≤ sizeLine
      · simp only [itK, itW, if_pos hz] at p
        cases r1 with
        | lst h fr l =>
          refine ⟨_, rfl, .inl ⟨⟨_, SqL.of h⟩, p ι1 H1 _ e1 R1 (.inl ⟨_, _, walk_list, l, fun ι2 H2 e2 => SqL.of (e2.keep _ _ h fr.2 (fun _ z => by cases z))⟩)⟩⟩
      · simp only [itK, itW, if_neg hz] at p
        exact p.elim
    | tup xs =>
      by_cases hz : xs.length ≤ sizeLine
      · simp only [itK, itW, if_pos hz] at p
        cases r1 with
        | tup h fr l => exact ⟨_, rfl, .inr ⟨⟨_, .inl h⟩, p ι1 H1 _ e1 R1 (.inl ⟨_, _, walk_tup, l, fun ι2 H2 e2 => .inl (h.evo fr e2 (fun _ z => by cases z))⟩)⟩⟩
        | ktup h l => exact ⟨_, rfl, .inr ⟨⟨_, .inr h⟩, p ι1 H1 _ e1 R1 (.inl ⟨_, _, walk_tup, l, fun ι2 H2 e2 => .inr h⟩)⟩⟩
      · simp only [itK, itW, if_neg hz] at p
        exact p.elim
    | _ => exact p.elim
theorem walk_rng (lo : Int) (n : Nat) : Walk (Itr lo n) ((List.range n).map fun i => V.int (lo + (i : Nat))).length (fun _ => True) (YAt ((List.range n).map fun i => V.int (lo + (i : Nat)))) := by
  rw [List.length_map, List.length_range]
  refine walk_range.mono (fun _ h => h) fun i H x H' hi _ y => ⟨y.1, ?_⟩
  rw [y.2, List.getElem?_map, List.getElem?_range hi]
  rfl
theorem rep_rng {K : PySem.W.Frag} {H : Hp} {ι : Io} {Y : Addr → Prop} (g : Nat → Int) : ∀ l : List Nat, RepL K H ι Y (l.map fun i => Wv.int (g i)) (l.map fun i => V.int (g i))
  | [] => .nil
  | i :: l => .cons (.int _) (rep_rng g l)
theorem rng_step {K : PySem.W.Frag} {n : Nat} {lo : Int} {ι1 : Io} {Y : Addr → Prop} {S1 : Sto} {H1 : Hp} {R : It → Hp → Prop} {E : XK} (R1 : Rel K G ι1 Y S1 H1) (p : PostI K G Y ι1 H1 (itK (.lst ((List.range n).map fun i => .int (lo + (i : Nat)))) S1) R E) : R (Itr lo n) H1 := by
  by_cases hz : ((List.range n).map fun i => Wv.int (lo + (i : Nat))).length ≤ sizeLine
  · simp only [itK, itW, if_pos hz] at p
    exact p ι1 H1 _ (Evo.refl _ _) R1 (.inl ⟨_, _, walk_rng lo n, rep_rng (fun i => lo + (i : Nat)) _, fun _ _ _ => trivial⟩)
  · simp only [itK, itW, if_neg hz] at p
    exact p.elim
theorem PostI.evo {K : PySem.W.Frag} {Y : Addr → Prop} {ι ι' : Io} {H H' : Hp} {r : Res} {R : It → Hp → Prop} {E : XK} (h : PostI K G Y ι H r R E) (e : Evo ι H ι' H') : PostI K G Y ι' H' r R E := by
  cases r with
  | ok w S =>
    cases w with
    | lst items => exact fun ι2 H2 J e2 R w => h ι2 H2 J (e.trans e2) R w
    | _ => exact h
  | exc c S =>
    obtain ⟨C, hc, h⟩ := h
    exact ⟨C, hc, fun ι2 H2 e2 R => h ι2 H2 (e.trans e2) R⟩
  | bad => exact h
theorem PostI.bind {K : PySem.W.Frag} {Y : Addr → Prop} {ι : Io} {H : Hp} {r : Res} {k : Wv → Sto → Res} {R : It → Hp → Prop} {E : XK} (h : PostI K G Y ι H ((r.bind k).bind itK) R E) :
    Post K G Y ι H r (fun v H' => ∃ ι' w S', Evo ι H ι' H' ∧ Rel K G ι' Y S' H' ∧ RepV K H' ι' Y w v ∧ PostI K G Y ι' H' ((k w S').bind itK) R E) E := by
  cases r with
  | ok w S => exact fun ι' H' v e R r => ⟨ι', w, S, e, R, r, PostI.evo h e⟩
  | exc c S => exact h
  | bad => exact h
variable {T : GT} {cl : Clr} {lv : Nat} {N : List Str} {sc : List (Str × NameKind)} {fn : Str → Bool} {kd : Kd} {a b : Expr} {g : Sl → Sto → Res} {p pos : Pos}
theorem i_rng1 (C : XOk X G T cl lv N sc fn kd W) (hx : isGl sc "range" = true) (hb : T.bis.contains "range" = true) (hs : noStar a = true) (ha : PE X a (tE X.K G f W)) :
    PI X tg (.Call (.Name "range" p) [a] [] pos) (tI X.K G (fun σ S => ((f σ S).bind rng1W).bind itK) W) := by
  obtain ⟨gl, d, nn⟩ := C.gl hx
  have s1 := starEach_cons (es := []) (env := X.env) hs
  refine (pi_range1 gl (C.g.bis _ hb) (pa_cons ha pa_nil s1) s1).imp fun σ H R q => ?_
  obtain ⟨ι, Y, S, σd, Rl, rs, p⟩ := q
  refine ⟨ι, Y, S, σd, Rl, rs, p.bind.mono ?_ idE⟩
  rintro v H' ⟨ι1, w, S1, e, R1, r1, p1⟩
  cases w with
  | int j =>
    cases r1.int_eq
    by_cases hz : -(2 ^ 62) ≤ j ∧ j < 2 ^ 62
    · simp only [rng1W, if_pos hz, bind_ok] at p1
      exact ⟨j, rfl, hz.1, hz.2, rng_step R1 p1⟩
    · simp only [rng1W, if_neg hz] at p1
      exact p1.elim
  | _ => exact p1.elim
theorem i_rng2 (C : XOk X G T cl lv N sc fn kd W) (hx : isGl sc "range" = true) (hb : T.bis.contains "range" = true) (hs : noStar a = true) (hs' : noStar b = true) (ha : PE X a (tE X.K G f W)) (hb' : PE X b (tE X.K G g W)) :
    PI X tg (.Call (.Name "range" p) [a, b] [] pos) (tI X.K G (fun σ S => ((f σ S).bind fun x S => (g σ S).bind fun y S => rng2W x y S).bind itK) W) := by
  obtain ⟨gl, d, nn⟩ := C.gl hx
  have s1 := starEach_cons (es := []) (env := X.env) hs'
  have s2 := starEach_cons (es := [b]) (env := X.env) hs
  refine (pi_range2 gl (C.g.bis _ hb) (pa_cons ha (pa_cons hb' pa_nil s1) s2) (by rw [s2, s1]; rfl) s1).imp fun σ H R q => ?_
  obtain ⟨ι, Y, S, σd, Rl, rs, p⟩ := q
  refine ⟨ι, Y, S, σd, Rl, rs, p.bind.mono ?_ idE⟩
  rintro v H' ⟨ι1, w, S1, e, R1, r1, p1⟩
  refine ⟨ι1, Y, S1, σd, R1, rs.evo e, p1.bind.mono ?_ idE⟩
  rintro u H2 ⟨ι2, w2, S2, e2, R2, r2, p2⟩
  cases w <;> first | exact p2.elim | skip
  cases w2 <;> first | exact p2.elim | skip
  rename_i i j
  cases r1.int_eq
  cases r2.int_eq
  by_cases hz : -(2 ^ 62) ≤ i ∧ i < 2 ^ 62 ∧ -(2 ^ 62) ≤ j ∧ j < 2 ^ 62
  · simp only [rng2W, if_pos hz, bind_ok] at p2
    exact ⟨i, j, rfl, hz, rng_step R2 p2⟩
  · simp only [rng2W, if_neg hz] at p2
    exact p2.elim
end

section
variable {X : Cx} {tg : Expr} {G : Glob} {W : WX} {f g h : Sl → Sto → Res} {T : GT} {cl : Clr} {lv : Nat} {N : List Str} {sc : List (Str × NameKind)} {fn : Str → Bool} {kd : Kd} {a b c : Expr} {p pos : Pos}
theorem i_rng3 (C : XOk X G T cl lv N sc fn kd W) (hx : isGl sc "range" = true) (hb : T.bis.contains "range" = true) (hs : noStar a = true) (hs' : noStar b = true) (hs'' : noStar c = true) (ha : PE X a (tE X.K G f W)) (hb' : PE X b (tE X.K G g W)) (hc' : PE X c (tE X.K G h W)) :
    PI X tg (.Call (.Name "range" p) [a, b, c] [] pos) (tI X.K G (fun σ S => ((f σ S).bind fun x S => (g σ S).bind fun y S => (h σ S).bind fun z S => rng3W x y z S).bind itK) W) := by
  obtain ⟨gl, d, nn⟩ := C.gl hx
  have s1 := starEach_cons (es := []) (env := X.env) hs''
  have s2 := starEach_cons (es := [c]) (env := X.env) hs'
  have s3 := starEach_cons (es := [b, c]) (env := X.env) hs
  refine (pi_range3 gl (C.g.bis _ hb) (pa_cons ha (pa_cons hb' (pa_cons hc' pa_nil s1) s2) s3) s3 (by rw [s2, s1]; rfl)).imp fun σ H R q => ?_
  obtain ⟨ι, Y, S, σd, Rl, rs, p⟩ := q
  refine ⟨ι, Y, S, σd, Rl, rs, p.bind.mono ?_ idE⟩
  rintro v H' ⟨ι1, w, S1, e, R1, r1, p1⟩
  refine ⟨ι1, Y, S1, σd, R1, rs.evo e, p1.bind.mono ?_ idE⟩
  rintro u H2 ⟨ι2, w2, S2, e2, R2, r2, p2⟩
  refine ⟨ι2, Y, S2, σd, R2, (rs.evo e).evo e2, p2.bind.mono ?_ idE⟩
  rintro t H3 ⟨ι3, w3, S3, e3, R3, r3, p3⟩
  cases w <;> first | exact p3.elim | skip
  cases w2 <;> first | exact p3.elim | skip
  cases w3 <;> first | exact p3.elim | skip
  rename_i i j k
  cases r1.int_eq
  cases r2.int_eq
  cases r3.int_eq
  by_cases hz : k ≠ 0 ∧ k.natAbs < 1073741824 ∧ Builtin.Range.small i j k = true ∧ 0 ≤ Builtin.Range.rangeSize i j k
  · simp only [rng3W, if_pos hz, bind_ok] at p3
    have hn : Builtin.Range.rangeSize i j k = ((Builtin.Range.rangeSize i j k).toNat : Int) := (Int.toNat_of_nonneg hz.2.2.2).symm
    refine ⟨i, j, k, (Builtin.Range.rangeSize i j k).toNat, rfl, ⟨hz.1, hz.2.1, hz.2.2.1, hn⟩, ?_⟩
    generalize (Builtin.Range.rangeSize i j k).toNat = n at p3
    by_cases hz2 : ((List.range n).map fun m => Wv.int (i + (m : Nat) * k)).length ≤ sizeLine
    · simp only [itK, itW, if_pos hz2] at p3
      refine p3 ι3 H3 _ (Evo.refl _ _) R3 (.inl ⟨(List.range n).map fun m => V.int (i + (m : Nat) * k), _, ?_, rep_rng (fun m => i + (m : Nat) * k) _, fun _ _ _ => trivial⟩)
      rw [List.length_map, List.length_range]
      refine walk_rangeC.mono (fun _ h => h) fun m H x H' hi _ y => ⟨y.1, ?_⟩
      rw [y.2, List.getElem?_map, List.getElem?_range hi]
      rfl
    · simp only [itK, itW, if_neg hz2] at p3
      exact p3.elim
  · simp only [rng3W, if_neg hz] at p3
    exact p3.elim
theorem enumL_pair : ∀ (xs : List Wv) (n : Nat), enumL xs n = pairL ((List.range xs.length).map fun i => Wv.int ((n + i : Nat) : Int)) xs
  | [], n => rfl
  | x :: xs, n => by
    have e : (List.range (x :: xs).length).map (fun i => Wv.int ((n + i : Nat) : Int)) = Wv.int (n : Int) :: (List.range xs.length).map (fun i => Wv.int ((n + 1 + i : Nat) : Int)) := by
      rw [List.length_cons, List.range_succ_eq_map, List.map_cons, List.map_map]
      congr 1
      refine List.map_congr_left fun i _ => ?_
      show Wv.int ((n + (i + 1) : Nat) : Int) = _
      congr 2
      omega
    rw [e]
    show .tup [.int n, x] :: enumL xs (n + 1) = .tup [.int n, x] :: pairL _ xs
    rw [enumL_pair xs (n + 1)]
theorem i_enum (C : XOk X G T cl lv N sc fn kd W) {elts : List Expr} {kk : Nat} {tpos : Pos} (hx : isGl sc "enumerate" = true) (hb : T.bis.contains "enumerate" = true) (hs : noStar a = true) (ha : PE X a (tE X.K G f W)) :
    PI X (.Tuple elts kk tpos) (.Call (.Name "enumerate" p) [a] [] pos) (tI X.K G (fun σ S => ((f σ S).bind enumW).bind itK) W) := by
  obtain ⟨gl, d, nn⟩ := C.gl hx
  have s1 := starEach_cons (es := []) (env := X.env) hs
  refine (Mz.pi_enumA gl (C.g.bis _ hb) (pa_cons ha pa_nil s1) s1).imp fun σ H R q => ?_
  obtain ⟨ι, Y, S, σd, Rl, rs, p⟩ := q
  refine ⟨ι, Y, S, σd, Rl, rs, p.bind.mono ?_ idE⟩
  rintro v H' ⟨ι1, w, S1, e, R1, r1, p1⟩
  have key : ∀ (xs : List Wv) (vs : List V) (J : It) (Gd : Hp → Prop), (∀ S, enumW w S = .ok (.lst (enumL xs 0)) S) → RepL X.K H' ι1 Y xs vs → Walk J vs.length Gd (YPair (fun i => some (.int (i : Nat))) (fun i => vs[i]?)) → (∀ ι' H2, Evo ι1 H' ι' H2 → Gd H2) → R J H' := by
    intro xs vs J Gd he l wk hG
    rw [he, bind_ok] at p1
    by_cases hz : (enumL xs 0).length ≤ sizeLine
    · simp only [itK, itW, if_pos hz] at p1
      have ll : ((List.range xs.length).map fun i => Wv.int ((0 + i : Nat) : Int)).length = xs.length := by rw [List.length_map, List.length_range]
      refine p1 ι1 H' _ (Evo.refl _ _) R1 (.inr ⟨_, xs, (List.range xs.length).map fun i => V.int ((0 + i : Nat) : Int), vs, Gd, ?_, rep_rng (fun i => ((0 + i : Nat) : Int)) _, l, ll, enumL_pair xs 0, hG⟩)
      rw [List.length_map, List.length_range, l.length]
      refine wk.mono (fun _ h => h) fun i H x H2 hi _ ⟨Ta, y, z, h1, h2, h3, h4, h5⟩ => ⟨Ta, y, z, h1, h2, h3, ?_, h5⟩
      cases h4
      show ((List.range vs.length).map fun i => V.int ((0 + i : Nat) : Int))[i]? = some (V.int (i : Nat))
      rw [List.getElem?_map, List.getElem?_range hi]
      show some (V.int ((0 + i : Nat) : Int)) = _
      rw [Nat.zero_add]
    · simp only [itK, itW, if_neg hz] at p1
      exact p1.elim
  cases w with
  | lst xs =>
    cases r1 with
    | lst h fr l => exact ⟨_, _, rfl, .inl ⟨SqL.of h, key xs _ _ _ (fun _ => rfl) l walk_enum fun ι2 H2 e2 => SqL.of (e2.keep _ _ h fr.2 (fun _ z => by cases z))⟩⟩
  | tup xs =>
    cases r1 with
    | @tup q _ us h fr l => exact ⟨_, _, rfl, .inr ⟨.inl h, key xs us _ _ (fun _ => rfl) l Mz.walk_enumG fun ι2 H2 e2 => .inl (h.evo fr e2 (fun _ z => by cases z))⟩⟩
    | @ktup q _ us h l => exact ⟨_, _, rfl, .inr ⟨.inr h, key xs us _ _ (fun _ => rfl) l Mz.walk_enumG fun ι2 H2 e2 => .inr h⟩⟩
  | _ => exact p1.elim
end
/-! ### targets -/
mutual
def tgT (K : PySem.W.Frag) : Tg → TG
  | .nm i => gName i
  | .tup ts => gTup K (tgLen ts) (tgTs K ts)
  | _ => fun _ _ _ _ => False
def tgTs (K : PySem.W.Frag) : Tg → TGs
  | .nil => gNil
  | .cons t ts => gCons (tgT K t) (tgTs K ts)
  | _ => fun _ _ _ _ => False
def tgLen : Tg → Nat
  | .cons _ ts => tgLen ts + 1
  | _ => 0
end
def inOwn (vs : List Nat) : Tg → Bool
  | .nm i => vs.contains i
  | .tup ts => inOwn vs ts
  | .nil => true
  | .cons t ts => inOwn vs t && inOwn vs ts
def Agree (vs : List Nat) (σ σ2 : L2.St) : Prop := σ2.length = σ.length ∧ ∀ i, i ∉ vs → σ2[i]? = σ[i]?
theorem Agree.refl (vs : List Nat) (σ : L2.St) : Agree vs σ σ := ⟨rfl, fun _ _ => rfl⟩
theorem Agree.trans {vs : List Nat} {σ σ1 σ2 : L2.St} (a : Agree vs σ σ1) (b : Agree vs σ1 σ2) : Agree vs σ σ2 := ⟨b.1.trans a.1, fun i h => (b.2 i h).trans (a.2 i h)⟩
section
variable {K : PySem.W.Frag} {ι : Io} {Y : Addr → Prop} {H : Hp}
mutual
theorem asgG (vs : List Nat) : ∀ (g : Tg) (w : Wv) (v : V) (σd σd' : Sl) (σ : L2.St) (Q : L2.St → Hp → Prop), inOwn vs g = true → asg g w σd = some σd' → RepV K H ι Y w v → RepS K H ι Y σd σ →
    (∀ σ2, RepS K H ι Y σd' σ2 → Agree vs σ σ2 → Q σ2 H) → tgT K g v σ H Q
  | .nm i, w, v, σd, σd', σ, Q, hi, e, r, rs, k => by
    have e : some (σd.set i (some w)) = some σd' := e
    cases e
    refine k _ (rs.set i r) ⟨by simp, fun j hj => ?_⟩
    have hi : vs.contains i = true := hi
    rw [List.getElem?_set_ne]
    intro z
    subst z
    exact hj (by simpa using hi)
  | .tup ts, w, v, σd, σd', σ, Q, hi, e, r, rs, k => by
    cases w with
    | tup ws =>
      have e : asgs ts ws σd = some σd' := e
      obtain ⟨p, rfl, us, hs, l⟩ := r.tup_ref
      refine ⟨p, us, rfl, hs, ?_, asgGs vs ts ws us σd σd' σ Q hi e l rs k⟩
      rw [← l.length]
      exact asgs_len ts ws σd σd' e
    | _ => cases e
  | .nil, w, v, σd, σd', σ, Q, hi, e, r, rs, k => by cases w <;> cases e
  | .cons t ts, w, v, σd, σd', σ, Q, hi, e, r, rs, k => by cases w <;> cases e
theorem asgGs (vs : List Nat) : ∀ (g : Tg) (ws : List Wv) (us : List V) (σd σd' : Sl) (σ : L2.St) (Q : L2.St → Hp → Prop), inOwn vs g = true → asgs g ws σd = some σd' → RepL K H ι Y ws us → RepS K H ι Y σd σ →
    (∀ σ2, RepS K H ι Y σd' σ2 → Agree vs σ σ2 → Q σ2 H) → tgTs K g us σ H Q
  | .nil, ws, us, σd, σd', σ, Q, hi, e, r, rs, k => by
    cases ws with
    | nil =>
      cases r
      have e : some σd = some σd' := e
      cases e
      exact ⟨rfl, k σ rs (Agree.refl _ _)⟩
    | cons _ _ => cases e
  | .cons t ts, ws, us, σd, σd', σ, Q, hi, e, r, rs, k => by
    cases ws with
    | nil => cases e
    | cons w ws =>
      cases r with
      | cons r1 r2 =>
        have e : ((asg t w σd).bind fun σ' => asgs ts ws σ') = some σd' := e
        have hi : (inOwn vs t && inOwn vs ts) = true := hi
        rw [Bool.and_eq_true] at hi
        cases e1 : asg t w σd with
        | none => rw [e1] at e; cases e
        | some σ1 =>
          rw [e1] at e
          refine ⟨_, _, rfl, asgG vs t w _ σd σ1 σ _ hi.1 e1 r1 rs fun σ2 rs2 ag => ?_⟩
          exact asgGs vs ts ws _ σ1 σd' σ2 Q hi.2 e r2 rs2 fun σ3 rs3 ag2 => k σ3 rs3 (ag.trans ag2)
  | .nm i, ws, us, σd, σd', σ, Q, hi, e, r, rs, k => by cases ws <;> cases e
  | .tup ts, ws, us, σd, σd', σ, Q, hi, e, r, rs, k => by cases ws <;> cases e
theorem asgs_len : ∀ (g : Tg) (ws : List Wv) (σd σd' : Sl), asgs g ws σd = some σd' → ws.length = tgLen g
  | .nil, ws, σd, σd', e => by
    cases ws with
    | nil => rfl
    | cons _ _ => cases e
  | .cons t ts, ws, σd, σd', e => by
    cases ws with
    | nil => cases e
    | cons w ws =>
      have e : ((asg t w σd).bind fun σ' => asgs ts ws σ') = some σd' := e
      cases e1 : asg t w σd with
      | none => rw [e1] at e; cases e
      | some σ1 =>
        rw [e1] at e
        show ws.length + 1 = tgLen ts + 1
        rw [asgs_len ts ws σ1 σd' e]
  | .nm i, ws, σd, σd', e => by cases ws <;> cases e
  | .tup ts, ws, σd, σd', e => by cases ws <;> cases e
end
end
end Dy

end
section
set_option Elab.async false
set_option linter.all false
set_option maxRecDepth 100000
set_option maxHeartbeats 400000
/-! Dy, part G: comprehensions. -/
namespace Dy
open PySem PySem.Spec PyProof.Rows L2

/-! ### slots forgotten -/
theorem wipe_get (σ : L2.St) : ∀ (vs : List Nat) (i : Nat), (wipe σ vs)[i]? = if i ∈ vs then σ[i]?.map (fun _ => none) else σ[i]?
  | [], i => by simp [wipe]
  | v :: vs, i => by
    unfold wipe
    have ih := wipe_get σ vs i
    by_cases e : v = i
    · subst e
      rw [List.getElem?_set, if_pos rfl, wipe_length, if_pos List.mem_cons_self]
      by_cases h : v < σ.length
      · rw [if_pos h, List.getElem?_eq_getElem h]; rfl
      · rw [if_neg h, List.getElem?_eq_none (Nat.le_of_not_lt h)]; rfl
    · rw [List.getElem?_set_ne e, ih]
      have : i ∈ v :: vs ↔ i ∈ vs := by
        rw [List.mem_cons]
        exact ⟨fun h => h.elim (fun z => absurd z.symm e) id, .inr⟩
      by_cases h : i ∈ vs
      · rw [if_pos h, if_pos (this.mpr h)]
      · rw [if_neg h, if_neg (fun z => h (this.mp z))]
theorem wipe_agree {vs : List Nat} {σ σ2 : L2.St} (a : Agree vs (wipe σ vs) σ2) : wipe σ2 vs = wipe σ vs := by
  refine List.ext_getElem? fun i => ?_
  have hl : σ2.length = σ.length := by rw [a.1, wipe_length]
  rw [wipe_get, wipe_get]
  by_cases h : i ∈ vs
  · rw [if_pos h, if_pos h]
    by_cases hi : i < σ.length
    · rw [List.getElem?_eq_getElem hi, List.getElem?_eq_getElem (by omega)]; rfl
    · rw [List.getElem?_eq_none (Nat.le_of_not_lt hi), List.getElem?_eq_none (by omega)]
  · rw [if_neg h, if_neg h, a.2 i h, wipe_get, if_neg h]
theorem RepS.wipe {K : PySem.W.Frag} {H : Hp} {ι : Io} {Y : Addr → Prop} {σd : Sl} {σ : L2.St} (r : RepS K H ι Y σd σ) : ∀ vs : List Nat, RepS K H ι Y (wipeW σd vs) (L2.wipe σ vs)
  | [] => r
  | v :: vs => by
    have ih := RepS.wipe r vs
    refine ⟨by show (List.set _ _ _).length = (List.set _ _ _).length; rw [List.length_set, List.length_set]; exact ih.1, fun i w e => ?_⟩
    have e : ((wipeW σd vs).set v none)[i]? = some (some w) := e
    show ∃ u, ((L2.wipe σ vs).set v none)[i]? = some (some u) ∧ _
    by_cases h : v = i
    · subst h
      rw [List.getElem?_set, if_pos rfl] at e
      split at e <;> cases e
    · rw [List.getElem?_set_ne h] at e ⊢
      exact ih.2 i w e
theorem evo_D {ι ι' : Io} {H H' : Hp} {D : Addr} {o : HO} (e : Evo ι H ι' H') (n : H D = none) : Evo ι H ι' (upd H' D o) where
  keep := fun a u h ni nt => by rw [upd_ne (ne_of_none h n)]; exact e.keep a u h ni nt
  ext := e.ext
  new := e.new
  stay := fun a h => by
    rw [upd_ne (fun z : a = D => h (z ▸ n))]; exact e.stay a h

/-! ### the block's context -/
def relN (sc names : List (Str × NameKind)) : List (Str × NameKind) := names.map fun (n, k) => if (k == .free && sc.lookup n == some .cell) then (n, .cell) else (n, k)
def blkN (N : List Str) (sc : List (Str × NameKind)) (scope : Scope) (own : List (Str × Nat)) : Bool := blkC N { kind := .function, names := sc, isGenerator := false, isCoroutine := false } scope own
def blkF (scope : Scope) : Str → Bool := fun x => scope.names.lookup x == some .cell
section
variable {X : Cx} {G : Glob} {T : GT} {cl : Clr} {lv : Nat} {N : List Str} {sc : List (Str × NameKind)} {fn : Str → Bool} {kd : Kd} {W : WX} {scope : Scope} {own : List (Str × Nat)}
theorem XOk.blkOk (C : XOk X G T cl lv N sc fn kd W) (h : blkN N sc scope own = true) : BlkOk X.N X.env.scope scope own := by
  refine blkOk_by ?_
  rw [C.hN]
  unfold blkN blkC at h
  unfold blkC
  rw [C.sc]
  exact h
theorem XOk.blk (C : XOk X G T cl lv N sc fn kd W) (h : blkN N sc scope own = true) (s : Shared) (H : Hp) (Cc : Addr) (cl' : List (Str × Addr)) (fp : List Addr) :
    XOk (X.blk s H scope (compEnvC scope cl' Cc X.env) fp) G T cl lv N (relN sc scope.names) (blkF scope) kd (fun _ _ _ _ => False) where
  g := C.g
  hN := C.hN
  nd := C.nd
  kind := (C.blkOk h).kind
  sc := by
    show scope.names.map (fun p => if (p.2 == .free && X.env.scope.kind == .function && X.env.scope.names.lookup p.1 == some .cell) = true then (p.1, NameKind.cell) else (p.1, p.2)) = relN sc scope.names
    rw [C.kind, C.sc]
    unfold relN
    refine List.map_congr_left fun p _ => ?_
    obtain ⟨n, k⟩ := p
    simp
  fn := rfl
  calm := C.calm
  room := C.room
  tk := LamX.takes0
  kd := C.kd

/-! ### the reading of a clause's tests -/
def TtOk (X : Cx) (G : Glob) (tt : TT) (fc : Sl → Sto → Res) : Prop := ∀ (σ : L2.St) (H : Hp) (Q : Bool → Hp → Prop) (ι : Io) (Y : Addr → Prop) (S : Sto) (σd : Sl) (t : Bool) (S' : Sto), Rel X.K G ι Y S H → RepS X.K H ι Y σd σ → fc σd S = .ok (.bl t) S' →
  (∀ ι' H', Evo ι H ι' H' → Rel X.K G ι' Y S' H' → Q t H') → tt σ H Q
theorem tt_yes : TtOk X G tYes (fun _ S => .ok (.bl true) S) := fun σ H Q ι Y S σd t S' R rs e k => by
  cases e
  exact k ι H (Evo.refl _ _) R
theorem tt_one {fc : Sl → Sto → Res} : TtOk X G (tT X.K G fc W) fc := fun σ H Q ι Y S σd t S' R rs e k => by
  refine ⟨ι, Y, S, σd, R, rs, ?_⟩
  rw [e]
  intro ι' H' v ev R' r
  cases r.bl_eq
  exact ⟨t, rfl, k ι' H' ev R'⟩
def lcF (g : Tg) (fc fe : Sl → Sto → Res) (σw : Sl) : Wv → Sto → Res := fun x S => match asg g x σw with
  | some σ' => (fc σ' S).bind fun t S => iteK t ((fe σ' S).bind fun y S => .ok (.lst [y]) S) (.ok (.lst []) S)
  | none => .bad
/-- one turn of a comprehension that comes to an end -/
theorem lcF_ok {g : Tg} {fc fe : Sl → Sto → Res} {σw : Sl} {x : Wv} {S S' : Sto} {ys : List Wv} (e : lcF g fc fe σw x S = .ok (.lst ys) S') :
    ∃ σ' S1, asg g x σw = some σ' ∧ ((∃ y, fc σ' S = .ok (.bl true) S1 ∧ fe σ' S1 = .ok y S' ∧ ys = [y]) ∨ (fc σ' S = .ok (.bl false) S1 ∧ S' = S1 ∧ ys = [])) := by
  unfold lcF at e
  cases ha : asg g x σw with
  | none => rw [ha] at e; cases e
  | some σ' =>
    simp only [ha] at e
    refine ⟨σ', ?_⟩
    cases hc : fc σ' S with
    | exc c S1 => simp only [hc, bind_exc] at e; cases e
    | bad => simp only [hc, bind_bad] at e; cases e
    | ok t S1 =>
      simp only [hc, bind_ok] at e
      refine ⟨S1, rfl, ?_⟩
      cases t with
      | bl b =>
        cases b with
        | true =>
          have e : ((fe σ' S1).bind fun y S => .ok (.lst [y]) S) = .ok (.lst ys) S' := e
          cases he : fe σ' S1 with
          | exc c S2 => simp only [he, bind_exc] at e; cases e
          | bad => simp only [he, bind_bad] at e; cases e
          | ok y S2 =>
            simp only [he, bind_ok] at e
            cases e
            exact .inl ⟨y, rfl, rfl, rfl⟩
        | false =>
          have e : Res.ok (.lst []) S1 = .ok (.lst ys) S' := e
          cases e
          exact .inr ⟨rfl, rfl, rfl⟩
      | _ => cases e
theorem lcLoop_cons {F : Wv → Sto → Res} {x : Wv} {xs acc : List Wv} {S : Sto} {K : PySem.W.Frag} {Y : Addr → Prop} {ι : Io} {H : Hp} {Q : VK} {E : XK} (p : PostN K G Y ι H (lcLoop F (x :: xs) acc S) Q E) :
    ∃ ys S', F x S = .ok (.lst ys) S' ∧ PostN K G Y ι H (lcLoop F xs (acc ++ ys) S') Q E := by
  have p : PostN K G Y ι H (match F x S with | .ok (.lst ys) S' => lcLoop F xs (acc ++ ys) S' | _ => .bad) Q E := p
  cases e : F x S with
  | ok w S' =>
    cases w with
    | lst ys => rw [e] at p; exact ⟨ys, S', rfl, p⟩
    | _ => rw [e] at p; exact p.elim
  | exc c S' => rw [e] at p; exact p.elim
  | bad => rw [e] at p; exact p.elim
theorem plus_self {Y : Addr → Prop} {D : Addr} : plus Y D D := .inr rfl
/-- what stands at D, set aside, is kept by what goes on -/
theorem keepD {K : PySem.W.Frag} {ι ι' : Io} {Y : Addr → Prop} {S : Sto} {H H' : Hp} {D : Addr} {o : HO} (R : Rel K G ι (plus Y D) S H) (e : Evo ι H ι' H') (h : H D = some o) (n : ∀ ps, o ≠ .tbl ps) : H' D = some o :=
  e.keep D o h (fun i z => R.ny i D z plus_self) n
/-- the reading of a comprehension -/
theorem lcW {g : Tg} {vs : List Nat} {fi fc fe : Sl → Sto → Res} {tt : TT} {σ : L2.St} {H : Hp} {Q : VK} (hg : inOwn vs g = true) (ht : TtOk X G tt fc)
    (q : tN X.K G (fun σ S => (fi σ S).bind fun x S => match itW x with | some items => lcLoop (lcF g fc fe (wipeW σ vs)) items [] S | none => .bad) W σ H Q) :
    tLc (tI X.K G (fun σ S => (fi σ S).bind itK) W) (tgT X.K g) tt (tE X.K G fe (fun _ _ _ _ => False)) vs σ H Q := by
  obtain ⟨ι, Y, S, σd, R, rs, p⟩ := q
  refine ⟨ι, Y, S, σd, R, rs, ?_⟩
  show PostI X.K G Y ι H ((fi σd S).bind itK) _ _
  have p : PostN X.K G Y ι H ((fi σd S).bind fun x S => match itW x with | some items => lcLoop (lcF g fc fe (wipeW σd vs)) items [] S | none => .bad) Q (L2.WE W σ) := p
  cases e : fi σd S with
  | exc c S1 => rw [e] at p; exact p
  | bad => rw [e] at p; exact p.elim
  | ok x S1 =>
    rw [e] at p
    have p : PostN X.K G Y ι H (match itW x with | some items => lcLoop (lcF g fc fe (wipeW σd vs)) items [] S1 | none => .bad) Q (L2.WE W σ) := p
    show PostI X.K G Y ι H (itK x S1) _ _
    cases hi : itW x with
    | none => rw [hi] at p; exact p.elim
    | some items =>
      rw [hi] at p
      have ek : itK x S1 = .ok (.lst items) S1 := by unfold itK; rw [hi]
      have hz := itK_len ek
      rw [ek]
      intro ι1 H1 J e1 R1 w1
      obtain ⟨Gd, Yy, wk, hG, hT⟩ := w1.turn (G := G)
      intro D hD
      generalize hF : lcF g fc fe (wipeW σd vs) = F at p
      have p1 : PostN X.K G Y ι1 H1 (lcLoop F items [] S1) Q (L2.WE W σ) := PostN.evo p e1
      refine lc_it wk (fun i H' => ∃ (ι' : Io) (S' : Sto) (acc : List Wv) (accV : List V), Evo ι1 H1 ι' H' ∧ Rel X.K G ι' (plus Y D) S' H' ∧ H' D = some (.lst accV) ∧ RepL X.K H' ι' (plus Y D) acc accV ∧ acc.length ≤ i ∧ PostN X.K G Y ι1 H1 (lcLoop F (items.drop i) acc S') Q (L2.WE W σ)) ?_ ?_ ?_ ?_
      · exact ⟨ι1, S1, [], [], evo_new ι1 hD, R1.plus hD trivial, upd_same, .nil, Nat.le_refl _, p1⟩
      · rintro i H' _ ⟨ι', S', acc, accV, ev, _⟩
        exact hG ι' H' ev
      · rintro i xv H' H'' hlt ⟨ι', S', acc, accV, ev0, R0, hD0, ra0, hl, pp⟩ yy
        obtain ⟨w, hw, ey, R', rwv⟩ := hT (plus Y D) (.inr ⟨D, hD, rfl⟩) ι' H' S' i xv H'' hlt ev0 R0 yy
        have ev := ev0.trans ey
        have hD' := keepD R0 ey hD0 (fun _ z => by cases z)
        have ra := ra0.evo ey
        have ed : items.drop i = w :: items.drop (i + 1) := by
          rw [List.drop_eq_getElem_cons hlt]
          rw [List.getElem?_eq_getElem hlt] at hw
          cases hw; rfl
        rw [ed] at pp
        obtain ⟨ys, S'', eF, pp⟩ := lcLoop_cons pp
        rw [← hF] at eF
        obtain ⟨σ', S2, ha, hcase⟩ := lcF_ok eF
        have rsw : RepS X.K H'' ι' (plus Y D) (wipeW σd vs) (wipe σ vs) := ((((rs.evo e1).plus hD).evo ev).wipe vs)
        refine asgG vs g w xv _ σ' _ _ hg ha rwv rsw fun σ2 rs2 ag => ⟨wipe_agree ag, ?_⟩
        rcases hcase with ⟨y, hc, he, rfl⟩ | ⟨hc, rfl, rfl⟩
        · refine ht σ2 H'' _ ι' (plus Y D) S' σ' true S2 R' rs2 hc fun ι3 H3 e3 R3 => ?_
          rw [if_pos rfl]
          refine ⟨ι3, plus Y D, S2, σ', R3, rs2.evo e3, ?_⟩
          rw [he]
          intro ι4 H4 yv e4 R4 r4
          have hD4 := keepD R' (e3.trans e4) hD' (fun _ z => by cases z)
          have hl4 : accV.length < sizeLine := by rw [← ra.length]; omega
          refine ⟨accV, hD4, hl4, ι4, S'', acc ++ [y], accV ++ [yv], evo_D ((ev.trans e3).trans e4) hD, ?_, upd_same, ?_, ?_, pp⟩
          · obtain ⟨n1, n2⟩ := codeO_lst hD4
            exact R4.updY trivial plus_self n1 n2
          · exact ((ra.evo (e3.trans e4)).append (.cons r4 .nil)).updY plus_self
          · rw [List.length_append]; exact Nat.succ_le_succ hl
        · refine ht σ2 H'' _ ι' (plus Y D) S' σ' false S'' R' rs2 hc fun ι3 H3 e3 R3 => ?_
          rw [if_neg Bool.false_ne_true]
          rw [List.append_nil] at pp
          exact ⟨ι3, S'', acc, accV, ev.trans e3, R3, keepD R' e3 hD' (fun _ z => by cases z), ra.evo e3, Nat.le_succ_of_le hl, pp⟩
      · rintro H' ⟨ι', S', acc, accV, ev, R', hD', ra, hl, pp⟩
        rw [List.drop_length] at pp
        exact pp ι' H' D ev hD (fun z => R1.yn z hD) R' ⟨accV, hD', ra⟩
theorem n_lc (C : XOk X G T cl lv N sc fn kd W) {g : Tg} {fi fc fe : Sl → Sto → Res} {tt : TT} {elt tg iter : Expr} {ifs : List Expr} {pos : Pos} (hb : blkN N sc scope own = true) (hg : inOwn (own.map (·.2)) g = true) (hns : noSet iter = true) (ht : TtOk X G tt fc)
    (hi : PI X tg iter (tI X.K G (fun σ S => (fi σ S).bind itK) W))
    (hgt : ∀ X' : Cx, X'.K = X.K → XOk X' G T cl lv N (relN sc scope.names) (blkF scope) kd (fun _ _ _ _ => False) → PG X' tg (tgT X.K g))
    (htt : ∀ X' : Cx, X'.K = X.K → XOk X' G T cl lv N (relN sc scope.names) (blkF scope) kd (fun _ _ _ _ => False) → PTs X' ifs tt)
    (hte : ∀ X' : Cx, X'.K = X.K → XOk X' G T cl lv N (relN sc scope.names) (blkF scope) kd (fun _ _ _ _ => False) → PE X' elt (tE X.K G fe (fun _ _ _ _ => False))) :
    PE X (.ListComp elt [⟨tg, iter, ifs, 0⟩] scope pos) (tN X.K G (fun σ S => (fi σ S).bind fun x S => match itW x with | some items => lcLoop (lcF g fc fe (wipeW σ (own.map (·.2)))) items [] S | none => .bad) W) := by
  refine (pe_lc C.calm (by rw [C.hN]; exact C.nd) hi (C.blkOk hb) (fun s H Cc cl' fp => hgt _ rfl (C.blk hb s H Cc cl' fp)) (fun s H Cc cl' fp => htt _ rfl (C.blk hb s H Cc cl' fp)) (fun s H Cc cl' fp => hte _ rfl (C.blk hb s H Cc cl' fp)) (noFold hns)).imp fun σ H Q q => ?_
  exact lcW hg ht q

/-! ### a dict's comprehension -/
theorem dc_it {J : It} {n : Nat} {Gd : Hp → Prop} {Yy : Nat → Hp → V → Hp → Prop} (w : Walk J n Gd Yy) {g : TG} {tt : TT} {tk tv : TE} {vs : List Nat} {σ : L2.St} {H1 : Hp} {D : Addr} {Qd : Hp → Prop} (Pv : Nat → Hp → Prop) (h0 : Pv 0 (upd H1 D (.dK []))) (hG : ∀ i H, i ≤ n → Pv i H → Gd H)
    (hs : ∀ i x H H', i < n → Pv i H → Yy i H x H' → g x (wipe σ vs) H' fun σ2 H2 => wipe σ2 vs = wipe σ vs ∧ tt σ2 H2 fun b H3 =>
      if b = true then tk σ2 H3 fun y H4 => tv σ2 H4 fun z H5 => ∃ kvs k, y = kV k ∧ H5 D = some (.dK kvs) ∧ kvs.length < sizeLine ∧ Pv (i + 1) (upd H5 D (.dK (putK kvs k z))) else Pv (i + 1) H3) (hd : ∀ H, Pv n H → Qd H) :
    ∃ W : Nat → Nat → Hp → Prop, (∃ m, W 0 m (upd H1 D (.dK []))) ∧ ∀ i m H, W i m H →
      (J.stop i H ∧ Qd H) ∨ (J.go i H ∧ ∃ Nx : Hp → Prop, (∀ H', Nx H' → ∃ m', m' < m ∧ W (i + 1) m' H') ∧ ∀ x H', J.yld i H x H' → g x (wipe σ vs) H' fun σ2 H2 => wipe σ2 vs = wipe σ vs ∧ tt σ2 H2 fun b H3 =>
        if b = true then tk σ2 H3 fun y H4 => tv σ2 H4 fun z H5 => ∃ kvs k, y = kV k ∧ H5 D = some (.dK kvs) ∧ kvs.length < sizeLine ∧ Nx (upd H5 D (.dK (putK kvs k z))) else Nx H3) := by
  refine ⟨fun i m H => m = n - i ∧ i ≤ n ∧ Pv i H, ⟨n, by simp, Nat.zero_le _, h0⟩, ?_⟩
  rintro i m H ⟨rfl, hi, p⟩
  have q := hG i H hi p
  by_cases hlt : i < n
  · refine .inr ⟨w.goes i H hlt q, Pv (i + 1), fun H' p' => ⟨n - (i + 1), by omega, rfl, hlt, p'⟩, fun x H' y => hs i x H H' hlt p (w.yields i H x H' hlt q y)⟩
  · have e : i = n := by omega
    subst e
    exact .inl ⟨w.stops H q, hd H p⟩
theorem putW_len (kvs : List (Key × Wv)) (k : Key) (w : Wv) : (putW kvs k w).length ≤ kvs.length + 1 := by
  unfold putW
  split
  · rw [List.length_map]; omega
  · rw [List.length_append]; exact Nat.le_refl _
def dcF (g : Tg) (fc fk fe : Sl → Sto → Res) (σw : Sl) : Wv → Sto → Res := fun x S => match asg g x σw with
  | some σ' => (fc σ' S).bind fun t S => iteK t ((fk σ' S).bind fun y S => (fe σ' S).bind fun z S => .ok (.lst [y, z]) S) (.ok (.lst []) S)
  | none => .bad
theorem dcF_ok {g : Tg} {fc fk fe : Sl → Sto → Res} {σw : Sl} {x : Wv} {S S' : Sto} {ys : List Wv} (e : dcF g fc fk fe σw x S = .ok (.lst ys) S') :
    ∃ σ' S1, asg g x σw = some σ' ∧ ((∃ y z S2, fc σ' S = .ok (.bl true) S1 ∧ fk σ' S1 = .ok y S2 ∧ fe σ' S2 = .ok z S' ∧ ys = [y, z]) ∨ (fc σ' S = .ok (.bl false) S1 ∧ S' = S1 ∧ ys = [])) := by
  unfold dcF at e
  cases ha : asg g x σw with
  | none => rw [ha] at e; cases e
  | some σ' =>
    simp only [ha] at e
    refine ⟨σ', ?_⟩
    cases hc : fc σ' S with
    | exc c S1 => simp only [hc, bind_exc] at e; cases e
    | bad => simp only [hc, bind_bad] at e; cases e
    | ok t S1 =>
      simp only [hc, bind_ok] at e
      refine ⟨S1, rfl, ?_⟩
      cases t with
      | bl b =>
        cases b with
        | true =>
          have e : ((fk σ' S1).bind fun y S => (fe σ' S).bind fun z S => .ok (.lst [y, z]) S) = .ok (.lst ys) S' := e
          cases hk : fk σ' S1 with
          | exc c S2 => simp only [hk, bind_exc] at e; cases e
          | bad => simp only [hk, bind_bad] at e; cases e
          | ok y S2 =>
            simp only [hk, bind_ok] at e
            cases he : fe σ' S2 with
            | exc c S3 => simp only [he, bind_exc] at e; cases e
            | bad => simp only [he, bind_bad] at e; cases e
            | ok z S3 =>
              simp only [he, bind_ok] at e
              cases e
              exact .inl ⟨y, z, S2, rfl, rfl, he, rfl⟩
        | false =>
          have e : Res.ok (.lst []) S1 = .ok (.lst ys) S' := e
          cases e
          exact .inr ⟨rfl, rfl, rfl⟩
      | _ => cases e
theorem dcLoop_cons {F : Wv → Sto → Res} {x : Wv} {xs : List Wv} {acc : List (Key × Wv)} {S : Sto} {K : PySem.W.Frag} {Y : Addr → Prop} {ι : Io} {H : Hp} {Q : VK} {E : XK} (p : PostN K G Y ι H (dcLoop F (x :: xs) acc S) Q E) :
    ∃ S', (∃ y w k, F x S = .ok (.lst [y, w]) S' ∧ keyW y = some k ∧ PostN K G Y ι H (dcLoop F xs (putW acc k w) S') Q E) ∨ (F x S = .ok (.lst []) S' ∧ PostN K G Y ι H (dcLoop F xs acc S') Q E) := by
  have p : PostN K G Y ι H (match F x S with
    | .ok (.lst [k, w]) S' => (match keyW k with | some k => dcLoop F xs (putW acc k w) S' | none => .bad)
    | .ok (.lst []) S' => dcLoop F xs acc S'
    | _ => .bad) Q E := p
  cases e : F x S with
  | ok w S' =>
    rw [e] at p
    refine ⟨S', ?_⟩
    cases w with
    | lst ys =>
      match ys, p with
      | [], p => exact .inr ⟨rfl, p⟩
      | [y, w], p =>
        cases hk : keyW y with
        | none => simp only [hk] at p; exact p.elim
        | some k => simp only [hk] at p; exact .inl ⟨y, w, k, rfl, hk, p⟩
      | [_], p => exact p.elim
      | _ :: _ :: _ :: _, p => exact p.elim
    | _ => exact p.elim
  | exc c S' => rw [e] at p; exact p.elim
  | bad => rw [e] at p; exact p.elim
theorem dcW {g : Tg} {vs : List Nat} {fi fc fk fe : Sl → Sto → Res} {tt : TT} {σ : L2.St} {H : Hp} {Q : VK} (hg : inOwn vs g = true) (ht : TtOk X G tt fc)
    (q : tN X.K G (fun σ S => (fi σ S).bind fun x S => match itW x with | some items => dcLoop (dcF g fc fk fe (wipeW σ vs)) items [] S | none => .bad) W σ H Q) :
    tDc (tI X.K G (fun σ S => (fi σ S).bind itK) W) (tgT X.K g) tt (tE X.K G fk (fun _ _ _ _ => False)) (tE X.K G fe (fun _ _ _ _ => False)) vs σ H Q := by
  obtain ⟨ι, Y, S, σd, R, rs, p⟩ := q
  refine ⟨ι, Y, S, σd, R, rs, ?_⟩
  show PostI X.K G Y ι H ((fi σd S).bind itK) _ _
  have p : PostN X.K G Y ι H ((fi σd S).bind fun x S => match itW x with | some items => dcLoop (dcF g fc fk fe (wipeW σd vs)) items [] S | none => .bad) Q (L2.WE W σ) := p
  cases e : fi σd S with
  | exc c S1 => rw [e] at p; exact p
  | bad => rw [e] at p; exact p.elim
  | ok x S1 =>
    rw [e] at p
    have p : PostN X.K G Y ι H (match itW x with | some items => dcLoop (dcF g fc fk fe (wipeW σd vs)) items [] S1 | none => .bad) Q (L2.WE W σ) := p
    show PostI X.K G Y ι H (itK x S1) _ _
    cases hi : itW x with
    | none => rw [hi] at p; exact p.elim
    | some items =>
      rw [hi] at p
      have ek : itK x S1 = .ok (.lst items) S1 := by unfold itK; rw [hi]
      have hz := itK_len ek
      rw [ek]
      intro ι1 H1 J e1 R1 w1
      obtain ⟨Gd, Yy, wk, hG, hT⟩ := w1.turn (G := G)
      intro D hD
      generalize hF : dcF g fc fk fe (wipeW σd vs) = F at p
      have p1 : PostN X.K G Y ι1 H1 (dcLoop F items [] S1) Q (L2.WE W σ) := PostN.evo p e1
      have R1D : Rel X.K G ι1 (plus Y D) S1 (upd H1 D (.dK [])) := R1.plus hD trivial
      refine dc_it wk (fun i H' => ∃ (ι' : Io) (S' : Sto) (acc : List (Key × Wv)) (accV : List (Key × V)), Evo ι1 H1 ι' H' ∧ Rel X.K G ι' (plus Y D) S' H' ∧ H' D = some (.dK accV) ∧ RepD X.K H' ι' (plus Y D) acc accV ∧ acc.length ≤ i ∧ PostN X.K G Y ι1 H1 (dcLoop F (items.drop i) acc S') Q (L2.WE W σ)) ?_ ?_ ?_ ?_
      · exact ⟨ι1, S1, [], [], evo_new ι1 hD, R1D, upd_same, .nil, Nat.le_refl _, p1⟩
      · rintro i H' _ ⟨ι', S', acc, accV, ev, _⟩
        exact hG ι' H' ev
      · rintro i xv H' H'' hlt ⟨ι', S', acc, accV, ev0, R0, hD0, ra0, hl, pp⟩ yy
        obtain ⟨w, hw, ey, R', rwv⟩ := hT (plus Y D) (.inr ⟨D, hD, rfl⟩) ι' H' S' i xv H'' hlt ev0 R0 yy
        have ev := ev0.trans ey
        have hD' := keepD R0 ey hD0 (fun _ z => by cases z)
        have ra := ra0.evo ey
        have ed : items.drop i = w :: items.drop (i + 1) := by
          rw [List.drop_eq_getElem_cons hlt]
          rw [List.getElem?_eq_getElem hlt] at hw
          cases hw; rfl
        rw [ed] at pp
        have rsw : RepS X.K H'' ι' (plus Y D) (wipeW σd vs) (wipe σ vs) := ((((rs.evo e1).plus hD).evo ev).wipe vs)
        obtain ⟨S'', hh⟩ := dcLoop_cons pp
        rcases hh with ⟨y, z, k, eF, ek, pp⟩ | ⟨eF, pp⟩
        · rw [← hF] at eF
          obtain ⟨σ', S2, ha, hcase⟩ := dcF_ok eF
          refine asgG vs g w xv _ σ' _ _ hg ha rwv rsw fun σ2 rs2 ag => ⟨wipe_agree ag, ?_⟩
          rcases hcase with ⟨y', z', S3, hc, hk, he, eq⟩ | ⟨_, _, eq⟩
          · cases eq
            refine ht σ2 H'' _ ι' (plus Y D) S' σ' true S2 R' rs2 hc fun ι3 H3 e3 R3 => ?_
            rw [if_pos rfl]
            refine ⟨ι3, plus Y D, S2, σ', R3, rs2.evo e3, ?_⟩
            rw [hk]
            intro ι4 H4 yv e4 R4 r4
            refine ⟨ι4, plus Y D, S3, σ', R4, (rs2.evo e3).evo e4, ?_⟩
            rw [he]
            intro ι5 H5 zv e5 R5 r5
            have e35 := (e3.trans e4).trans e5
            have hD5 := keepD R' e35 hD' (fun _ z => by cases z)
            have hl4 : accV.length < sizeLine := by rw [← ra.length]; omega
            refine ⟨accV, k, keyW_V r4 ek, hD5, hl4, ι5, S'', putW acc k z, putK accV k zv, evo_D (ev.trans e35) hD, ?_, upd_same, ?_, ?_, pp⟩
            · obtain ⟨n1, n2⟩ := codeO_dK hD5
              exact R5.updY trivial plus_self n1 n2
            · exact (putW_V r5 (ra.evo e35)).updY plus_self
            · exact Nat.le_trans (putW_len _ _ _) (Nat.succ_le_succ hl)
          · cases eq
        · rw [← hF] at eF
          obtain ⟨σ', S2, ha, hcase⟩ := dcF_ok eF
          refine asgG vs g w xv _ σ' _ _ hg ha rwv rsw fun σ2 rs2 ag => ⟨wipe_agree ag, ?_⟩
          rcases hcase with ⟨y', z', S3, hc, hk, he, eq⟩ | ⟨hc, rfl, _⟩
          · cases eq
          · refine ht σ2 H'' _ ι' (plus Y D) S' σ' false S'' R' rs2 hc fun ι3 H3 e3 R3 => ?_
            rw [if_neg Bool.false_ne_true]
            exact ⟨ι3, S'', acc, accV, ev.trans e3, R3, keepD R' e3 hD' (fun _ z => by cases z), ra.evo e3, Nat.le_succ_of_le hl, pp⟩
      · rintro H' ⟨ι', S', acc, accV, ev, R', hD', ra, hl, pp⟩
        rw [List.drop_length] at pp
        exact pp ι' H' D ev hD (fun z => R1.yn z hD) R' ⟨accV, hD', ra⟩
theorem n_dc (C : XOk X G T cl lv N sc fn kd W) {g : Tg} {fi fc fk fe : Sl → Sto → Res} {tt : TT} {kx elt tg iter : Expr} {ifs : List Expr} {pos : Pos} (hb : blkN N sc scope own = true) (hg : inOwn (own.map (·.2)) g = true) (hns : noSet iter = true) (ht : TtOk X G tt fc)
    (hi : PI X tg iter (tI X.K G (fun σ S => (fi σ S).bind itK) W))
    (hgt : ∀ X' : Cx, X'.K = X.K → XOk X' G T cl lv N (relN sc scope.names) (blkF scope) kd (fun _ _ _ _ => False) → PG X' tg (tgT X.K g))
    (htt : ∀ X' : Cx, X'.K = X.K → XOk X' G T cl lv N (relN sc scope.names) (blkF scope) kd (fun _ _ _ _ => False) → PTs X' ifs tt)
    (htk : ∀ X' : Cx, X'.K = X.K → XOk X' G T cl lv N (relN sc scope.names) (blkF scope) kd (fun _ _ _ _ => False) → PE X' kx (tE X.K G fk (fun _ _ _ _ => False)))
    (hte : ∀ X' : Cx, X'.K = X.K → XOk X' G T cl lv N (relN sc scope.names) (blkF scope) kd (fun _ _ _ _ => False) → PE X' elt (tE X.K G fe (fun _ _ _ _ => False))) :
    PE X (.DictComp kx elt [⟨tg, iter, ifs, 0⟩] scope pos) (tN X.K G (fun σ S => (fi σ S).bind fun x S => match itW x with | some items => dcLoop (dcF g fc fk fe (wipeW σ (own.map (·.2)))) items [] S | none => .bad) W) := by
  refine (pe_dc C.calm (by rw [C.hN]; exact C.nd) hi (C.blkOk hb) (fun s H Cc cl' fp => hgt _ rfl (C.blk hb s H Cc cl' fp)) (fun s H Cc cl' fp => htt _ rfl (C.blk hb s H Cc cl' fp)) (fun s H Cc cl' fp => htk _ rfl (C.blk hb s H Cc cl' fp)) (fun s H Cc cl' fp => hte _ rfl (C.blk hb s H Cc cl' fp)) (noFold hns)).imp fun σ H Q q => ?_
  exact dcW hg ht q
end
end Dy

end
section
set_option Elab.async false
set_option linter.all false
set_option maxRecDepth 100000
set_option maxHeartbeats 400000
/-! Dy, part H: any over a text's signs; lambdas that are told. -/
namespace Dy
open PySem PySem.Spec PyProof.Rows L2

/-! ### a table grows -/
section
variable {K : PySem.W.Frag} {G : Glob} {ι : Io} {Y : Addr → Prop} {S : Sto} {H H1 : Hp} {P : Addr}
/-- H1 is H but for the table at P, and what is new -/
def GrowP (P : Addr) (H H1 : Hp) : Prop := (∀ b, b ≠ P → H b ≠ none → H1 b = H b) ∧ (∃ ps, H P = some (.tbl ps)) ∧ ∃ ps, H1 P = some (.tbl ps)
theorem GrowP.evo (g : GrowP P H H1) (ι : Io) : Evo ι H ι H1 where
  keep := fun a o e _ n => by
    have hne : a ≠ P := fun z => by
      obtain ⟨ps, hp⟩ := g.2.1
      rw [z, hp] at e
      exact n ps (Option.some.inj e).symm
    rw [g.1 a hne (by rw [e]; simp)]; exact e
  ext := fun _ _ e => e
  new := fun _ _ e => .inl e
  stay := fun a n => by
    by_cases z : a = P
    · obtain ⟨ps, hp⟩ := g.2.2
      rw [z, hp]; simp
    · rw [g.1 a z n]; exact n
theorem GrowP.rel (g : GrowP P H H1) (R : Rel K G ι Y S H) (ht : LamX.Tabs G.tabs H1) (hg : ∀ Q ∈ G.gens, GxR.TabG H1 Q) : Rel K G ι Y S H1 where
  inj := R.inj
  lt := R.lt
  obj := fun i u e => by
    obtain ⟨a, ho, h1, h2, h3⟩ := R.obj i u e
    have hne : a ≠ P := fun z => by
      obtain ⟨ps, hp⟩ := g.2.1
      rw [z, hp] at h2
      exact h3.notTbl ps (Option.some.inj h2).symm
    exact ⟨a, ho, h1, by rw [g.1 a hne (by rw [h2]; simp)]; exact h2, h3.evo (g.evo ι)⟩
  yt := fun a h => IsLD.keep (g.evo ι) (R.ni h) (R.yt a h)
  ny := R.ny
  tabs := ht
  gens := hg
/-- a table of a generator expression's def grows -/
theorem tabbed_rel (R : Rel K G ι Y S H) (hP : P ∈ G.gens) (hd : ∀ p ∈ G.tabs, p.1 ≠ P) (t : GxR.Tabbed P H H1) : GrowP P H H1 ∧ Rel K G ι Y S H1 := by
  obtain ⟨ps, h1, h2⟩ := R.gens P hP
  obtain ⟨⟨ps', h3, h4⟩, h5⟩ := t
  have g : GrowP P H H1 := ⟨fun b hb _ => h5 b hb, ⟨ps, h1⟩, ⟨ps', h3⟩⟩
  refine ⟨g, g.rel R (fun p hp => ?_) fun Q hQ => ?_⟩
  · obtain ⟨qs, a1, a2, a3⟩ := R.tabs p hp
    refine ⟨qs, by rw [h5 _ (hd p hp)]; exact a1, a2, fun pos cv hc => ?_⟩
    obtain ⟨c, e1, e2⟩ := a3 pos cv hc
    refine ⟨c, e1, ?_⟩
    rw [h5 c (fun z => by rw [z, h1] at e2; exact LamX.codeO_ne ps (Option.some.inj e2).symm)]
    exact e2
  · by_cases z : Q = P
    · rw [z]; exact ⟨ps', h3, h4⟩
    · obtain ⟨qs, a1, a2⟩ := R.gens Q hQ
      exact ⟨qs, by rw [h5 Q z]; exact a1, a2⟩
end

/-! ### any(x not in '..' for x in text) -/
def genB (scope : Scope) (x : Str) : Bool :=
  decide (scope.kind = .function) && !scope.isCoroutine && (scope.names.all fun y => !decide (y.2 = .cell) && !decide (y.2 = .free)) && decide (scope.names.lookup (".0" : Str) = some NameKind.local) && decide (scope.names.lookup x = some .local)
theorem genB_by {scope : Scope} {x : Str} (h : genB scope x = true) (env : Env) : GxR.GenS env scope x := by
  unfold genB at h
  simp only [Bool.and_eq_true, Bool.not_eq_true', decide_eq_true_eq, decide_eq_false_iff_not, List.all_eq_true] at h
  obtain ⟨⟨⟨⟨h1, h2⟩, h3⟩, h4⟩, h5⟩ := h
  exact ⟨h1, h2, fun y hy => (h3 y hy).1, h4, h5, fun y hy e => absurd e (h3 y hy).2⟩
def noLst : Expr → Bool
  | .Set .. => false
  | .List .. => false
  | _ => true
theorem noGen {e : Expr} {env : Env} (h : noLst e = true) : ∀ v, genFold e env v = pure v := by
  cases e <;> first | (intro x; rfl) | cases h
theorem elt_notIn {prog : Program} {w : World} {scope : Scope} {x z : Str} {j : Nat} {p1 p2 p3 : Pos} (hk : scope.kind = .function) (hl : scope.names.lookup x = some .local) (hd : (x == ("__debug__" : Str)) = false) :
    GxR.EltP prog w scope x (.Compare (.Name x p1) [.NotIn] [.Constant (.str z) j p2] p3) (fun c => !decide (c ∈ z.cps.toList)) := by
  intro cenv A' E' c t s₂ m₂ hs hn hm
  refine wpAny_Compare1 ?_
  refine wpAny_Name (wpAny_loadName_local (by rw [hs]; exact hk) (show cenv.scope.names.lookup x = some .local by rw [hs]; exact hl) hn hm ?_) hd
  refine Calls.Constant_str ?_
  exact PyProof.Rows.notIn_str ⟨congrArg Value.bool (congrArg Bool.not (PySem.StrLaws.found_one z c)), GxR.keeps_tok _ _⟩
section
variable {X : Cx} {G : Glob} {T : GT} {cl : Clr} {lv : Nat} {N : List Str} {sc : List (Str × NameKind)} {fn : Str → Bool} {W : WX}
theorem e_anyOut (C : XOk X G T cl lv N sc fn .gen W) {f : Sl → Sto → Res} {z x : Str} {j : Nat} {iter : Expr} {p gpos px p1 p2 p3 pos : Pos} {scope : Scope} (hx : isGl sc "any" = true) (hb : T.bis.contains "any" = true) (hS : genB scope x = true) (hxn : okN x = true) (hn : noLst iter = true) (he : PE X iter (tE X.K G f W)) :
    PE X (.Call (.Name "any" p) [.GeneratorExp (.Compare (.Name x p1) [.NotIn] [.Constant (.str z) j p2] p3) [⟨.Name x px, iter, [], 0⟩] scope gpos] [] pos)
      (tE X.K G (fun σ S => (f σ S).bind fun v S => match v with | .str a => .ok (.bl (a.cps.toList.any fun c => !(decide (c ∈ z.cps.toList)))) S | _ => .bad) W) := by
  obtain ⟨gl, d, nn⟩ := C.gl hx
  obtain ⟨c, P, hc, TB, hP, hd, _⟩ := C.kd
  have GS := genB_by hS X.env
  refine (GxR.pe_anyS C.room gl (C.g.bis _ hb) TB hc GS he (elt_notIn GS.kind GS.loc (okN_d hxn).1) (noGen hn)).imp fun σ H Q q => ?_
  obtain ⟨ι, Y, S, σd, R, rs, pp⟩ := q
  refine ⟨ι, Y, S, σd, R, rs, pp.bind.mono ?_ idE⟩
  rintro v H' ⟨ι1, w, S1, e, R1, r1, p1'⟩
  cases w with
  | str a =>
    cases r1.str_eq
    refine ⟨a, rfl, R1.gens P hP, fun H2 tb => ?_⟩
    obtain ⟨gr, R2⟩ := tabbed_rel R1 hP hd tb
    exact p1' ι1 H2 _ (gr.evo ι1) R2 (.bl _)
  | _ => exact p1'.elim

/-! ### a lambda that is made -/
theorem lam_make3 {Tt : List (Addr × Str)} {c P : Addr} {params : Arguments} {body : Expr} {scope : Scope} {pos : Pos} {E : Value → Shared → Prop} {Q : Value → Shared → Prop} {pins : List (Addr × Obj)} {σ : L2.St} {H : Hp} {s : Shared} (I : Inv X pins σ H s) (TB : LamX.TabB X.base X.mg c P) (hcode : X.env.code = .ref c)
    (hm : (P, X.env.qual ++ "<lambda>") ∈ Tt) (hu : ∀ p ∈ Tt, p.1 = P → p.2 = X.env.qual ++ "<lambda>") (hT : LamX.Tabs Tt H) (hdef : defaultsOf params X.env = ([], [])) (hfree : ∀ y ∈ scope.names, y.2 = .free → ∃ c, X.env.cells.lookup y.1 = some c)
    (h : ∀ (f c' : Addr) (pm ctv : Value) (H1 : Hp) (s' : Shared), Inv X pins σ H1 s' → GrowP P H H1 → LamX.Tabs Tt H1 →
      s'.heap.get? f = some (PySem.W.kla_obj "<lambda>" (X.env.qual ++ "<lambda>") params body scope (cloFrom X.env.cells scope.names []) pm c' ctv) → H1 f = none → f ∉ frs X.stack → s.heap.objs.size ≤ f → H1 c' = some (LamX.CodeO c' (X.env.qual ++ "<lambda>")) → Q (.ref f) s') :
    wpAny (model X.prog X.w) X.A (eval (.Lambda params body scope pos) X.env) Q E s := by
  obtain ⟨ps, hP, ht, ha⟩ := hT _ hm
  refine PySem.W.kla_eval hdef ?_
  have bP : s.heap.BuiltinsAt X.mg P := TB.bm.keeps I.bk
  have hP' : s.heap.get? P = some { cls := .none, data := .fields ps } := I.hok P _ hP
  have nofr : ∀ f, s.heap.objs.size ≤ f → f ∉ frs X.stack := fun f hf z => by
    rcases List.mem_cons.mp (I.stkSub _ z) with e | e
    · have h1 := I.lt
      rw [← e] at h1
      exact Nat.lt_irrefl _ (Nat.lt_of_lt_of_le h1 hf)
    · exact I.nofs hf e
  cases hc : codeAmong pos ps.toList with
  | none =>
    refine PySem.W.kla_makeFunction (mg := X.mg) (c := c) (P := P) (ps := ps) (closure_ok hfree) I.ok.glob (I.mod.glob.keeps I.bk) hcode (TB.code.keeps I.bk) hP' ht hc TB.gP bP fun c' ctv h' tk hx hge hlt hrec htb => ?_
    obtain ⟨c2, oc, vs, t, e2, hoc, hd, hv⟩ := hrec
    cases e2
    have hsz : s.heap.objs.size ≤ h'.objs.size := Nat.le_trans hge (Nat.le_of_lt hlt)
    have nC : H c' = none := I.hok.fresh hge
    have I1 := LamX.inv_table (t' := tk) (more := #[rawInt pos.line, rawInt pos.col, .ref c']) (h' := h'.push (PySem.W.kla_obj "<lambda>" (X.env.qual ++ "<lambda>") params body scope (cloFrom X.env.cells scope.names []) ((X.mg "__name__").getD .none) c' ctv)) I hP
      (fun b o hb e => Heap.get?_push_of_some _ (hx b o hb e)) (Heap.get?_push_of_some _ htb) hge ⟨oc, vs, t, Heap.get?_push_of_some _ hoc, hd, hv⟩
    have hE : ∀ b, b ≠ P → H b ≠ none → (upd (upd H P (.tbl (ps ++ #[rawInt pos.line, rawInt pos.col, .ref c']))) c' (LamX.CodeO c' (X.env.qual ++ "<lambda>"))) b = H b := fun b hb n => by
      rw [upd_ne (fun z : b = c' => n (z ▸ nC)), upd_ne hb]
    have nPc : P ≠ c' := ne_of_none hP nC
    have hcd : ∀ c0 q, H c0 = some (LamX.CodeO c0 q) → c0 ≠ P := fun c0 q e z => by
      rw [z, hP] at e
      exact LamX.codeO_ne ps (Option.some.inj e).symm
    have kc : ∀ c0 q, H c0 = some (LamX.CodeO c0 q) → (upd (upd H P (.tbl (ps ++ #[rawInt pos.line, rawInt pos.col, .ref c']))) c' (LamX.CodeO c' (X.env.qual ++ "<lambda>"))) c0 = some (LamX.CodeO c0 q) := fun c0 q e => by
      rw [hE c0 (hcd c0 q e) (by rw [e]; simp)]; exact e
    have eL : (ps ++ #[rawInt pos.line, rawInt pos.col, .ref c']).toList = ps.toList ++ [rawInt pos.line, rawInt pos.col, .ref c'] := by simp
    refine h h'.objs.size c' ((X.mg "__name__").getD .none) ctv _ _ I1 ⟨hE, ⟨ps, hP⟩, ⟨_, by rw [upd_ne nPc, upd_same]⟩⟩ (fun p hp => ?_) (Heap.get?_push_size _ rfl) ?_ (nofr _ hsz) hsz upd_same
    · by_cases hb : p.1 = P
      · rw [hu p hp hb, hb]
        refine ⟨_, by rw [upd_ne nPc, upd_same], by rw [eL]; exact PySem.TriplesOk_snoc _ _ _ _ ht, fun p' cv hcv => ?_⟩
        rw [eL] at hcv
        rcases LamX.among_app _ ht hcv with z | z
        · obtain ⟨c0, e1, e2⟩ := ha p' cv z
          exact ⟨c0, e1, kc _ _ e2⟩
        · exact ⟨c', z, upd_same⟩
      · obtain ⟨ps', a1, a2, a3⟩ := hT p hp
        refine ⟨ps', by rw [hE _ hb (by rw [a1]; simp)]; exact a1, a2, fun p' cv hcv => ?_⟩
        obtain ⟨c0, e1, e2⟩ := a3 p' cv hcv
        exact ⟨c0, e1, kc _ _ e2⟩
    · have n1 : h'.objs.size ≠ c' := Nat.ne_of_gt hlt
      have n2 : h'.objs.size ≠ P := Nat.ne_of_gt (Nat.lt_of_lt_of_le (Heap.lt_size hP') hsz)
      rw [upd_ne n1, upd_ne n2]
      exact I.hok.fresh hsz
  | some cv =>
    obtain ⟨c', e, hco⟩ := ha pos cv hc
    subst e
    refine PySem.W.kla_makeFunctionHit (mg := X.mg) (c := c) (P := P) (ps := ps) (closure_ok hfree) I.ok.glob (I.mod.glob.keeps I.bk) hcode (TB.code.keeps I.bk) hP' ht hc bP fun ctv h' tk hx hsz => ?_
    have I1 : Inv X pins σ H { s with heap := h'.push (PySem.W.kla_obj "<lambda>" (X.env.qual ++ "<lambda>") params body scope (cloFrom X.env.cells scope.names []) ((X.mg "__name__").getD .none) c' ctv), toks := tk } := I.kept fun b o e => Heap.get?_push_of_some _ (hx b o e)
    exact h h'.objs.size c' ((X.mg "__name__").getD .none) ctv H _ I1 ⟨fun _ _ _ => rfl, ⟨ps, hP⟩, ⟨ps, hP⟩⟩ hT (Heap.get?_push_size _ rfl) (I.hok.fresh hsz) (nofr _ hsz) hsz hco

theorem lam_make4 {Tt : List (Addr × Str)} {c P : Addr} {params : Arguments} {body : Expr} {scope : Scope} {pos : Pos} {E : Value → Shared → Prop} {Q : Value → Shared → Prop} (φ : Addr → Addr → Heap → Prop) (hφ : ∀ (f c' : Addr) (pm ctv : Value) (h : Heap), h.get? f = some (PySem.W.kla_obj "<lambda>" (X.env.qual ++ "<lambda>") params body scope (cloFrom X.env.cells scope.names []) pm c' ctv) → φ f c' h)
    (hst : ∀ (f c' : Addr) (h1 h2 : Heap), φ f c' h1 → (∀ o, h1.get? f = some o → h2.get? f = some o) → φ f c' h2) {pins : List (Addr × Obj)} {σ : L2.St} {H : Hp} {s : Shared} (I : Inv X pins σ H s) (TB : LamX.TabB X.base X.mg c P) (hcode : X.env.code = .ref c)
    (hm : (P, X.env.qual ++ "<lambda>") ∈ Tt) (hu : ∀ p ∈ Tt, p.1 = P → p.2 = X.env.qual ++ "<lambda>") (hT : LamX.Tabs Tt H) (hdef : defaultsOf params X.env = ([], [])) (hfree : ∀ y ∈ scope.names, y.2 = .free → ∃ c, X.env.cells.lookup y.1 = some c)
    (h : ∀ (f c' : Addr) (H1 : Hp) (s' : Shared), Inv X pins σ (upd H1 f (.ext (φ f c'))) s' → GrowP P H H1 → LamX.Tabs Tt H1 → H1 f = none → H1 c' = some (LamX.CodeO c' (X.env.qual ++ "<lambda>")) → Q (.ref f) s') :
    wpAny (model X.prog X.w) X.A (eval (.Lambda params body scope pos) X.env) Q E s := by
  obtain ⟨ps, hP, ht, ha⟩ := hT _ hm
  refine PySem.W.kla_eval hdef ?_
  have bP : s.heap.BuiltinsAt X.mg P := TB.bm.keeps I.bk
  have hP' : s.heap.get? P = some { cls := .none, data := .fields ps } := I.hok P _ hP
  have nofr : ∀ f, s.heap.objs.size ≤ f → f ∉ frs X.stack := fun f hf z => by
    rcases List.mem_cons.mp (I.stkSub _ z) with e | e
    · have h1 := I.lt
      rw [← e] at h1
      exact Nat.lt_irrefl _ (Nat.lt_of_lt_of_le h1 hf)
    · exact I.nofs hf e
  cases hc : codeAmong pos ps.toList with
  | none =>
    refine PySem.W.kla_makeFunction (mg := X.mg) (c := c) (P := P) (ps := ps) (closure_ok hfree) I.ok.glob (I.mod.glob.keeps I.bk) hcode (TB.code.keeps I.bk) hP' ht hc TB.gP bP fun c' ctv h' tk hx hge hlt hrec htb => ?_
    obtain ⟨c2, oc, vs, t, e2, hoc, hd, hv⟩ := hrec
    cases e2
    have hsz : s.heap.objs.size ≤ h'.objs.size := Nat.le_trans hge (Nat.le_of_lt hlt)
    have nC : H c' = none := I.hok.fresh hge
    have I0 := LamX.inv_table (t' := tk) (more := #[rawInt pos.line, rawInt pos.col, .ref c']) (h' := h') I hP hx htb hge ⟨oc, vs, t, hoc, hd, hv⟩
    have I1 := I0.laid (t' := tk) (h' := h'.push (PySem.W.kla_obj "<lambda>" (X.env.qual ++ "<lambda>") params body scope (cloFrom X.env.cells scope.names []) ((X.mg "__name__").getD .none) c' ctv)) (a := h'.objs.size) (o := .ext (φ h'.objs.size c'))
      (fun b o e => Heap.get?_push_of_some _ e) (Nat.le_refl _) ⟨hφ _ _ _ _ _ (Heap.get?_push_size _ rfl), ⟨_, Heap.get?_push_size _ rfl⟩, hst _ _⟩
    have hE : ∀ b, b ≠ P → H b ≠ none → (upd (upd H P (.tbl (ps ++ #[rawInt pos.line, rawInt pos.col, .ref c']))) c' (LamX.CodeO c' (X.env.qual ++ "<lambda>"))) b = H b := fun b hb n => by
      rw [upd_ne (fun z : b = c' => n (z ▸ nC)), upd_ne hb]
    have nPc : P ≠ c' := ne_of_none hP nC
    have hcd : ∀ c0 q, H c0 = some (LamX.CodeO c0 q) → c0 ≠ P := fun c0 q e z => by
      rw [z, hP] at e
      exact LamX.codeO_ne ps (Option.some.inj e).symm
    have kc : ∀ c0 q, H c0 = some (LamX.CodeO c0 q) → (upd (upd H P (.tbl (ps ++ #[rawInt pos.line, rawInt pos.col, .ref c']))) c' (LamX.CodeO c' (X.env.qual ++ "<lambda>"))) c0 = some (LamX.CodeO c0 q) := fun c0 q e => by
      rw [hE c0 (hcd c0 q e) (by rw [e]; simp)]; exact e
    have eL : (ps ++ #[rawInt pos.line, rawInt pos.col, .ref c']).toList = ps.toList ++ [rawInt pos.line, rawInt pos.col, .ref c'] := by simp
    refine h h'.objs.size c' _ _ I1 ⟨hE, ⟨ps, hP⟩, ⟨_, by rw [upd_ne nPc, upd_same]⟩⟩ (fun p hp => ?_) ?_ upd_same
    · by_cases hb : p.1 = P
      · rw [hu p hp hb, hb]
        refine ⟨_, by rw [upd_ne nPc, upd_same], by rw [eL]; exact PySem.TriplesOk_snoc _ _ _ _ ht, fun p' cv hcv => ?_⟩
        rw [eL] at hcv
        rcases LamX.among_app _ ht hcv with z | z
        · obtain ⟨c0, e1, e2⟩ := ha p' cv z
          exact ⟨c0, e1, kc _ _ e2⟩
        · exact ⟨c', z, upd_same⟩
      · obtain ⟨ps', a1, a2, a3⟩ := hT p hp
        refine ⟨ps', by rw [hE _ hb (by rw [a1]; simp)]; exact a1, a2, fun p' cv hcv => ?_⟩
        obtain ⟨c0, e1, e2⟩ := a3 p' cv hcv
        exact ⟨c0, e1, kc _ _ e2⟩
    · have n1 : h'.objs.size ≠ c' := Nat.ne_of_gt hlt
      have n2 : h'.objs.size ≠ P := Nat.ne_of_gt (Nat.lt_of_lt_of_le (Heap.lt_size hP') hsz)
      rw [upd_ne n1, upd_ne n2]
      exact I.hok.fresh hsz
  | some cv =>
    obtain ⟨c', e, hco⟩ := ha pos cv hc
    subst e
    refine PySem.W.kla_makeFunctionHit (mg := X.mg) (c := c) (P := P) (ps := ps) (closure_ok hfree) I.ok.glob (I.mod.glob.keeps I.bk) hcode (TB.code.keeps I.bk) hP' ht hc bP fun ctv h' tk hx hsz => ?_
    have I0 : Inv X pins σ H { s with heap := h', toks := tk } := I.kept fun b o e => hx b o e
    have I1 := I0.laid (t' := tk) (h' := h'.push (PySem.W.kla_obj "<lambda>" (X.env.qual ++ "<lambda>") params body scope (cloFrom X.env.cells scope.names []) ((X.mg "__name__").getD .none) c' ctv)) (a := h'.objs.size) (o := .ext (φ h'.objs.size c'))
      (fun b o e => Heap.get?_push_of_some _ e) (Nat.le_refl _) ⟨hφ _ _ _ _ _ (Heap.get?_push_size _ rfl), ⟨_, Heap.get?_push_size _ rfl⟩, hst _ _⟩
    exact h h'.objs.size c' H _ I1 ⟨fun _ _ _ => rfl, ⟨ps, hP⟩, ⟨ps, hP⟩⟩ hT (I.hok.fresh hsz) hco
def lamN (sc : List (Str × NameKind)) (scope : Scope) : Bool := LamX.lamSB { kind := .function, names := sc, isGenerator := false, isCoroutine := false } scope
theorem XOk.lamOk {kd : Kd} {scope : Scope} (C : XOk X G T cl lv N sc fn kd W) (h : lamN sc scope = true) : LamX.LamS X.env.scope scope := by
  refine LamX.lamS_by ?_
  unfold lamN LamX.lamSB at h
  unfold LamX.lamSB
  rw [C.sc]
  exact h
theorem XOk.lam {kd : Kd} {scope : Scope} (C : XOk X G T cl lv N sc fn kd W) (h : lamN sc scope = true) {A : Around} {outer : List Env} {s : Shared} {H : Hp} {E : XK} {f c' : Addr} (hr : Room (lv + 2) (A.deeper (LamX.lamEnv X scope s.heap.objs.size f c'))) :
    XOk (LamX.lamCx X A outer s H E scope f c') G T cl lv N scope.names (fun _ => false) .no (fun cls d _ H => E cls d H) where
  g := C.g
  hN := C.hN
  nd := C.nd
  kind := (C.lamOk h).kind
  sc := rfl
  fn := rfl
  calm := rfl
  room := hr
  tk := takes_of rfl rfl rfl rfl
  kd := trivial
/-- x(lambda: body), told -/
theorem e_told (C : XOk X G T cl lv N sc fn .lam W) {f : Sl → Sto → Res} {x e : Str} {p lpos pos : Pos} {params : Arguments} {body : Expr} {scope : Scope} (hx : isGl sc x = true) (ht : (x, e) ∈ T.tolds) (hL : lamN sc scope = true) (hp : noArgs params = true)
    (hbody : ∀ (X' : Cx) (W' : WX), X'.K = X.K → XOk X' G T cl lv N scope.names (fun _ => false) .no W' → PE X' body (tE X.K G f W')) :
    PE X (.Call (.Name x p) [.Lambda params body scope lpos] [] pos) (tE X.K G (fun σ S => toldW e (f σ S)) W) := by
  obtain ⟨gl, d, nn⟩ := C.gl hx
  obtain ⟨cc, P, hcode, TB, hmT, hu, hgn, hroom⟩ := C.kd
  obtain ⟨a, g, CS, pg, bg, sg, dV, kV, doc, pm, cdv, ct, oc, an, od, osl, Ng, j, p1, p2, p3, p4, p5, p6, p7, p8, h1, h2, h3, h4, h5, h6, h7, h8, h9, h10, rfl, h12, h13, h14, h15, h16⟩ := C.g.tolds x e ht
  have hpa := noArgs_eq hp
  subst hpa
  have L := C.lamOk hL
  refine ⟨fun pins s σ H Q I h => ?_⟩
  obtain ⟨ι, Y, S, σd, R, rs, pp⟩ := h
  refine wpAny_Call_Name_kw (ld_glob I gl h1 ?_ d)
  refine PySem.W.callWith_K (h₀ := X.base) I.ok.mod.kin h2 ?_ (by rfl) (by rfl)
  show wpAny _ _ (spliced ((false, eval (.Lambda ⟨[], [], none, [], [], none, []⟩ body scope lpos) X.env) :: backTo pos (starEach [] X.env))) _ _ s
  refine Calls.spliced_cons (lam_make3 I TB hcode hmT hu R.tabs rfl (L.has I.ok) fun fa c' pm' ctv H1 s' I1 gr T1 hf hfn hfr hfs hco => ?_)
  refine Calls.spliced_nil ⟨I1.kIn, ?_⟩
  have R1 : Rel X.K G ι Y S H1 := gr.rel R T1 fun Q' hQ => by
    obtain ⟨qs, a1, a2⟩ := R.gens Q' hQ
    exact ⟨qs, by rw [gr.1 Q' (fun z => hgn (z ▸ hQ)) (by rw [a1]; simp)]; exact a1, a2⟩
  have rs1 := rs.evo (gr.evo ι)
  have pp1 := Post.evo pp (gr.evo ι)
  have told : LamX.TTold X.K CS e (fun E H' Q' => tE X.K G f (fun cls d _ H => E cls d H) σ H' Q') H1 Q := by
    refine ⟨ι, Y, S, σd, R1, rs1, ?_⟩
    have pp1 : Post X.K G Y ι H1 (toldW e (f σd S)) Q (L2.WE W σ) := pp1
    cases er : f σd S with
    | ok w S1 => rw [er] at pp1; exact pp1
    | bad => rw [er] at pp1; exact pp1.elim
    | exc c S1 =>
      rw [er] at pp1
      by_cases hce : c = e
      · have pp1 : Post X.K G Y ι H1 (if c = e then .ok (.str e) S1 else .bad) Q (L2.WE W σ) := pp1
        rw [if_pos hce] at pp1
        subst hce
        exact ⟨CS, h15, fun ι' H' ev R' => ⟨true, h16, fun _ => pp1 ι' H' _ ev R' (.str c), fun z => by cases z⟩⟩
      · have pp1 : Post X.K G Y ι H1 (if c = e then .ok (.str e) S1 else .bad) Q (L2.WE W σ) := pp1
        rw [if_neg hce] at pp1
        exact pp1.elim
  have hG : LamX.GivesTo X Ng x sg g cdv _ a (X.env.qual ++ "<lambda>") (LamX.TTold X.K CS e) := LamX.told_gives (p1 := p1) (p2 := p2) (p3 := p3) (p4 := p4) (p5 := p5) (p6 := p6) (p7 := p7) (p8 := p8) (j := j) h12 h13 h14 fun f => rfl
  have rc : codeAny (model X.prog X.w) X.A (.call (.ref g) ⟨[.ref fa], []⟩) (CR C8.CX0 X.stack X.prog X.w H1 s' Q C8.E0) s' := by
    refine LamX.run_ofS (N := Ng) (ps := [a]) (us := [.ref fa]) (vs := [.ref fa]) h3 h4 h6 hroom I1.env0 (h5 s' [.ref fa] I1.kIn rfl) (.cons rfl .nil) rfl fun hr' => ?_
    obtain ⟨t', ht', hq'⟩ := hG fa c' s' H1 Q (fun E H' Q' => tE X.K G f (fun cls d _ H => E cls d H) σ H' Q') (fun W' pn xe E q1 q2 tk hW => LamX.pe_act (i := 0) I1 L hf hfn hfr rfl tk hW hr' (fun A outer s H hr2 => hbody _ _ rfl (C.lam hL hr2)) h7 h8 h9 h10) hco told
    exact ⟨t', ht'.nox, hq'⟩
  refine wpAny_call (codeAny_mono rc fun r s2 hq => ?_)
  cases r with
  | error e => exact (show False from hq).elim
  | ok fl =>
    cases fl with
    | ret u => exact I1.after hq
    | next => exact False.elim hq
    | brk => exact False.elim hq
    | cont => exact False.elim hq

/-! ### a lambda that captures nothing, kept and told later -/
theorem closed_clo {cells : List (Str × Addr)} : ∀ {names : List (Str × NameKind)} {acc : List (Str × Addr)}, (∀ y ∈ names, y.2 ≠ .free) → cloFrom cells names acc = acc
  | [], _, _ => rfl
  | (n, k) :: r, acc, h => by
    unfold cloFrom
    have hk : (k == NameKind.free) = false := beq_false_of_ne (h (n, k) List.mem_cons_self)
    rw [hk]
    exact closed_clo fun y hy => h y (List.mem_cons_of_mem _ hy)
structure Closed (scope : Scope) : Prop where
  kind : scope.kind = .function
  co : scope.isCoroutine = false
  gen : scope.isGenerator = false
  no : ∀ y ∈ scope.names, y.2 ≠ .local ∧ y.2 ≠ .cell ∧ y.2 ≠ .free
theorem closed_by {scope : Scope} (h : closedB scope = true) : Closed scope := by
  unfold closedB at h
  simp only [Bool.and_eq_true, Bool.not_eq_true', decide_eq_true_eq, decide_eq_false_iff_not, List.all_eq_true] at h
  obtain ⟨h1, h2, h3, h4⟩ := h
  exact ⟨h1, h2, h3, h4⟩
theorem e_lam (C : XOk X G T cl lv N sc fn .lam W) {k : Nat} {params : Arguments} {body : Expr} {scope : Scope} {pos : Pos} (h : T.lamc k (.Lambda params body scope pos) = true) :
    PE X (.Lambda params body scope pos) (tE X.K G (fun _ S => .ok (.ref S.length) (S ++ [.lam k])) W) := by
  obtain ⟨params', body', scope', p', e, hp, hcl, hB⟩ := C.g.lamc k _ h
  cases e
  obtain ⟨cc, P, hcode, TB, hmT, hu, hgn, hroom⟩ := C.kd
  have cs := closed_by hcl
  have hpa := noArgs_eq hp
  refine ⟨fun pins s σ H Q I h => ?_⟩
  obtain ⟨ι, Y, S, σd, R, rs, pp⟩ := h
  have hdef : defaultsOf params X.env = ([], []) := by rw [hpa]; rfl
  refine lam_make4 (fun f c' h => LamAt G k f c' (X.env.qual ++ "<lambda>") h) (fun f c' pm ctv h e => ⟨params, body, scope, pm, ctv, hp, hcl, hB, by rw [e, closed_clo fun y hy => (cs.no y hy).2.2]⟩) (fun f c' h1 h2 ⟨a1, a2, a3, a4, a5, b1, b2, b3, b4⟩ st => ⟨a1, a2, a3, a4, a5, b1, b2, b3, st _ b4⟩)
    I TB hcode hmT hu R.tabs hdef (fun y hy z => absurd z (cs.no y hy).2.2) fun f c' H1 s' I1 gr T1 hfn hco => ?_
  have R1 : Rel X.K G ι Y S H1 := gr.rel R T1 fun Q' hQ => by
    obtain ⟨qs, a1, a2⟩ := R.gens Q' hQ
    exact ⟨qs, by rw [gr.1 Q' (fun z => hgn (z ▸ hQ)) (by rw [a1]; simp)]; exact a1, a2⟩
  have fc : Free ι Y c' := by
    have nof : c' ≠ f := fun z => by rw [z, hfn] at hco; cases hco
    have hok := I1.hok c' _ (by rw [upd_ne nof]; exact hco)
    obtain ⟨⟨oc, vs, t, g1, g2, g3⟩, _, _⟩ := hok
    refine ⟨fun y => ?_, fun i z => ?_⟩
    · obtain ⟨o, y1, y2⟩ := R1.yt c' y
      rw [hco] at y1
      cases y1
      exact y2
    · obtain ⟨so, hso⟩ : ∃ so, S[i]? = some so := ⟨_, List.getElem?_eq_getElem (R1.lt i c' z)⟩
      obtain ⟨a, ho, b1, b2, b3⟩ := R1.obj i so hso
      rw [z] at b1
      cases b1
      rw [hco] at b2
      have b2 := Option.some.inj b2
      cases b3 with
      | @lam k2 c2 q2 b5 b6 =>
        have z := I1.hok c' (.ext (LamAt G k2 c' c2 q2)) (by rw [upd_ne nof, hco, b2])
        obtain ⟨hl, _, _⟩ := z
        obtain ⟨_, _, _, _, _, _, _, _, g4⟩ := hl
        rw [g1] at g4
        cases g4
        cases g2
      | lst _ => unfold LamX.CodeO at b2; cases b2
      | dct _ => unfold LamX.CodeO at b2; cases b2
      | ins _ _ => unfold LamX.CodeO at b2; cases b2
  have E2 := (gr.evo ι).trans (evo_ext R1 hfn (o := .ext (LamAt G k f c' (X.env.qual ++ "<lambda>"))))
  exact ⟨.ref f, _, I1, rfl, pp _ _ _ E2 (R1.push hfn (.lam hco fc)) (.ref (by unfold ext; rw [if_pos rfl]))⟩
theorem toldW_post {K : PySem.W.Frag} {Y : Addr → Prop} {ι : Io} {H : Hp} {r : Res} {Q : VK} {E : XK} {e : Str} {CS : Addr} (hc : G.cls e = some CS) (hx : PySem.W.exmOne K (.ref CS) (.ref CS) = some true) (p : Post K G Y ι H (toldW e r) Q E) :
    Post K G Y ι H r Q (fun cls _ H' => ∃ b, PySem.W.exmOne K cls (.ref CS) = some b ∧ (b = true → Q (.str e) H') ∧ (b = false → False)) := by
  cases r with
  | ok w S1 => exact p
  | bad => exact p.elim
  | exc c S1 =>
    have p : Post K G Y ι H (if c = e then .ok (.str e) S1 else .bad) Q E := p
    by_cases hce : c = e
    · rw [if_pos hce] at p
      subst hce
      exact ⟨CS, hc, fun ι' H' ev R' => ⟨true, hx, fun _ => p ι' H' _ ev R' (.str c), fun z => by cases z⟩⟩
    · rw [if_neg hce] at p
      exact p.elim
/-- a(), a the def's own argument, a lambda that captures nothing -/
theorem act_lam {Z : Cx} {lv : Nat} {cl : Clr} {k : Nat} {c f : Addr} {q a : Str} {E : XK} {W' : WX} {p1 p2 : Pos} (hK : Room lv Z.A)
    (hl : ∀ (A : Around) (outer : List Env) (s : Shared) (H : Hp) (Q : VK) (E : XK), Room lv A → Env0 Z.prog Z.w Z.K Z.mg Z.base A outer s H → H f = some (.ext (LamAt G k f c q)) → H c = some (LamX.CodeO c q) → spC Z.K G (cl (lamName k)) [] H Q E →
      codeAny (model Z.prog Z.w) A (.call (.ref f) ⟨[], []⟩) (CR (CX Z.prog Z.w) outer Z.prog Z.w H s Q E) s)
    (tk : Takes Z W') (hW : ∀ cls d σ' H', E cls d H' → W' cls d σ' H') (hN : Z.N[0]? = some a) (hv : Vis Z.env.scope a) (hd : (a == ("__debug__" : Str)) = false) (hcd : (a == ("__classdict__" : Str)) = false) :
    PE Z (.Call (.Name a p1) [] [] p2) (fun σZ HZ Q => σZ[0]? = some (some (.ref f)) ∧ HZ c = some (LamX.CodeO c q) ∧ HZ f = some (.ext (LamAt G k f c q)) ∧ spC Z.K G (cl (lamName k)) [] HZ Q E) := by
  refine ⟨fun pinsZ sZ σZ HZ Q IZ h => ?_⟩
  obtain ⟨hs, hc, hf, hsp⟩ := h
  refine wpAny_Call_Name_kw (thn ((pe_var (pos := p1) (i := 0) hN hv hd hcd).run pinsZ sZ σZ HZ (fun v H1 => v = .ref f ∧ H1 = HZ) IZ ⟨.ref f, hs, rfl, rfl⟩) fun u s1 ⟨v, H1, I1, r1, q1⟩ => ?_)
  obtain ⟨ev, eH⟩ := q1
  subst ev
  rw [eH] at I1
  obtain rfl : u = Value.ref f := r1
  obtain ⟨⟨params, body, scope, pm, ctv, _, _, _, of1⟩, _, _⟩ := I1.hok f _ hf
  refine PySem.W.callWith_F0 ⟨_, _, _, _, of1⟩ ?_
  have rc := hl Z.A Z.stack s1 HZ Q E hK I1.env0 hf hc hsp
  have hx : Passes (CX Z.prog Z.w) Z E := passes_call tk hW
  refine wpAny_call (codeAny_mono rc fun r s' hq => ?_)
  cases r with
  | error e => exact hx pinsZ σZ HZ s1 e s' I1 hq
  | ok fl =>
    cases fl with
    | ret u => exact I1.after hq
    | next => exact False.elim hq
    | brk => exact False.elim hq
    | cont => exact False.elim hq
theorem e_toldV {kd : Kd} (C : XOk X G T cl lv N sc fn kd W) {f : Sl → Sto → Res} {x e : Str} {p pos : Pos} {b : Expr} (hx : isGl sc x = true) (ht : (x, e) ∈ T.tolds) (hs : noStar b = true) (ha : PE X b (tE X.K G f W)) :
    PE X (.Call (.Name x p) [b] [] pos) (tE X.K G (fun σ S => (f σ S).bind fun w S => match w with
      | .ref i => (match S[i]? with
        | some (.lam k) => toldW e (cl (lamName k) [] S)
        | _ => .bad)
      | _ => .bad) W) := by
  obtain ⟨gl, d, nn⟩ := C.gl hx
  obtain ⟨a, g, CS, pg, bg, sg, dV, kV, doc, pm, cdv, ct, oc, an, od, osl, Ng, j, p1, p2, p3, p4, p5, p6, p7, p8, h1, h2, h3, h4, h5, h6, h7, h8, h9, h10, rfl, h12, h13, h14, h15, h16⟩ := C.g.tolds x e ht
  refine ⟨fun pins s σ H Q I h => ?_⟩
  obtain ⟨ι, Y, S, σd, R, rs, pp⟩ := h
  refine wpAny_Call_Name_kw (ld_glob I gl h1 ?_ d)
  have se := starEach_cons (es := []) (env := X.env) hs
  have hq : tCons (tE X.K G f W) tNil σ H (fun vs H1 => ∃ (ι1 : Io) (S1 : Sto) (fa c' : Addr) (q : Str) (k : Nat), vs = [.ref fa] ∧ Rel X.K G ι1 Y S1 H1 ∧ H1 fa = some (.ext (LamAt G k fa c' q)) ∧ H1 c' = some (LamX.CodeO c' q) ∧ Post X.K G Y ι1 H1 (toldW e (cl (lamName k) [] S1)) Q (L2.WE W σ)) := by
    refine ⟨ι, Y, S, σd, R, rs, pp.bind.mono ?_ idE⟩
    rintro v H' ⟨ι1, w, S1, e1, R1, r1, q1⟩
    cases w with
    | ref i =>
      have q1 : Post X.K G Y ι1 H' (match S1[i]? with | some (.lam k) => toldW e (cl (lamName k) [] S1) | _ => .bad) Q (L2.WE W σ) := q1
      cases hS : S1[i]? with
      | none => rw [hS] at q1; exact q1.elim
      | some so =>
        rw [hS] at q1
        cases so with
        | lam k =>
          cases r1 with
          | ref hi =>
            obtain ⟨a', ho, b1, b2, b3⟩ := R1.obj i _ hS
            rw [hi] at b1
            cases b1
            cases b3 with
            | lam b5 b6 => exact ⟨ι1, S1, _, _, _, k, rfl, R1, b2, b5, q1⟩
        | _ => exact q1.elim
    | _ => exact q1.elim
  refine PySem.W.callWith_K (h₀ := X.base) I.ok.mod.kin h2 (thn ((pa_cons ha pa_nil se).run pos pins s σ H _ I hq) fun us s1 hh => ?_) se (by rfl)
  obtain ⟨vs, H1, I1, rv, ι1, S1, fa, c', q, k, rfl, R1, hf, hco, pq⟩ := hh
  refine ⟨I1.kIn, ?_⟩
  cases rv with
  | cons ru rn =>
    cases rn
    obtain rfl : _ = Value.ref fa := ru
    show wpAny _ _ (call (.ref g) [.ref fa]) _ _ _
    have told : LamX.TTold X.K CS e (fun E HZ Q' => HZ fa = some (.ext (LamAt G k fa c' q)) ∧ spC X.K G (cl (lamName k)) [] HZ Q' E) H1 Q := ⟨hf, ι1, Y, S1, [], R1, .nil, toldW_post h15 h16 pq⟩
    have hG : LamX.GivesTo X Ng x sg g cdv _ a q (LamX.TTold X.K CS e) := LamX.told_gives (p1 := p1) (p2 := p2) (p3 := p3) (p4 := p4) (p5 := p5) (p6 := p6) (p7 := p7) (p8 := p8) (j := j) h12 h13 h14 fun f => rfl
    have rc : codeAny (model X.prog X.w) X.A (.call (.ref g) ⟨[.ref fa], []⟩) (CR C8.CX0 X.stack X.prog X.w H1 s1 Q C8.E0) s1 := by
      refine LamX.run_ofS (N := Ng) (ps := [a]) (us := [.ref fa]) (vs := [.ref fa]) h3 h4 h6 C.room I1.env0 (h5 s1 [.ref fa] I1.kIn rfl) (.cons rfl .nil) rfl fun hr' => ?_
      obtain ⟨t', ht', hq'⟩ := hG fa c' s1 H1 Q _ (fun W' pn xe E q1 q2 tk hW => act_lam (Z := (cxOf C8.CX0 X.prog X.w X.K X.mg X.base Ng x sg g cdv X.A X.stack s1 H1 C8.E0).tr pn xe) (lv := lv) (cl := cl) (hr'.mono (Nat.le_succ _)) (fun A outer s H Q E => C.g.lams k A outer s H fa c' q Q E) tk hW h7 h8 h9 h10) hco told
      exact ⟨t', ht'.nox, hq'⟩
    refine wpAny_call (codeAny_mono rc fun r s2 hq => ?_)
    cases r with
    | error e => exact (show False from hq).elim
    | ok fl =>
      cases fl with
      | ret u => exact I1.after hq
      | next => exact False.elim hq
      | brk => exact False.elim hq
      | cont => exact False.elim hq
end
end Dy

end
section
set_option Elab.async false
set_option linter.all false
set_option maxRecDepth 100000
set_option maxHeartbeats 400000
/-! Dz, part X: generator expressions. -/
namespace Dy
open PySem PySem.Spec PyProof.Rows L2

/-- a generator expression's scope -/
def gxB (N : List Str) (sc : List (Str × NameKind)) (scope : Scope) (own : List (Str × Nat)) : Bool :=
  decide (scope.kind = .function) && (!scope.isCoroutine && (decide (scope.names.lookup (".0" : Str) = some NameKind.local) && ((scope.names.all fun y => !decide (y.2 = .cell) && (!decide (y.2 = .free) || (decide (sc.lookup y.1 = some .cell) || decide (sc.lookup y.1 = some .free)))) &&
    (List.range N.length).all fun i => match N[i]? with
      | some x => !decide (scope.names.lookup x = some .local) || (own.map (·.2)).contains i
      | none => true)))
theorem gxB_by {N : List Str} {sc scope : Scope} {own : List (Str × Nat)} (h : gxB N sc.names scope own = true) : Gx.GOk N sc scope own := by
  unfold gxB at h
  simp only [Bool.and_eq_true, Bool.not_eq_true', decide_eq_true_eq, decide_eq_false_iff_not, List.all_eq_true, Bool.or_eq_true] at h
  obtain ⟨h1, h2, h3, h4, h5⟩ := h
  refine ⟨h1, h2, h3, fun y hy => (h4 y hy).1, fun y hy e => (h4 y hy).2.elim (fun z => absurd e z) id, fun i x hi hl => ?_⟩
  have hlt : i < N.length := (List.getElem?_eq_some_iff.mp hi).1
  have q := h5 i (List.mem_range.mpr hlt)
  rw [hi] at q
  have q : (!decide (scope.names.lookup x = some NameKind.local) || (own.map (·.2)).contains i) = true := q
  rw [hl] at q
  have q : (own.map (·.2)).contains i = true := by simpa using q
  simpa using q
section
variable {X : Cx} {G : Glob} {T : GT} {cl : Clr} {lv : Nat} {N : List Str} {sc : List (Str × NameKind)} {fn : Str → Bool} {kd : Kd} {W : WX} {scope : Scope} {own : List (Str × Nat)}
theorem XOk.gxOk (C : XOk X G T cl lv N sc fn kd W) (h : gxB N sc scope own = true) : Gx.GOk X.N X.env.scope scope own := by
  rw [C.hN]
  exact gxB_by (by rw [C.sc]; exact h)
theorem XOk.gx (C : XOk X G T cl lv N sc fn kd W) (h : gxB N sc scope own = true) {A : Around} {s : Shared} {H : Hp} {code : Value} {fp : List Addr} (hr : Room (lv + 2) (A.deeper (Gx.gEnv X scope s.heap.objs.size code))) :
    XOk (Gx.gxCx X A s H scope code fp) G T cl lv N scope.names (fun _ => false) .no (fun _ _ _ _ => False) where
  g := C.g
  hN := C.hN
  nd := C.nd
  kind := (C.gxOk h).kind
  sc := rfl
  fn := rfl
  calm := rfl
  room := hr
  tk := LamX.takes0
  kd := trivial
/-- the turns of a generator expression, from the evaluator's run: PP of what is left, what has come, the store -/
theorem gxTurns {g : Tg} {vs : List Nat} {fc fe : Sl → Sto → Res} {tt : TT} {σ : L2.St} {σd : Sl} {J : It} {items : List Wv} {ι1 : Io} {Y : Addr → Prop} {S1 : Sto} {H1 : Hp} {Yd : List V → V → Hp → Prop} {Go : V → Prop} {cont : List V → Hp → Prop} (PP : List Wv → List Wv → Sto → Prop)
    (hg : inOwn vs g = true) (ht : TtOk X G tt fc) (hz : items.length ≤ sizeLine) (R1 : Rel X.K G ι1 Y S1 H1) (rs : RepS X.K H1 ι1 Y σd σ) (w : WalkOk X.K ι1 Y H1 J items) (h0 : PP items [] S1)
    (step : ∀ x xs acc S', PP (x :: xs) acc S' → (∃ S'', lcF g fc fe (wipeW σd vs) x S' = .ok (.lst []) S'' ∧ PP xs acc S'') ∨ ∃ y S'', lcF g fc fe (wipeW σd vs) x S' = .ok (.lst [y]) S'' ∧
      (∀ ι' H' ys yv, Evo ι1 H1 ι' H' → Rel X.K G ι' Y S'' H' → RepL X.K H' ι' Y acc ys → RepV X.K H' ι' Y y yv → Yd ys yv H') ∧ (∀ ι' H' yv, RepV X.K H' ι' Y y yv → Go yv → PP xs (acc ++ [y]) S''))
    (end_ : ∀ acc S' ι' H' ys, PP [] acc S' → Evo ι1 H1 ι' H' → Rel X.K G ι' Y S' H' → RepL X.K H' ι' Y acc ys → cont ys H') :
    Gx.Turns J (tgT X.K g) tt (tE X.K G fe (fun _ _ _ _ => False)) (L2.wipe σ vs) vs Yd Go H1 cont := by
  obtain ⟨Gd, Yy, wk, hG, hT⟩ := w.turn (G := G)
  refine ⟨fun i m ys H' => m = items.length - i ∧ i ≤ items.length ∧ ∃ (ι' : Io) (S' : Sto) (acc : List Wv), Evo ι1 H1 ι' H' ∧ Rel X.K G ι' Y S' H' ∧ RepL X.K H' ι' Y acc ys ∧ acc.length ≤ i ∧ PP (items.drop i) acc S', ⟨_, rfl, Nat.zero_le _, ι1, S1, [], Evo.refl _ _, R1, .nil, Nat.le_refl _, h0⟩, ?_⟩
  rintro i m ys H' ⟨rfl, hi, ι', S', acc, ev, R', ra, hl, pp⟩
  by_cases hlt : i < items.length
  · refine .inr ⟨wk.goes i H' hlt (hG ι' H' ev), fun ys' H3 => ∃ (ι3 : Io) (S3 : Sto) (acc3 : List Wv), Evo ι1 H1 ι3 H3 ∧ Rel X.K G ι3 Y S3 H3 ∧ RepL X.K H3 ι3 Y acc3 ys' ∧ acc3.length ≤ i + 1 ∧ PP (items.drop (i + 1)) acc3 S3, fun ys' H3 ⟨ι3, S3, acc3, a1, a2, a3, a4, a5⟩ => ⟨items.length - (i + 1), by omega, rfl, hlt, ι3, S3, acc3, a1, a2, a3, a4, a5⟩, fun x H'' yl => ?_⟩
    obtain ⟨w, hw, ey, R'', rwv⟩ := hT Y (.inl rfl) ι' H' S' i x H'' hlt ev R' (wk.yields i H' x H'' hlt (hG ι' H' ev) yl)
    have ed : items.drop i = w :: items.drop (i + 1) := by
      rw [List.drop_eq_getElem_cons hlt]
      rw [List.getElem?_eq_getElem hlt] at hw
      cases hw; rfl
    rw [ed] at pp
    have ev2 := ev.trans ey
    have rsw : RepS X.K H'' ι' Y (wipeW σd vs) (L2.wipe σ vs) := ((rs.evo ev2).wipe vs)
    rcases step w _ acc S' pp with ⟨S'', eF, pp2⟩ | ⟨y, S'', eF, hY, hGo⟩
    · obtain ⟨σ', S2, ha, hcase⟩ := lcF_ok eF
      rcases hcase with ⟨y, hc, he, hh⟩ | ⟨hc, rfl, _⟩
      · cases hh
      · refine asgG vs g w x _ σ' _ _ hg ha rwv rsw fun σ2 rs2 ag => ⟨wipe_agree ag, ?_⟩
        refine ht σ2 H'' _ ι' Y S' σ' false S'' R'' rs2 hc fun ι3 H3 e3 R3 => ?_
        rw [if_neg Bool.false_ne_true]
        exact ⟨ι3, S'', acc, ev2.trans e3, R3, (ra.evo ey).evo e3, Nat.le_succ_of_le hl, pp2⟩
    · obtain ⟨σ', S2, ha, hcase⟩ := lcF_ok eF
      rcases hcase with ⟨y', hc, he, hh⟩ | ⟨_, _, hh⟩
      · cases hh
        refine asgG vs g w x _ σ' _ _ hg ha rwv rsw fun σ2 rs2 ag => ⟨wipe_agree ag, ?_⟩
        refine ht σ2 H'' _ ι' Y S' σ' true S2 R'' rs2 hc fun ι3 H3 e3 R3 => ?_
        rw [if_pos rfl]
        refine ⟨ι3, Y, S2, σ', R3, rs2.evo e3, ?_⟩
        rw [he]
        intro ι4 H4 yv e4 R4 r4
        have e34 := ey.trans (e3.trans e4)
        have ra4 := ra.evo e34
        refine ⟨?_, hY ι4 H4 ys yv (ev.trans e34) R4 ra4 r4, fun go => ⟨ι4, S'', acc ++ [y], ev.trans e34, R4, ra4.append (.cons r4 .nil), ?_, hGo ι4 H4 yv r4 go⟩⟩
        · rw [← ra.length]; omega
        · rw [List.length_append]; exact Nat.succ_le_succ hl
      · cases hh
  · have e : i = items.length := by omega
    subst e
    rw [List.drop_length] at pp
    exact .inl ⟨wk.stops H' (hG ι' H' ev), end_ acc S' ι' H' ys pp ev R' ra⟩
/-- the reading of a generator expression, from the evaluator's -/
theorem gxW (C : XOk X G T cl lv N sc fn kd W) {P : Addr} {g : Tg} {vs : List Nat} {fi fc fe : Sl → Sto → Res} {tt : TT} {σ : L2.St} {σd : Sl} {H : Hp} {ι : Io} {Y : Addr → Prop} {S : Sto} {E : XK} {Yd : List V → V → Hp → Prop} {Go : V → Prop} {cont : List V → Hp → Prop} (hP : P ∈ G.gens) (hd : ∀ p ∈ G.tabs, p.1 ≠ P)
    (hg : inOwn vs g = true) (ht : TtOk X G tt fc) (R : Rel X.K G ι Y S H) (rs : RepS X.K H ι Y σd σ) {QQ : List Wv → Sto → Io → Hp → Prop}
    (hi : match fi σd S with
      | .ok x S1 => (match itW x with
        | some items => ∀ ι1 H1, Evo ι H ι1 H1 → Rel X.K G ι1 Y S1 H1 → QQ items S1 ι1 H1
        | none => False)
      | .exc c S1 => ∃ C, G.cls c = some C ∧ ∀ ι' H', Evo ι H ι' H' → Rel X.K G ι' Y S1 H' → L2.WE W σ (.ref C) none H'
      | .bad => False)
    (hq : ∀ items S1 ι1 H1 J, QQ items S1 ι1 H1 → items.length ≤ sizeLine → Evo ι H ι1 H1 → Rel X.K G ι1 Y S1 H1 → RepS X.K H1 ι1 Y σd σ → WalkOk X.K ι1 Y H1 J items → Gx.Turns J (tgT X.K g) tt (tE X.K G fe (fun _ _ _ _ => False)) (L2.wipe σ vs) vs Yd Go H1 cont) :
    Gx.tGx P (tI X.K G (fun σ S => (fi σ S).bind itK) W) (tgT X.K g) tt (tE X.K G fe (fun _ _ _ _ => False)) vs σ H Yd Go cont := by
  refine ⟨ι, Y, S, σd, R, rs, ?_⟩
  show PostI X.K G Y ι H ((fi σd S).bind itK) _ _
  cases e : fi σd S with
  | exc c S1 => rw [e] at hi; exact hi
  | bad => rw [e] at hi; exact hi.elim
  | ok x S1 =>
    rw [e] at hi
    have hi : (match itW x with | some items => ∀ ι1 H1, Evo ι H ι1 H1 → Rel X.K G ι1 Y S1 H1 → QQ items S1 ι1 H1 | none => False) := hi
    show PostI X.K G Y ι H (itK x S1) _ _
    cases hx : itW x with
    | none => rw [hx] at hi; exact hi.elim
    | some items =>
      rw [hx] at hi
      have ek : itK x S1 = .ok (.lst items) S1 := by unfold itK; rw [hx]
      have hz := itK_len ek
      rw [ek]
      intro ι1 H1 J e1 R1 w1
      refine ⟨R1.gens P hP, fun H2 tb => ?_⟩
      obtain ⟨gr, R2⟩ := tabbed_rel R1 hP hd tb
      have e2 := gr.evo ι1
      refine hq items S1 ι1 H2 J (hi ι1 H2 (e1.trans e2) R2) hz (e1.trans e2) R2 ((rs.evo e1).evo e2) ?_
      rcases w1 with ⟨xs, Gd, a1, a2, a3⟩ | ⟨as, bs, xs, ys, Gd, a1, a2, a3, a4, a5, a6⟩
      · exact .inl ⟨xs, Gd, a1, a2.evo e2, fun ι' H' ev => a3 ι' H' (e2.trans ev)⟩
      · exact .inr ⟨as, bs, xs, ys, Gd, a1, a2.evo e2, a3.evo e2, a4, a5, fun ι' H' ev => a6 ι' H' (e2.trans ev)⟩
end
end Dy

end
section
set_option Elab.async false
set_option linter.all false
set_option maxRecDepth 100000
set_option maxHeartbeats 400000
/-! Dz, part Y: what takes a generator expression. -/
namespace Dy
open PySem PySem.Spec PyProof.Rows L2

def guN : GU → Str
  | .tup => "tuple"
  | .sum => "sum"
  | .any => "any"
  | .all => "all"
def gnN : GN → Str
  | .lst => "list"
  | .srt => "sorted"
theorem lcLoop_step (F : Wv → Sto → Res) (x : Wv) (xs acc : List Wv) (S : Sto) : lcLoop F (x :: xs) acc S = .bad ∨ ∃ ys S', F x S = .ok (.lst ys) S' ∧ lcLoop F (x :: xs) acc S = lcLoop F xs (acc ++ ys) S' := by
  have e : lcLoop F (x :: xs) acc S = (match F x S with | .ok (.lst ys) S' => lcLoop F xs (acc ++ ys) S' | _ => .bad) := rfl
  rw [e]
  cases h : F x S with
  | ok w S' =>
    cases w with
    | lst ys => exact .inr ⟨ys, S', rfl, rfl⟩
    | _ => exact .inl rfl
  | exc c S' => exact .inl rfl
  | bad => exact .inl rfl
theorem anyLoop_step (b : Bool) (F : Wv → Sto → Res) (x : Wv) (xs : List Wv) (S : Sto) : anyLoop b F (x :: xs) S = .bad ∨ (∃ S', F x S = .ok (.lst []) S' ∧ anyLoop b F (x :: xs) S = anyLoop b F xs S') ∨ ∃ r S', F x S = .ok (.lst [.bl r]) S' ∧ anyLoop b F (x :: xs) S = if r = b then .ok (.bl b) S' else anyLoop b F xs S' := by
  have e : anyLoop b F (x :: xs) S = (match F x S with | .ok (.lst []) S' => anyLoop b F xs S' | .ok (.lst [.bl r]) S' => if r = b then .ok (.bl b) S' else anyLoop b F xs S' | _ => .bad) := rfl
  rw [e]
  cases h : F x S with
  | ok w S' =>
    cases w with
    | lst ys =>
      match ys with
      | [] => exact .inr (.inl ⟨S', rfl, rfl⟩)
      | [y] =>
        cases y with
        | bl r => exact .inr (.inr ⟨r, S', rfl, rfl⟩)
        | _ => exact .inl rfl
      | a :: _ :: _ => cases a <;> exact .inl rfl
    | _ => exact .inl rfl
  | exc c S' => exact .inl rfl
  | bad => exact .inl rfl
/-- what one turn adds -/
theorem lcF_01 {g : Tg} {fc fe : Sl → Sto → Res} {σw : Sl} {x : Wv} {S S' : Sto} {ys : List Wv} (e : lcF g fc fe σw x S = .ok (.lst ys) S') : ys = [] ∨ ∃ y, ys = [y] := by
  obtain ⟨_, _, _, h⟩ := lcF_ok (show lcF g fc fe σw x S = .ok (.lst ys) S' from e)
  rcases h with ⟨y, _, _, rfl⟩ | ⟨_, _, rfl⟩
  · exact .inr ⟨y, rfl⟩
  · exact .inl rfl
theorem ints_V {K : PySem.W.Frag} {H : Hp} {ι : Io} {Y : Addr → Prop} : ∀ {ws : List Wv} {vs : List V} {ns ms : List Int}, RepL K H ι Y ws vs → intsW ws = some ns → vs = ms.map V.int → ns = ms := by
  intro ws vs ns ms r e ev
  rw [intsW_map e] at r
  have h := r.ints
  rw [ev] at h
  clear r e ev
  induction ms generalizing ns with
  | nil => cases ns with
    | nil => rfl
    | cons _ _ => exact nomatch h
  | cons m ms ih => cases ns with
    | nil => exact nomatch h
    | cons n ns =>
      have h1 := List.cons.inj h
      cases h1.1
      exact congrArg _ (ih h1.2)
section
variable {X : Cx} {G : Glob} {T : GT} {cl : Clr} {lv : Nat} {N : List Str} {sc : List (Str × NameKind)} {fn : Str → Bool} {W : WX} {scope : Scope} {own : List (Str × Nat)} {g : Tg} {fi fc fe : Sl → Sto → Res} {tt : TT} {elt tg iter : Expr} {ifs : List Expr} {p gpos pos : Pos}
def gxR (g : Tg) (fi fc fe : Sl → Sto → Res) (vs : List Nat) (K : (Wv → Sto → Res) → List Wv → Sto → Res) : Sl → Sto → Res := fun σ S => (fi σ S).bind fun x S => match itW x with
  | some items => K (lcF g fc fe (wipeW σ vs)) items S
  | none => .bad
/-- the parts of a generator expression, in its frame -/
def GxE (X : Cx) (G : Glob) (T : GT) (cl : Clr) (lv : Nat) (N : List Str) (scope : Scope) (elt tg : Expr) (ifs : List Expr) (g : Tg) (tt : TT) (fe : Sl → Sto → Res) : Prop :=
  ∀ X' : Cx, X'.K = X.K → XOk X' G T cl lv N scope.names (fun _ => false) .no (fun _ _ _ _ => False) → PG X' tg (tgT X.K g) ∧ PTs X' ifs tt ∧ PE X' elt (tE X.K G fe (fun _ _ _ _ => False))
theorem XOk.gxH (C : XOk X G T cl lv N sc fn .gen W) (h : gxB N sc scope own = true) (hn : noLst iter = true) (hi : PI X tg iter (tI X.K G (fun σ S => (fi σ S).bind itK) W)) (pa : GxE X G T cl lv N scope elt tg ifs g tt fe) :
    ∃ P c, P ∈ G.gens ∧ (∀ p ∈ G.tabs, p.1 ≠ P) ∧ Gx.GxH X (lv + 2) P c elt tg iter ifs scope own (tI X.K G (fun σ S => (fi σ S).bind itK) W) (tgT X.K g) tt (tE X.K G fe (fun _ _ _ _ => False)) := by
  obtain ⟨c, P, hc, TB, hP, hd, hr⟩ := C.kd
  refine ⟨P, c, hP, hd, ⟨hr, TB, hc, C.gxOk h, hi, noGen hn, fun A s H code fp r => ?_⟩⟩
  exact pa _ rfl (C.gx h r)
variable {ι : Io} {Y : Addr → Prop} {S : Sto} {σd : Sl} {σ : L2.St} {H : Hp} {Q : VK} {E : XK} {vs : List Nat} {K : (Wv → Sto → Res) → List Wv → Sto → Res}
theorem hi_of (p : Post X.K G Y ι H (gxR g fi fc fe vs K σd S) Q (L2.WE W σ)) : match fi σd S with
      | .ok x S1 => (match itW x with
        | some items => ∀ ι1 H1, Evo ι H ι1 H1 → Rel X.K G ι1 Y S1 H1 → Post X.K G Y ι1 H1 (K (lcF g fc fe (wipeW σd vs)) items S1) Q (L2.WE W σ)
        | none => False)
      | .exc c S1 => ∃ C, G.cls c = some C ∧ ∀ ι' H', Evo ι H ι' H' → Rel X.K G ι' Y S1 H' → L2.WE W σ (.ref C) none H'
      | .bad => False := by
  unfold gxR at p
  cases e : fi σd S with
  | exc c S1 => rw [e] at p; exact p
  | bad => rw [e] at p; exact p.elim
  | ok x S1 =>
    rw [e] at p
    have p : Post X.K G Y ι H (match itW x with | some items => K (lcF g fc fe (wipeW σd vs)) items S1 | none => .bad) Q (L2.WE W σ) := p
    show (match itW x with | some items => _ | none => _)
    cases hx : itW x with
    | none => rw [hx] at p; exact p.elim
    | some items => rw [hx] at p; exact fun ι1 H1 e1 _ => p.evo e1
theorem hi_ofN (p : PostN X.K G Y ι H (gxR g fi fc fe vs K σd S) Q (L2.WE W σ)) : match fi σd S with
      | .ok x S1 => (match itW x with
        | some items => ∀ ι1 H1, Evo ι H ι1 H1 → Rel X.K G ι1 Y S1 H1 → PostN X.K G Y ι1 H1 (K (lcF g fc fe (wipeW σd vs)) items S1) Q (L2.WE W σ)
        | none => False)
      | .exc c S1 => ∃ C, G.cls c = some C ∧ ∀ ι' H', Evo ι H ι' H' → Rel X.K G ι' Y S1 H' → L2.WE W σ (.ref C) none H'
      | .bad => False := by
  unfold gxR at p
  cases e : fi σd S with
  | exc c S1 => rw [e] at p; exact p
  | bad => rw [e] at p; exact p.elim
  | ok x S1 =>
    rw [e] at p
    have p : PostN X.K G Y ι H (match itW x with | some items => K (lcF g fc fe (wipeW σd vs)) items S1 | none => .bad) Q (L2.WE W σ) := p
    show (match itW x with | some items => _ | none => _)
    cases hx : itW x with
    | none => rw [hx] at p; exact p.elim
    | some items => rw [hx] at p; exact fun ι1 H1 e1 _ => p.evo e1
/-- the turns of lcLoop -/
theorem lcStep {PP : Res → Prop} (hb : ¬ PP .bad) {k : Wv → Sto → Res} {F : Wv → Sto → Res} (hF : F = lcF g fc fe (wipeW σd vs)) {Yd : List V → V → Hp → Prop} {Go : V → Prop} {H1 : Hp} {ι1 : Io} (hYd : ∀ ys y H', Yd ys y H') (x : Wv) (xs acc : List Wv) (S' : Sto) (p : PP ((lcLoop F (x :: xs) acc S').bind k)) :
    (∃ S'', lcF g fc fe (wipeW σd vs) x S' = .ok (.lst []) S'' ∧ PP ((lcLoop F xs acc S'').bind k)) ∨ ∃ y S'', lcF g fc fe (wipeW σd vs) x S' = .ok (.lst [y]) S'' ∧
      (∀ ι' H' ys yv, Evo ι1 H1 ι' H' → Rel X.K G ι' Y S'' H' → RepL X.K H' ι' Y acc ys → RepV X.K H' ι' Y y yv → Yd ys yv H') ∧ (∀ ι' H' yv, RepV X.K H' ι' Y y yv → Go yv → PP ((lcLoop F xs (acc ++ [y]) S'').bind k)) := by
  subst hF
  rcases lcLoop_step (lcF g fc fe (wipeW σd vs)) x xs acc S' with e | ⟨ys, S'', eF, e⟩
  · rw [e] at p; exact absurd p hb
  · rw [e] at p
    rcases lcF_01 eF with rfl | ⟨y, rfl⟩
    · rw [List.append_nil] at p
      exact .inl ⟨S'', eF, p⟩
    · exact .inr ⟨y, S'', eF, fun _ _ _ _ _ _ _ _ => hYd _ _ _, fun _ _ _ _ _ => p⟩
theorem e_gxTup (C : XOk X G T cl lv N sc fn .gen W) (hx : isGl sc "tuple" = true) (hb : T.bis.contains "tuple" = true) (hS : gxB N sc scope own = true) (hg : inOwn (own.map (·.2)) g = true) (hn : noLst iter = true) (ht : TtOk X G tt fc)
    (hi : PI X tg iter (tI X.K G (fun σ S => (fi σ S).bind itK) W)) (pa : GxE X G T cl lv N scope elt tg ifs g tt fe) :
    PE X (.Call (.Name "tuple" p) [.GeneratorExp elt [⟨tg, iter, ifs, 0⟩] scope gpos] [] pos) (tE X.K G (gxR g fi fc fe (own.map (·.2)) (gxK .tup)) W) := by
  obtain ⟨gl, d, nn⟩ := C.gl hx
  obtain ⟨P, c, hP, hd, GH⟩ := C.gxH hS hn hi pa
  refine (Gx.pe_tupG GH gl (C.g.bis _ hb) rfl nn d).imp fun σ H Q q => ?_
  obtain ⟨ι, Y, S, σd, R, rs, q⟩ := q
  refine gxW (E := fun _ _ _ => False) C hP hd hg ht R rs (hi_of q) fun items S1 ι1 H1 J pp hz e1 R1 rs1 w1 => ?_
  refine gxTurns (fun rest acc S' => Post X.K G Y ι1 H1 ((lcLoop (lcF g fc fe (wipeW σd (own.map (·.2)))) rest acc S').bind fun w S => match w with | .lst ys => .ok (.tup ys) S | _ => .bad) Q (L2.WE W σ)) hg ht hz R1 rs1 w1 pp (fun x xs acc S' p => lcStep (PP := fun r => Post X.K G Y ι1 H1 r Q (L2.WE W σ)) (fun z => z.elim) rfl (fun _ _ _ => trivial) x xs acc S' p) fun acc S' ι' H' ys p ev R' ra => ?_
  exact Post.newT (p.evo ev) R' ra
theorem e_gxSum (C : XOk X G T cl lv N sc fn .gen W) (hx : isGl sc "sum" = true) (hb : T.bis.contains "sum" = true) (hS : gxB N sc scope own = true) (hg : inOwn (own.map (·.2)) g = true) (hn : noLst iter = true) (ht : TtOk X G tt fc)
    (hi : PI X tg iter (tI X.K G (fun σ S => (fi σ S).bind itK) W)) (pa : GxE X G T cl lv N scope elt tg ifs g tt fe) :
    PE X (.Call (.Name "sum" p) [.GeneratorExp elt [⟨tg, iter, ifs, 0⟩] scope gpos] [] pos) (tE X.K G (gxR g fi fc fe (own.map (·.2)) (gxK .sum)) W) := by
  obtain ⟨gl, d, nn⟩ := C.gl hx
  obtain ⟨P, c, hP, hd, GH⟩ := C.gxH hS hn hi pa
  refine (Gx.pe_sumG GH gl (C.g.bis _ hb) rfl nn d).imp fun σ H Q q => ?_
  obtain ⟨ι, Y, S, σd, R, rs, q⟩ := q
  refine gxW (E := fun _ _ _ => False) C hP hd hg ht R rs (hi_of q) fun items S1 ι1 H1 J pp hz e1 R1 rs1 w1 => ?_
  generalize hF : lcF g fc fe (wipeW σd (own.map (·.2))) = F at pp
  have mono : ∀ (rest acc : List Wv) (S' S2 : Sto) (ys : List Wv), lcLoop F rest acc S' = .ok (.lst ys) S2 → ∃ zs, ys = acc ++ zs := by
    intro rest
    induction rest with
    | nil => intro acc S' S2 ys e; cases e; exact ⟨[], (List.append_nil _).symm⟩
    | cons x xs ih =>
      intro acc S' S2 ys e
      rcases lcLoop_step F x xs acc S' with h | ⟨us, S'', _, h⟩
      · rw [h] at e; cases e
      · rw [h] at e
        obtain ⟨zs, rfl⟩ := ih _ _ _ _ e
        exact ⟨us ++ zs, by rw [List.append_assoc]⟩
  have allInt : ∀ {as bs : List Wv} {ns : List Int}, intsW (as ++ bs) = some ns → ∀ y ∈ as, ∃ n, y = .int n := by
    intro as bs ns e y hy
    have h := intsW_map e
    have : y ∈ ns.map Wv.int := by rw [← h]; exact List.mem_append.mpr (.inl hy)
    obtain ⟨n, _, e⟩ := List.mem_map.mp this
    exact ⟨n, e.symm⟩
  refine gxTurns (fun rest acc S' => Post X.K G Y ι1 H1 ((lcLoop F rest acc S').bind fun w S => match w with | .lst ys => (match intsW ys with | some ns => .ok (.int ns.sum) S | none => .bad) | _ => .bad) Q (L2.WE W σ)) hg ht hz R1 rs1 w1 pp (fun x xs acc S' p => ?_) fun acc S' ι' H' ys p ev R' ra => ?_
  · rcases lcLoop_step F x xs acc S' with e | ⟨us, S'', eF, e⟩
    · rw [e] at p; exact p.elim
    · rw [e] at p
      rw [← hF] at eF
      rcases lcF_01 eF with rfl | ⟨y, rfl⟩
      · rw [List.append_nil] at p
        exact .inl ⟨S'', eF, p⟩
      · refine .inr ⟨y, S'', eF, fun ι' H' ys yv _ _ _ ry => ?_, fun _ _ _ _ _ => p⟩
        cases hl : lcLoop F xs (acc ++ [y]) S'' with
        | exc c S2 =>
          exfalso
          have : ∀ (rest acc : List Wv) (S' S2 : Sto) (c : Str), lcLoop F rest acc S' ≠ .exc c S2 := by
            intro rest
            induction rest with
            | nil => intro acc S' S2 c e; cases e
            | cons x xs ih =>
              intro acc S' S2 c e
              rcases lcLoop_step F x xs acc S' with h | ⟨us, S'', _, h⟩
              · rw [h] at e; cases e
              · rw [h] at e; exact ih _ _ _ _ e
          exact this _ _ _ _ _ hl
        | bad => rw [hl] at p; exact p.elim
        | ok w S2 =>
          rw [hl] at p
          cases w with
          | lst ys2 =>
            obtain ⟨zs, rfl⟩ := mono _ _ _ _ _ hl
            have p : Post X.K G Y ι1 H1 (match intsW (acc ++ [y] ++ zs) with | some ns => .ok (.int ns.sum) S2 | none => .bad) Q (L2.WE W σ) := p
            cases hi2 : intsW (acc ++ [y] ++ zs) with
            | none => rw [hi2] at p; exact p.elim
            | some ns =>
              obtain ⟨n, rfl⟩ := allInt hi2 y (List.mem_append.mpr (.inr (List.mem_singleton.mpr rfl)))
              exact ⟨n, ry.int_eq⟩
          | _ => exact p.elim
  · intro ms em
    have p : Post X.K G Y ι1 H1 (match intsW acc with | some ns => .ok (.int ns.sum) S' | none => .bad) Q (L2.WE W σ) := p
    cases hi2 : intsW acc with
    | none => rw [hi2] at p; exact p.elim
    | some ns =>
      rw [hi2] at p
      cases ints_V ra hi2 em
      exact p ι' H' _ ev R' (.int _)
theorem e_gxAny (C : XOk X G T cl lv N sc fn .gen W) (hx : isGl sc "any" = true) (hb : T.bis.contains "any" = true) (hS : gxB N sc scope own = true) (hg : inOwn (own.map (·.2)) g = true) (hn : noLst iter = true) (ht : TtOk X G tt fc)
    (hi : PI X tg iter (tI X.K G (fun σ S => (fi σ S).bind itK) W)) (pa : GxE X G T cl lv N scope elt tg ifs g tt fe) :
    PE X (.Call (.Name "any" p) [.GeneratorExp elt [⟨tg, iter, ifs, 0⟩] scope gpos] [] pos) (tE X.K G (gxR g fi fc fe (own.map (·.2)) (gxK .any)) W) := by
  obtain ⟨gl, d, nn⟩ := C.gl hx
  obtain ⟨P, c, hP, hd, GH⟩ := C.gxH hS hn hi pa
  refine (Gx.pe_anyG GH gl (C.g.bis _ hb) rfl nn d).imp fun σ H Q q => ?_
  obtain ⟨ι, Y, S, σd, R, rs, q⟩ := q
  refine gxW (E := fun _ _ _ => False) C hP hd hg ht R rs (hi_of q) fun items S1 ι1 H1 J pp hz e1 R1 rs1 w1 => ?_
  generalize hF : lcF g fc fe (wipeW σd (own.map (·.2))) = F at pp
  refine gxTurns (fun rest _ S' => Post X.K G Y ι1 H1 (anyLoop true F rest S') Q (L2.WE W σ)) hg ht hz R1 rs1 w1 pp (fun x xs acc S' p => ?_) fun acc S' ι' H' ys p ev R' ra => ?_
  · rcases anyLoop_step true F x xs S' with e | ⟨S'', eF, e⟩ | ⟨r, S'', eF, e⟩
    · rw [e] at p; exact p.elim
    · rw [e] at p; rw [← hF] at eF
      exact .inl ⟨S'', eF, p⟩
    · rw [e] at p; rw [← hF] at eF
      refine .inr ⟨.bl r, S'', eF, fun ι' H' ys yv ev R' _ ry => ⟨r, ry.bl_eq, fun hr => ?_⟩, fun ι' H' yv ry go => ?_⟩
      · subst hr
        rw [if_pos rfl] at p
        exact p ι' H' _ ev R' (.bl _)
      · have h := ry.bl_eq
        rw [go] at h
        cases h
        rw [if_neg Bool.false_ne_true] at p
        exact p
  · exact p ι' H' _ ev R' (.bl _)
theorem e_gxAll (C : XOk X G T cl lv N sc fn .gen W) (hx : isGl sc "all" = true) (hb : T.bis.contains "all" = true) (hS : gxB N sc scope own = true) (hg : inOwn (own.map (·.2)) g = true) (hn : noLst iter = true) (ht : TtOk X G tt fc)
    (hi : PI X tg iter (tI X.K G (fun σ S => (fi σ S).bind itK) W)) (pa : GxE X G T cl lv N scope elt tg ifs g tt fe) :
    PE X (.Call (.Name "all" p) [.GeneratorExp elt [⟨tg, iter, ifs, 0⟩] scope gpos] [] pos) (tE X.K G (gxR g fi fc fe (own.map (·.2)) (gxK .all)) W) := by
  obtain ⟨gl, d, nn⟩ := C.gl hx
  obtain ⟨P, c, hP, hd, GH⟩ := C.gxH hS hn hi pa
  refine (Gx.pe_allG GH gl (C.g.bis _ hb) rfl nn d).imp fun σ H Q q => ?_
  obtain ⟨ι, Y, S, σd, R, rs, q⟩ := q
  refine gxW (E := fun _ _ _ => False) C hP hd hg ht R rs (hi_of q) fun items S1 ι1 H1 J pp hz e1 R1 rs1 w1 => ?_
  generalize hF : lcF g fc fe (wipeW σd (own.map (·.2))) = F at pp
  refine gxTurns (fun rest _ S' => Post X.K G Y ι1 H1 (anyLoop false F rest S') Q (L2.WE W σ)) hg ht hz R1 rs1 w1 pp (fun x xs acc S' p => ?_) fun acc S' ι' H' ys p ev R' ra => ?_
  · rcases anyLoop_step false F x xs S' with e | ⟨S'', eF, e⟩ | ⟨r, S'', eF, e⟩
    · rw [e] at p; exact p.elim
    · rw [e] at p; rw [← hF] at eF
      exact .inl ⟨S'', eF, p⟩
    · rw [e] at p; rw [← hF] at eF
      refine .inr ⟨.bl r, S'', eF, fun ι' H' ys yv ev R' _ ry => ⟨r, ry.bl_eq, fun hr => ?_⟩, fun ι' H' yv ry go => ?_⟩
      · subst hr
        rw [if_pos rfl] at p
        exact p ι' H' _ ev R' (.bl _)
      · have h := ry.bl_eq
        rw [go] at h
        cases h
        rw [if_neg (by decide)] at p
        exact p
  · exact p ι' H' _ ev R' (.bl _)
/-- of tuple, sum, any, all -/
theorem e_gx (u : GU) (C : XOk X G T cl lv N sc fn .gen W) (hx : isGl sc (guN u) = true) (hb : T.bis.contains (guN u) = true) (hS : gxB N sc scope own = true) (hg : inOwn (own.map (·.2)) g = true) (hn : noLst iter = true) (ht : TtOk X G tt fc)
    (hi : PI X tg iter (tI X.K G (fun σ S => (fi σ S).bind itK) W)) (pa : GxE X G T cl lv N scope elt tg ifs g tt fe) :
    PE X (.Call (.Name (guN u) p) [.GeneratorExp elt [⟨tg, iter, ifs, 0⟩] scope gpos] [] pos) (tE X.K G (gxR g fi fc fe (own.map (·.2)) (gxK u)) W) := by
  cases u
  · exact e_gxTup C hx hb hS hg hn ht hi pa
  · exact e_gxSum C hx hb hS hg hn ht hi pa
  · exact e_gxAny C hx hb hS hg hn ht hi pa
  · exact e_gxAll C hx hb hS hg hn ht hi pa
theorem bind_id (r : Res) : r.bind Res.ok = r := by cases r <;> rfl
theorem n_gn (u : GN) (C : XOk X G T cl lv N sc fn .gen W) (hx : isGl sc (gnN u) = true) (hb : T.bis.contains (gnN u) = true) (hS : gxB N sc scope own = true) (hg : inOwn (own.map (·.2)) g = true) (hn : noLst iter = true) (ht : TtOk X G tt fc)
    (hi : PI X tg iter (tI X.K G (fun σ S => (fi σ S).bind itK) W)) (pa : GxE X G T cl lv N scope elt tg ifs g tt fe) :
    PE X (.Call (.Name (gnN u) p) [.GeneratorExp elt [⟨tg, iter, ifs, 0⟩] scope gpos] [] pos) (tN X.K G (gxR g fi fc fe (own.map (·.2)) (gnK u)) W) := by
  obtain ⟨gl, d, nn⟩ := C.gl hx
  obtain ⟨P, c, hP, hd, GH⟩ := C.gxH hS hn hi pa
  cases u with
  | lst =>
    refine (Gx.pe_lstG GH gl (C.g.bis _ hb) rfl nn d).imp fun σ H Q q => ?_
    obtain ⟨ι, Y, S, σd, R, rs, q⟩ := q
    refine gxW (E := fun _ _ _ => False) C hP hd hg ht R rs (hi_ofN q) fun items S1 ι1 H1 J pp hz e1 R1 rs1 w1 => ?_
    refine gxTurns (fun rest acc S' => PostN X.K G Y ι1 H1 ((lcLoop (lcF g fc fe (wipeW σd (own.map (·.2)))) rest acc S').bind Res.ok) Q (L2.WE W σ)) hg ht hz R1 rs1 w1 (by rw [bind_id]; exact pp) (fun x xs acc S' p => lcStep (PP := fun r => PostN X.K G Y ι1 H1 r Q (L2.WE W σ)) (fun z => z.elim) rfl (fun _ _ _ => trivial) x xs acc S' p) fun acc S' ι' H' ys p ev R' ra => ?_
    exact PostN.newL (p.evo ev) R' ra
  | srt =>
    refine (Gx.pe_sortG GH gl (C.g.bis _ hb) rfl nn d).imp fun σ H Q q => ?_
    obtain ⟨ι, Y, S, σd, R, rs, q⟩ := q
    refine gxW (E := fun _ _ _ => False) C hP hd hg ht R rs (hi_ofN q) fun items S1 ι1 H1 J pp hz e1 R1 rs1 w1 => ?_
    refine gxTurns (fun rest acc S' => PostN X.K G Y ι1 H1 ((lcLoop (lcF g fc fe (wipeW σd (own.map (·.2)))) rest acc S').bind fun w S => match w with | .lst ys => sortW ys S | _ => .bad) Q (L2.WE W σ)) hg ht hz R1 rs1 w1 pp (fun x xs acc S' p => lcStep (PP := fun r => PostN X.K G Y ι1 H1 r Q (L2.WE W σ)) (fun z => z.elim) rfl (fun _ _ _ => trivial) x xs acc S' p) fun acc S' ι' H' ys p ev R' ra => ?_
    exact sort_wanted R' ra (PostN.evo p ev)
end
end Dy

end
section
set_option Elab.async false
set_option linter.all false
set_option maxRecDepth 100000
set_option maxHeartbeats 400000
/-! Dy, part I: the checker of expressions and its soundness. -/
namespace Dy
open PySem PySem.Spec PyProof.Rows L2

abbrev Scn := List (Str × NameKind)
def cstB (w : Wv) (c : Const) : Bool := match w, c with
  | .non, .none => true
  | .bl a, .bool b => decide (a = b)
  | .int a, .int b => decide (a = b)
  | .str a, .str b => decide (a = b)
  | _, _ => false
def isNonC : Expr → Bool
  | .Constant .none _ _ => true
  | _ => false
def yesE : E → Bool
  | .lit (.bl true) => true
  | _ => false
mutual
def chkG (N : List Str) (sc : Scn) (fn : Str → Bool) : Tg → Expr → Bool
  | .nm i, .Name x _ => decide (N[i]? = some x) && isLoc sc fn x
  | .tup ts, .Tuple es _ _ => chkGs N sc fn ts es
  | _, _ => false
def chkGs (N : List Str) (sc : Scn) (fn : Str → Bool) : Tg → List Expr → Bool
  | .nil, [] => true
  | .cons t ts, e :: es => noStar e && chkG N sc fn t e && chkGs N sc fn ts es
  | _, _ => false
end
/-- forms that make a list, a dict -/
def mkE : E → Bool
  | .lst _ => true
  | .lc .. => true
  | .dc .. => true
  | .dd _ => true
  | .bn _ _ => true
  | .gn .. => true
  | _ => false
def isNilE : E → Bool
  | .nil => true
  | _ => false
def isTupT : Expr → Bool
  | .Tuple .. => true
  | _ => false
/-- pairs handed out need a display to take them -/
def itTg (it : E) (tg : Expr) : Bool := match it with
  | .enum _ => isTupT tg
  | _ => true
def plainT : Expr → Bool
  | .BoolOp .. => false
  | .Compare .. => false
  | .UnaryOp .Not _ _ => false
  | .NamedExpr .. => false
  | .IfExp .. => false
  | _ => true
mutual
def chkE (T : GT) (N : List Str) : E → Bool → Scn → (Str → Bool) → Kd → Expr → Bool
  | .var i, _, sc, _, _, x => match x with
    | .Name x _ => decide (N[i]? = some x) && isVis sc x
    | _ => false
  | .lit w, _, _, _, _, x => match x with
    | .Constant c _ _ => cstB w c
    | _ => false
  | .glob y c, _, sc, _, _, x => match x with
    | .Name x _ => decide (y = x) && (isGl sc x && decide (T.cons.lookup x = some c))
    | _ => false
  | .bin o a b, _, sc, fn, kd, x => match x with
    | .BinOp l op r _ => decide (op = bopA o) && (chkE T N a false sc fn kd l && chkE T N b false sc fn kd r)
    | _ => false
  | .neg a, _, sc, fn, kd, x => match x with
    | .UnaryOp .USub l _ => chkE T N a false sc fn kd l
    | _ => false
  | .isN a, _, sc, fn, kd, x => match x with
    | .Compare l [.Is] [r] _ => isNonC r && chkE T N a false sc fn kd l
    | _ => false
  | .notN a, _, sc, fn, kd, x => match x with
    | .Compare l [.IsNot] [r] _ => isNonC r && chkE T N a false sc fn kd l
    | _ => false
  | .cmp o a b, _, sc, fn, kd, x => match x with
    | .Compare l [op] [r] _ => decide (op = copA o) && (decide (copA o ≠ .Is ∧ copA o ≠ .IsNot) && (!behindInMarks (copA o) r && (chkE T N a false sc fn kd l && chkE T N b false sc fn kd r)))
    | _ => false
  | .chain o o' a b c, _, sc, fn, kd, x => match x with
    | .Compare l [op, op'] [m, r] _ => decide (op = copA o ∧ op' = copA o') && (decide ((copA o ≠ .Is ∧ copA o ≠ .IsNot) ∧ copA o' ≠ .Is ∧ copA o' ≠ .IsNot) && (!lastMarks [copA o, copA o'] [m, r] && (chkE T N a false sc fn kd l && (chkE T N b false sc fn kd m && chkE T N c false sc fn kd r))))
    | _ => false
  | .and a b, _, sc, fn, kd, x => match x with
    | .BoolOp .And [l, m] _ => chkE T N a false sc fn kd l && chkE T N b false sc fn kd m
    | .BoolOp .And (l :: m :: n :: rest) pos => chkE T N a false sc fn kd l && chkE T N b false sc fn kd (.BoolOp .And (m :: n :: rest) pos)
    | _ => false
  | .or a b, _, sc, fn, kd, x => match x with
    | .BoolOp .Or [l, m] _ => chkE T N a false sc fn kd l && chkE T N b false sc fn kd m
    | .BoolOp .Or (l :: m :: n :: rest) pos => chkE T N a false sc fn kd l && chkE T N b false sc fn kd (.BoolOp .Or (m :: n :: rest) pos)
    | _ => false
  | .not a, _, sc, fn, kd, x => match x with
    | .UnaryOp .Not l _ => chkE T N a false sc fn kd l
    | _ => false
  | .ite c a b, _, sc, fn, kd, x => match x with
    | .IfExp t l r _ => chkE T N c false sc fn kd t && (chkE T N a false sc fn kd l && chkE T N b false sc fn kd r)
    | _ => false
  | .tup es, _, sc, fn, kd, x => match x with
    | .Tuple as _ _ => chkL T N es sc fn kd as
    | _ => false
  | .lst es, _, sc, fn, kd, x => match x with
    | .List as _ => chkL T N es sc fn kd as
    | _ => false
  | .new es, _, sc, fn, kd, x => match x with
    | .List as _ => chkL T N es sc fn kd as
    | _ => false
  | .nil, _, _, _, _, _ => false
  | .cons _ _, _, _, _, _, _ => false
  | .idx a b, _, sc, fn, kd, x => match x with
    | .Subscript l r _ => noSl r && (chkE T N a false sc fn kd l && chkE T N b false sc fn kd r)
    | _ => false
  | .sl a lo hi, _, sc, fn, kd, x => match x with
    | .Subscript l (.Slice none none none _) _ => noB lo && (noB hi && chkE T N a false sc fn kd l)
    | .Subscript l (.Slice (some r) none none _) _ => !noB lo && (noB hi && (chkE T N a false sc fn kd l && chkE T N lo false sc fn kd r))
    | .Subscript l (.Slice none (some r) none _) _ => noB lo && (!noB hi && (chkE T N a false sc fn kd l && chkE T N hi false sc fn kd r))
    | .Subscript l (.Slice (some r) (some q) none _) _ => !noB lo && (!noB hi && (chkE T N a false sc fn kd l && (chkE T N lo false sc fn kd r && chkE T N hi false sc fn kd q)))
    | _ => false
  | .call f es, _, sc, fn, kd, x => match x with
    | .Call (.Name g _) as [] _ => decide (g = f) && (isGl sc f && (T.fns.contains f && (as.all noStar && chkL T N es sc fn kd as)))
    | _ => false
  | .bi b es, _, sc, fn, kd, x => match x with
    | .Call (.Name g _) as [] _ => decide (g = biN b) && (isGl sc (biN b) && (T.bis.contains (biN b) && (!as.isEmpty && (as.all noStar && chkL T N es sc fn kd as))))
    | _ => false
  | .mi m a es, _, sc, fn, kd, x => match x with
    | .Call (.Attribute o nm p) as [] pos => decide (nm = miN m) && (plainB o && (decide (p.endLine = pos.line) && (decide (as.length < 30) && (!as.isEmpty && (as.all noStar && (chkE T N a false sc fn kd o && chkL T N es sc fn kd as))))))
    | _ => false
  | .rng1 a, it, sc, fn, kd, x => match x with
    | .Call (.Name g _) [l] [] _ => it && (decide (g = "range") && (isGl sc "range" && (T.bis.contains "range" && (noStar l && chkE T N a false sc fn kd l))))
    | _ => false
  | .rng2 a b, it, sc, fn, kd, x => match x with
    | .Call (.Name g _) [l, r] [] _ => it && (decide (g = "range") && (isGl sc "range" && (T.bis.contains "range" && (noStar l && (noStar r && (chkE T N a false sc fn kd l && chkE T N b false sc fn kd r))))))
    | _ => false
  | .rng3 a b c, it, sc, fn, kd, x => match x with
    | .Call (.Name g _) [l, r, m] [] _ => it && (decide (g = "range") && (isGl sc "range" && (T.bis.contains "range" && (noStar l && (noStar r && (noStar m && (chkE T N a false sc fn kd l && (chkE T N b false sc fn kd r && chkE T N c false sc fn kd m))))))))
    | _ => false
  | .enum a, it, sc, fn, kd, x => match x with
    | .Call (.Name g _) [l] [] _ => it && (decide (g = "enumerate") && (isGl sc "enumerate" && (T.bis.contains "enumerate" && (noStar l && chkE T N a false sc fn kd l))))
    | _ => false
  | .obj e, _, sc, fn, kd, x => mkE e && (plainT x && chkE T N e false sc fn kd x)
  | .dd es, _, sc, fn, kd, x => match x with
    | .Dict [] [] _ => isNilE es
    | _ => false
  | .bn b es, _, sc, fn, kd, x => match x with
    | .Call (.Name g _) as [] _ => decide (g = bnN b) && (isGl sc (bnN b) && (T.bis.contains (bnN b) && (!as.isEmpty && (as.all noStar && chkL T N es sc fn kd as))))
    | _ => false
  | .mt m a es, _, sc, fn, kd, x => match x with
    | .Call (.Attribute o nm p) as [] pos => decide (nm = mtN m) && (plainB o && (decide (p.endLine = pos.line) && (decide (as.length < 30) && (!as.isEmpty && (as.all noStar && (chkE T N a false sc fn kd o && chkL T N es sc fn kd as))))))
    | _ => false
  | .gx u g it c e own, _, sc, fn, kd, x => match x with
    | .Call (.Name nm _) [.GeneratorExp elt [⟨tg, iter, ifs, isas⟩] scope _] [] _ => decide (nm = guN u ∧ isas = 0 ∧ kd = .gen) && (isGl sc (guN u) && (T.bis.contains (guN u) && (gxB N sc scope own && (inOwn (own.map (·.2)) g && (noLst iter && (itTg it tg && (chkE T N it true sc fn kd iter && (chkG N scope.names (fun _ => false) g tg &&
        ((match ifs with
          | [] => yesE c
          | [t] => chkE T N c false scope.names (fun _ => false) .no t
          | _ => false) && chkE T N e false scope.names (fun _ => false) .no elt)))))))))
    | _ => false
  | .gn u g it c e own, _, sc, fn, kd, x => match x with
    | .Call (.Name nm _) [.GeneratorExp elt [⟨tg, iter, ifs, isas⟩] scope _] [] _ => decide (nm = gnN u ∧ isas = 0 ∧ kd = .gen) && (isGl sc (gnN u) && (T.bis.contains (gnN u) && (gxB N sc scope own && (inOwn (own.map (·.2)) g && (noLst iter && (itTg it tg && (chkE T N it true sc fn kd iter && (chkG N scope.names (fun _ => false) g tg &&
        ((match ifs with
          | [] => yesE c
          | [t] => chkE T N c false scope.names (fun _ => false) .no t
          | _ => false) && chkE T N e false scope.names (fun _ => false) .no elt)))))))))
    | _ => false
  | .lc g it c e own, _, sc, fn, kd, x => match x with
    | .ListComp elt [⟨tg, iter, ifs, isas⟩] scope _ => decide (isas = 0) && (blkN N sc scope own && (inOwn (own.map (·.2)) g && (noSet iter && ((itTg it tg && chkE T N it true sc fn kd iter) && (chkG N (relN sc scope.names) (blkF scope) g tg &&
        ((match ifs with
          | [] => yesE c
          | [t] => chkE T N c false (relN sc scope.names) (blkF scope) kd t
          | _ => false) && chkE T N e false (relN sc scope.names) (blkF scope) kd elt))))))
    | _ => false
  | .dc g it c k e own, _, sc, fn, kd, x => match x with
    | .DictComp kx elt [⟨tg, iter, ifs, isas⟩] scope _ => decide (isas = 0) && (blkN N sc scope own && (inOwn (own.map (·.2)) g && (noSet iter && ((itTg it tg && chkE T N it true sc fn kd iter) && (chkG N (relN sc scope.names) (blkF scope) g tg &&
        ((match ifs with
          | [] => yesE c
          | [t] => chkE T N c false (relN sc scope.names) (blkF scope) kd t
          | _ => false) && (chkE T N k false (relN sc scope.names) (blkF scope) kd kx && chkE T N e false (relN sc scope.names) (blkF scope) kd elt)))))))
    | _ => false
  | .fmt e, _, sc, fn, kd, x => match x with
    | .FormattedValue v c none _ => decide (c = -1) && chkE T N e false sc fn kd v
    | _ => false
  | .fs es, _, sc, fn, kd, x => match x with
    | .JoinedStr (a :: b :: as) _ => chkL T N es sc fn kd (a :: b :: as)
    | _ => false
  | .anyOut e z y, _, sc, fn, kd, x => match x with
    | .Call (.Name g _) [.GeneratorExp (.Compare (.Name y1 _) [.NotIn] [.Constant (.str z') _ _] _) [⟨.Name y2 _, iter, [], isas⟩] scope _] [] _ =>
      decide (g = "any" ∧ y1 = y ∧ y2 = y ∧ z' = z ∧ isas = 0 ∧ kd = .gen) && (isGl sc "any" && (T.bis.contains "any" && (genB scope y && (okN y && (noLst iter && chkE T N e false sc fn kd iter)))))
    | _ => false
  | .told f y e, _, sc, fn, kd, x => match x with
    | .Call (.Name g _) [.Lambda params body scope _] [] _ => decide (g = f ∧ kd = .lam) && (isGl sc f && (decide ((f, y) ∈ T.tolds) && (lamN sc scope && (noArgs params && chkE T N e false scope.names (fun _ => false) .no body))))
    | _ => false
  | .lam k, _, _, _, kd, x => match x with
    | .Lambda _ _ _ _ => decide (kd = .lam) && T.lamc k x
    | _ => false
  | .toldV f y e, _, sc, fn, kd, x => match x with
    | .Call (.Name g _) [b] [] _ => decide (g = f) && (isGl sc f && (decide ((f, y) ∈ T.tolds) && (noStar b && chkE T N e false sc fn kd b)))
    | _ => false
def chkL (T : GT) (N : List Str) : E → Scn → (Str → Bool) → Kd → List Expr → Bool
  | .nil, _, _, _, as => as.isEmpty
  | .cons e es, sc, fn, kd, as => match as with
    | a :: as => noStar a && (chkE T N e false sc fn kd a && chkL T N es sc fn kd as)
    | [] => false
  | _, _, _, _, _ => false
end

/-! ### soundness -/
/-- a test, whatever its whole is where it may be anything -/
def PTo (X : Cx) (a : Expr) (t : TT) : Prop := PT X a t ∧ ∀ op es pos, a = .BoolOp op es pos → PW X a t
structure SndE (T : GT) (N : List Str) (G : Glob) (cl : Clr) (lv : Nat) (ex : E) : Prop where
  e : ∀ (sc : Scn) (fn : Str → Bool) (kd : Kd) (W : WX) (X : Cx) (a : Expr), XOk X G T cl lv N sc fn kd W → chkE T N ex false sc fn kd a = true → PE X a (tE X.K G (ev cl ex) W)
  t : ∀ (sc : Scn) (fn : Str → Bool) (kd : Kd) (W : WX) (X : Cx) (a : Expr), XOk X G T cl lv N sc fn kd W → chkE T N ex false sc fn kd a = true → PTo X a (tT X.K G (ev cl ex) W)
  i : ∀ (sc : Scn) (fn : Str → Bool) (kd : Kd) (W : WX) (X : Cx) (tg a : Expr), XOk X G T cl lv N sc fn kd W → itTg ex tg = true → chkE T N ex true sc fn kd a = true → PI X tg a (tI X.K G (fun σ S => (ev cl ex σ S).bind itK) W)
  l : ∀ (sc : Scn) (fn : Str → Bool) (kd : Kd) (W : WX) (X : Cx) (as : List Expr), XOk X G T cl lv N sc fn kd W → chkL T N ex sc fn kd as = true → PA X as (tL X.K G (ev cl ex) W) ∧ FsOk X G (ev cl ex) as
  n : ∀ (sc : Scn) (fn : Str → Bool) (kd : Kd) (W : WX) (X : Cx) (a : Expr), XOk X G T cl lv N sc fn kd W → mkE ex = true → chkE T N ex false sc fn kd a = true → PE X a (tN X.K G (ev cl ex) W)
theorem pto_val {X : Cx} {a : Expr} {t : TE} (ha : PE X a t) (hp : plainT a = true) : PTo X a (tB t) := by
  refine ⟨pt_val ha ?_, fun op es pos e => ?_⟩
  · intro whole
    cases a with
    | UnaryOp op x p => cases op <;> first | rfl | cases hp
    | _ => first | rfl | cases hp
  · subst e; cases hp
section
variable {T : GT} {N : List Str} {G : Glob} {cl : Clr} {lv : Nat}
theorem SndE.mk1 {e : E} (he : ∀ (sc : Scn) (fn : Str → Bool) (kd : Kd) (W : WX) (X : Cx) (a : Expr), XOk X G T cl lv N sc fn kd W → chkE T N e false sc fn kd a = true → PE X a (tE X.K G (ev cl e) W))
    (hp : ∀ sc fn kd a, chkE T N e false sc fn kd a = true → plainT a = true) (hf : ∀ sc fn kd a, chkE T N e true sc fn kd a = chkE T N e false sc fn kd a) (hl : ∀ sc fn kd as, chkL T N e sc fn kd as = false) (hm : mkE e = false := by rfl) : SndE T N G cl lv e :=
  ⟨he, fun sc fn kd W X a C h => pto_val (he sc fn kd W X a C h) (hp sc fn kd a h), fun sc fn kd W X tg a C _ h => i_seq (he sc fn kd W X a C (by rw [← hf]; exact h)), fun sc fn kd W X as C h => (by rw [hl] at h; cases h), fun sc fn kd W X a C h _ => by rw [hm] at h; cases h⟩
theorem SndE.mk2 {e : E} (he : ∀ (sc : Scn) (fn : Str → Bool) (kd : Kd) (W : WX) (X : Cx) (a : Expr), XOk X G T cl lv N sc fn kd W → chkE T N e false sc fn kd a = true → PE X a (tE X.K G (ev cl e) W))
    (ht : ∀ (sc : Scn) (fn : Str → Bool) (kd : Kd) (W : WX) (X : Cx) (a : Expr), XOk X G T cl lv N sc fn kd W → chkE T N e false sc fn kd a = true → PTo X a (tT X.K G (ev cl e) W))
    (hf : ∀ sc fn kd a, chkE T N e true sc fn kd a = chkE T N e false sc fn kd a) (hl : ∀ sc fn kd as, chkL T N e sc fn kd as = false) (hm : mkE e = false := by rfl) : SndE T N G cl lv e :=
  ⟨he, ht, fun sc fn kd W X tg a C _ h => i_seq (he sc fn kd W X a C (by rw [← hf]; exact h)), fun sc fn kd W X as C h => (by rw [hl] at h; cases h), fun sc fn kd W X a C h _ => by rw [hm] at h; cases h⟩
theorem SndE.mkN {e : E} (hn : ∀ (sc : Scn) (fn : Str → Bool) (kd : Kd) (W : WX) (X : Cx) (a : Expr), XOk X G T cl lv N sc fn kd W → chkE T N e false sc fn kd a = true → PE X a (tN X.K G (ev cl e) W))
    (hp : ∀ sc fn kd a, chkE T N e false sc fn kd a = true → plainT a = true) (hf : ∀ sc fn kd a, chkE T N e true sc fn kd a = chkE T N e false sc fn kd a) (hl : ∀ sc fn kd as, chkL T N e sc fn kd as = false) : SndE T N G cl lv e :=
  ⟨fun sc fn kd W X a C h => e_ofN (hn sc fn kd W X a C h), fun sc fn kd W X a C h => pto_val (e_ofN (hn sc fn kd W X a C h)) (hp sc fn kd a h), fun sc fn kd W X tg a C _ h => i_seq (e_ofN (hn sc fn kd W X a C (by rw [← hf]; exact h))), fun sc fn kd W X as C h => (by rw [hl] at h; cases h), fun sc fn kd W X a C _ h => hn sc fn kd W X a C h⟩
theorem pt_to {X : Cx} {a : Expr} {t : TT} (h : PT X a t) (n : ∀ op es pos, a ≠ .BoolOp op es pos) : PTo X a t := ⟨h, fun op es pos e => absurd e (n op es pos)⟩
theorem PTo.whole {X : Cx} {a : Expr} {t : TT} (h : PTo X a t) : PT X a t := h.1

theorem snd_var (i : Nat) : SndE T N G cl lv (.var i) := .mk1 (fun sc fn kd W X a C h => by
    unfold chkE at h
    split at h
    · rw [Bool.and_eq_true, decide_eq_true_eq] at h
      exact e_var C h.1 h.2
    · cases h) (fun sc fn kd a h => by unfold chkE at h; split at h <;> first | rfl | cases h) (fun _ _ _ _ => rfl) (fun _ _ _ _ => rfl)
theorem snd_lit (w : Wv) : SndE T N G cl lv (.lit w) := .mk1 (fun sc fn kd W X a C h => by
    unfold chkE at h
    split at h
    · rename_i c j p
      unfold cstB at h
      split at h
      · exact e_lit pe_non fun _ _ _ => .non
      · rw [decide_eq_true_eq] at h; subst h; exact e_lit pe_bl fun _ _ _ => .bl _
      · rw [decide_eq_true_eq] at h; subst h; exact e_lit pe_int fun _ _ _ => .int _
      · rw [decide_eq_true_eq] at h; subst h; exact e_lit pe_str fun _ _ _ => .str _
      · cases h
    · cases h) (fun sc fn kd a h => by unfold chkE at h; split at h <;> first | rfl | cases h) (fun _ _ _ _ => rfl) (fun _ _ _ _ => rfl)
theorem snd_glob (y : Str) (c : Cst) : SndE T N G cl lv (.glob y c) := .mk1 (fun sc fn kd W X a C h => by
    unfold chkE at h
    split at h
    · simp only [Bool.and_eq_true, decide_eq_true_eq] at h
      obtain ⟨rfl, h1, h2⟩ := h
      exact e_glob C h1 h2
    · cases h) (fun sc fn kd a h => by unfold chkE at h; split at h <;> first | rfl | cases h) (fun _ _ _ _ => rfl) (fun _ _ _ _ => rfl)
theorem snd_bin (o : Bop) {a b : E} (ia : SndE T N G cl lv a) (ib : SndE T N G cl lv b) : SndE T N G cl lv (.bin o a b) := .mk1 (fun sc fn kd W X x C h => by
    unfold chkE at h
    split at h
    · simp only [Bool.and_eq_true, decide_eq_true_eq] at h
      obtain ⟨rfl, h1, h2⟩ := h
      exact e_bin o (ia.e sc fn kd W X _ C h1) (ib.e sc fn kd W X _ C h2)
    · cases h) (fun sc fn kd a h => by unfold chkE at h; split at h <;> first | rfl | cases h) (fun _ _ _ _ => rfl) (fun _ _ _ _ => rfl)
theorem snd_neg {a : E} (ia : SndE T N G cl lv a) : SndE T N G cl lv (.neg a) := .mk1 (fun sc fn kd W X x C h => by
    unfold chkE at h
    split at h
    · exact e_neg (ia.e sc fn kd W X _ C h)
    · cases h) (fun sc fn kd a h => by unfold chkE at h; split at h <;> first | rfl | cases h) (fun _ _ _ _ => rfl) (fun _ _ _ _ => rfl)
theorem isNonC_eq {r : Expr} (h : isNonC r = true) : ∃ j p, r = .Constant .none j p := by
  unfold isNonC at h
  split at h
  · exact ⟨_, _, rfl⟩
  · cases h
theorem snd_isN {a : E} (ia : SndE T N G cl lv a) : SndE T N G cl lv (.isN a) := .mk2 (fun sc fn kd W X x C h => by
    unfold chkE at h
    split at h
    · simp only [Bool.and_eq_true] at h
      obtain ⟨h1, h2⟩ := h
      obtain ⟨j, p, rfl⟩ := isNonC_eq h1
      exact e_isN (ia.e sc fn kd W X _ C h2)
    · cases h) (fun sc fn kd W X x C h => by
    unfold chkE at h
    split at h
    · simp only [Bool.and_eq_true] at h
      obtain ⟨h1, h2⟩ := h
      obtain ⟨j, p, rfl⟩ := isNonC_eq h1
      exact pt_to (t_isN (ia.e sc fn kd W X _ C h2)) (fun _ _ _ z => by cases z)
    · cases h) (fun _ _ _ _ => rfl) (fun _ _ _ _ => rfl)
theorem snd_notN {a : E} (ia : SndE T N G cl lv a) : SndE T N G cl lv (.notN a) := .mk2 (fun sc fn kd W X x C h => by
    unfold chkE at h
    split at h
    · simp only [Bool.and_eq_true] at h
      obtain ⟨h1, h2⟩ := h
      obtain ⟨j, p, rfl⟩ := isNonC_eq h1
      exact e_notN (ia.e sc fn kd W X _ C h2)
    · cases h) (fun sc fn kd W X x C h => by
    unfold chkE at h
    split at h
    · simp only [Bool.and_eq_true] at h
      obtain ⟨h1, h2⟩ := h
      obtain ⟨j, p, rfl⟩ := isNonC_eq h1
      exact pt_to (t_notN (ia.e sc fn kd W X _ C h2)) (fun _ _ _ z => by cases z)
    · cases h) (fun _ _ _ _ => rfl) (fun _ _ _ _ => rfl)
theorem cop_ne {o : Cop} (h : copA o ≠ .Is ∧ copA o ≠ .IsNot) : o ≠ .isN ∧ o ≠ .notN := ⟨fun z => h.1 (by rw [z]; rfl), fun z => h.2 (by rw [z]; rfl)⟩
theorem snd_cmp (o : Cop) {a b : E} (ia : SndE T N G cl lv a) (ib : SndE T N G cl lv b) : SndE T N G cl lv (.cmp o a b) := .mk2 (fun sc fn kd W X x C h => by
    unfold chkE at h
    split at h
    · simp only [Bool.and_eq_true, decide_eq_true_eq, Bool.not_eq_true'] at h
      obtain ⟨rfl, h0, h1, h2, h3⟩ := h
      exact e_cmp C o (cop_ne h0).1 (cop_ne h0).2 (ia.e sc fn kd W X _ C h2) (ib.e sc fn kd W X _ C h3) h1
    · cases h) (fun sc fn kd W X x C h => by
    unfold chkE at h
    split at h
    · simp only [Bool.and_eq_true, decide_eq_true_eq, Bool.not_eq_true'] at h
      obtain ⟨rfl, h0, h1, h2, h3⟩ := h
      exact pt_to (t_cmp C o (cop_ne h0).1 (cop_ne h0).2 (ia.e sc fn kd W X _ C h2) (ib.e sc fn kd W X _ C h3) h1) (fun _ _ _ z => by cases z)
    · cases h) (fun _ _ _ _ => rfl) (fun _ _ _ _ => rfl)
theorem snd_chain (o o' : Cop) {a b c : E} (ia : SndE T N G cl lv a) (ib : SndE T N G cl lv b) (ic : SndE T N G cl lv c) : SndE T N G cl lv (.chain o o' a b c) := .mk2 (fun sc fn kd W X x C h => by
    unfold chkE at h
    split at h
    · simp only [Bool.and_eq_true, decide_eq_true_eq, Bool.not_eq_true'] at h
      obtain ⟨⟨rfl, rfl⟩, ⟨h0, h00⟩, h1, h2, h3, h4⟩ := h
      exact e_chain C o o' (cop_ne h0).1 (cop_ne h0).2 (cop_ne h00).1 (cop_ne h00).2 (ia.e sc fn kd W X _ C h2) (ib.e sc fn kd W X _ C h3) (ic.e sc fn kd W X _ C h4) h1
    · cases h) (fun sc fn kd W X x C h => by
    unfold chkE at h
    split at h
    · simp only [Bool.and_eq_true, decide_eq_true_eq, Bool.not_eq_true'] at h
      obtain ⟨⟨rfl, rfl⟩, ⟨h0, h00⟩, h1, h2, h3, h4⟩ := h
      exact pt_to (t_chain C o o' (cop_ne h0).1 (cop_ne h0).2 (cop_ne h00).1 (cop_ne h00).2 (ia.e sc fn kd W X _ C h2) (ib.e sc fn kd W X _ C h3) (ic.e sc fn kd W X _ C h4) h1) (fun _ _ _ z => by cases z)
    · cases h) (fun _ _ _ _ => rfl) (fun _ _ _ _ => rfl)
theorem snd_and {a b : E} (ia : SndE T N G cl lv a) (ib : SndE T N G cl lv b) : SndE T N G cl lv (.and a b) := .mk2 (fun sc fn kd W X x C h => by
    unfold chkE at h
    split at h
    · rw [Bool.and_eq_true] at h
      exact (pe_and (ia.e sc fn kd W X _ C h.1) (pe_one (ib.e sc fn kd W X _ C h.2))).imp fun σ H Q q => andW q
    · rw [Bool.and_eq_true] at h
      exact (pe_and (ia.e sc fn kd W X _ C h.1) (ib.e sc fn kd W X _ C h.2)).imp fun σ H Q q => andW q
    · cases h) (fun sc fn kd W X x C h => by
    unfold chkE at h
    split at h
    · rename_i l m p
      rw [Bool.and_eq_true] at h
      have z : PW X (.BoolOp .And [l, m] p) (tT X.K G (ev cl (.and a b)) W) := (pw_and (ia.t sc fn kd W X _ C h.1).1 (pw_and1 (ib.t sc fn kd W X _ C h.2).1)).imp fun σ H Q q => tandW q
      exact ⟨z.pt, fun _ _ _ e => by cases e; exact z⟩
    · rename_i l m n rest p
      rw [Bool.and_eq_true] at h
      have z : PW X (.BoolOp .And (l :: m :: n :: rest) p) (tT X.K G (ev cl (.and a b)) W) := (pw_and (ia.t sc fn kd W X _ C h.1).1 ((ib.t sc fn kd W X _ C h.2).2 _ _ _ rfl)).imp fun σ H Q q => tandW q
      exact ⟨z.pt, fun _ _ _ e => by cases e; exact z⟩
    · cases h) (fun _ _ _ _ => rfl) (fun _ _ _ _ => rfl)
theorem snd_or {a b : E} (ia : SndE T N G cl lv a) (ib : SndE T N G cl lv b) : SndE T N G cl lv (.or a b) := .mk2 (fun sc fn kd W X x C h => by
    unfold chkE at h
    split at h
    · rw [Bool.and_eq_true] at h
      exact (pe_or (ia.e sc fn kd W X _ C h.1) (pe_one (ib.e sc fn kd W X _ C h.2))).imp fun σ H Q q => orW q
    · rw [Bool.and_eq_true] at h
      exact (pe_or (ia.e sc fn kd W X _ C h.1) (ib.e sc fn kd W X _ C h.2)).imp fun σ H Q q => orW q
    · cases h) (fun sc fn kd W X x C h => by
    unfold chkE at h
    split at h
    · rename_i l m p
      rw [Bool.and_eq_true] at h
      have z : PW X (.BoolOp .Or [l, m] p) (tT X.K G (ev cl (.or a b)) W) := (pw_or (ia.t sc fn kd W X _ C h.1).1 (pw_or1 (ib.t sc fn kd W X _ C h.2).1)).imp fun σ H Q q => torW q
      exact ⟨z.pt, fun _ _ _ e => by cases e; exact z⟩
    · rename_i l m n rest p
      rw [Bool.and_eq_true] at h
      have z : PW X (.BoolOp .Or (l :: m :: n :: rest) p) (tT X.K G (ev cl (.or a b)) W) := (pw_or (ia.t sc fn kd W X _ C h.1).1 ((ib.t sc fn kd W X _ C h.2).2 _ _ _ rfl)).imp fun σ H Q q => torW q
      exact ⟨z.pt, fun _ _ _ e => by cases e; exact z⟩
    · cases h) (fun _ _ _ _ => rfl) (fun _ _ _ _ => rfl)
theorem snd_not {a : E} (ia : SndE T N G cl lv a) : SndE T N G cl lv (.not a) := .mk2 (fun sc fn kd W X x C h => by
    unfold chkE at h
    split at h
    · exact e_not (ia.e sc fn kd W X _ C h)
    · cases h) (fun sc fn kd W X x C h => by
    unfold chkE at h
    split at h
    · exact pt_to (t_not (ia.t sc fn kd W X _ C h).1) (fun _ _ _ z => by cases z)
    · cases h) (fun _ _ _ _ => rfl) (fun _ _ _ _ => rfl)
end
end Dy

end
section
set_option Elab.async false
set_option linter.all false
set_option maxRecDepth 100000
set_option maxHeartbeats 400000
/-! Dy, part J: soundness of expressions, the rest. -/
namespace Dy
open PySem PySem.Spec PyProof.Rows L2
section
variable {T : GT} {N : List Str} {G : Glob} {cl : Clr} {lv : Nat}
theorem pt_ite {X : Cx} {c a b : Expr} {tc ta tb : TT} {pos : Pos} (hc : PT X c tc) (ha : PT X a ta) (hb : PT X b tb) : PT X (.IfExp c a b pos) (fun σ H Q => tc σ H fun k H1 => if k = true then ta σ H1 Q else tb σ H1 Q) := by
  refine ⟨fun pins s σ H Q I h => ?_⟩
  rw [PySem.arm_isTrue_IfExp]
  refine wpAny_bind (thn (hc.run pins s σ H _ I h) fun d s1 ⟨H1, I1, q1⟩ => ?_)
  cases d with
  | true => exact ha.run pins s1 σ H1 Q I1 q1
  | false => exact hb.run pins s1 σ H1 Q I1 q1
theorem snd_ite {c a b : E} (ic : SndE T N G cl lv c) (ia : SndE T N G cl lv a) (ib : SndE T N G cl lv b) : SndE T N G cl lv (.ite c a b) := .mk2 (fun sc fn kd W X x C h => by
    unfold chkE at h
    split at h
    · simp only [Bool.and_eq_true] at h
      obtain ⟨h1, h2, h3⟩ := h
      exact e_ite (ic.t sc fn kd W X _ C h1).1 (ia.e sc fn kd W X _ C h2) (ib.e sc fn kd W X _ C h3)
    · cases h) (fun sc fn kd W X x C h => by
    unfold chkE at h
    split at h
    · simp only [Bool.and_eq_true] at h
      obtain ⟨h1, h2, h3⟩ := h
      refine pt_to ((pt_ite (ic.t sc fn kd W X _ C h1).1 (ia.t sc fn kd W X _ C h2).1 (ib.t sc fn kd W X _ C h3).1).imp fun σ H Q q => ?_) (fun _ _ _ z => by cases z)
      obtain ⟨ι, Y, S, σd, R, rs, p⟩ := q
      have p : Post X.K G Y ι H ((ev cl c σd S).bind fun t S => iteK t (ev cl a σd S) (ev cl b σd S)) _ (L2.WE W σ) := p
      refine ⟨ι, Y, S, σd, R, rs, p.bind.mono ?_ idE⟩
      rintro v H' ⟨ι1, w, S1, e, R1, r1, p1⟩
      cases w with
      | bl t =>
        cases r1.bl_eq
        refine ⟨t, rfl, ?_⟩
        cases t with
        | true => exact ⟨ι1, Y, S1, σd, R1, rs.evo e, p1⟩
        | false => exact ⟨ι1, Y, S1, σd, R1, rs.evo e, p1⟩
      | _ => exact p1.elim
    · cases h) (fun _ _ _ _ => rfl) (fun _ _ _ _ => rfl)
theorem snd_tup {es : E} (ie : SndE T N G cl lv es) : SndE T N G cl lv (.tup es) := .mk1 (fun sc fn kd W X x C h => by
    unfold chkE at h
    split at h
    · exact e_tup (ie.l sc fn kd W X _ C h).1
    · cases h) (fun sc fn kd a h => by unfold chkE at h; split at h <;> first | rfl | cases h) (fun _ _ _ _ => rfl) (fun _ _ _ _ => rfl)
theorem snd_lst {es : E} (ie : SndE T N G cl lv es) : SndE T N G cl lv (.lst es) := .mkN (fun sc fn kd W X x C h => by
    unfold chkE at h
    split at h
    · exact n_lst (ie.l sc fn kd W X _ C h).1
    · cases h) (fun sc fn kd a h => by unfold chkE at h; split at h <;> first | rfl | cases h) (fun _ _ _ _ => rfl) (fun _ _ _ _ => rfl)
theorem snd_new {es : E} (ie : SndE T N G cl lv es) : SndE T N G cl lv (.new es) := .mk1 (fun sc fn kd W X x C h => by
    unfold chkE at h
    split at h
    · exact e_new (ie.l sc fn kd W X _ C h).1
    · cases h) (fun sc fn kd a h => by unfold chkE at h; split at h <;> first | rfl | cases h) (fun _ _ _ _ => rfl) (fun _ _ _ _ => rfl)
theorem snd_nil : SndE T N G cl lv .nil := by
  refine ⟨fun sc fn kd W X x C h => (by cases h), fun sc fn kd W X x C h => (by cases h), fun sc fn kd W X tg x C _ h => (by cases h), fun sc fn kd W X as C h => ?_, fun sc fn kd W X x C h => (by cases h)⟩
  unfold chkL at h
  cases as with
  | nil => exact ⟨a_nil, fs_nil⟩
  | cons _ _ => cases h
theorem snd_cons {e es : E} (i1 : SndE T N G cl lv e) (i2 : SndE T N G cl lv es) : SndE T N G cl lv (.cons e es) := by
  refine ⟨fun sc fn kd W X x C h => (by cases h), fun sc fn kd W X x C h => (by cases h), fun sc fn kd W X tg x C _ h => (by cases h), fun sc fn kd W X as C h => ?_, fun sc fn kd W X x C h => (by cases h)⟩
  unfold chkL at h
  cases as with
  | nil => cases h
  | cons a as =>
    simp only [Bool.and_eq_true] at h
    obtain ⟨h1, h2, h3⟩ := h
    exact ⟨a_cons h1 (i1.e sc fn kd W X _ C h2) (i2.l sc fn kd W X _ C h3).1, fs_cons (i1.e sc fn kd W X _ C h2) (i2.l sc fn kd W X _ C h3).2⟩
theorem snd_idx {a b : E} (ia : SndE T N G cl lv a) (ib : SndE T N G cl lv b) : SndE T N G cl lv (.idx a b) := .mk1 (fun sc fn kd W X x C h => by
    unfold chkE at h
    split at h
    · simp only [Bool.and_eq_true] at h
      obtain ⟨h1, h2, h3⟩ := h
      exact e_idx (by have := C.units; omega) h1 (ia.e sc fn kd W X _ C h2) (ib.e sc fn kd W X _ C h3)
    · cases h) (fun sc fn kd a h => by unfold chkE at h; split at h <;> first | rfl | cases h) (fun _ _ _ _ => rfl) (fun _ _ _ _ => rfl)
theorem noB_ev {e : E} (h : noB e = true) : ∀ σ S, ev cl e σ S = .ok .non S := by
  unfold noB at h
  split at h
  · intro σ S; rfl
  · cases h
theorem snd_sl {a lo hi : E} (ia : SndE T N G cl lv a) (il : SndE T N G cl lv lo) (ih : SndE T N G cl lv hi) : SndE T N G cl lv (.sl a lo hi) := .mk1 (fun sc fn kd W X x C h => by
    unfold chkE at h
    split at h
    · simp only [Bool.and_eq_true] at h
      obtain ⟨h1, h2, h3⟩ := h
      exact e_sl (bl := noB lo) (bh := noB hi) (ia.e sc fn kd W X _ C h3) (o_b (fun _ => rfl) fun z => by rw [h1] at z; cases z) (o_b (fun _ => rfl) fun z => by rw [h2] at z; cases z) (fun z => noB_ev z) (fun z => noB_ev z)
    · simp only [Bool.and_eq_true, Bool.not_eq_true'] at h
      obtain ⟨h1, h2, h3, h4⟩ := h
      exact e_sl (bl := noB lo) (bh := noB hi) (ia.e sc fn kd W X _ C h3) (o_b (fun z => by rw [h1] at z; cases z) fun _ => ⟨_, rfl, il.e sc fn kd W X _ C h4⟩) (o_b (fun _ => rfl) fun z => by rw [h2] at z; cases z) (fun z => noB_ev z) (fun z => noB_ev z)
    · simp only [Bool.and_eq_true, Bool.not_eq_true'] at h
      obtain ⟨h1, h2, h3, h4⟩ := h
      exact e_sl (bl := noB lo) (bh := noB hi) (ia.e sc fn kd W X _ C h3) (o_b (fun _ => rfl) fun z => by rw [h1] at z; cases z) (o_b (fun z => by rw [h2] at z; cases z) fun _ => ⟨_, rfl, ih.e sc fn kd W X _ C h4⟩) (fun z => noB_ev z) (fun z => noB_ev z)
    · simp only [Bool.and_eq_true, Bool.not_eq_true'] at h
      obtain ⟨h1, h2, h3, h4, h5⟩ := h
      exact e_sl (bl := noB lo) (bh := noB hi) (ia.e sc fn kd W X _ C h3) (o_b (fun z => by rw [h1] at z; cases z) fun _ => ⟨_, rfl, il.e sc fn kd W X _ C h4⟩) (o_b (fun z => by rw [h2] at z; cases z) fun _ => ⟨_, rfl, ih.e sc fn kd W X _ C h5⟩) (fun z => noB_ev z) (fun z => noB_ev z)
    · cases h) (fun sc fn kd a h => by unfold chkE at h; split at h <;> first | rfl | cases h) (fun _ _ _ _ => rfl) (fun _ _ _ _ => rfl)
theorem chkL_nil {es : E} {sc : Scn} {fn : Str → Bool} {kd : Kd} (h : chkL T N es sc fn kd [] = true) : es = .nil := by
  cases es <;> first | rfl | cases h
theorem snd_call (f : Str) {es : E} (ie : SndE T N G cl lv es) : SndE T N G cl lv (.call f es) := .mk1 (fun sc fn kd W X x C h => by
    unfold chkE at h
    split at h
    · rename_i g q as p
      simp only [Bool.and_eq_true, decide_eq_true_eq] at h
      obtain ⟨rfl, h1, h2, h3, h4⟩ := h
      cases as with
      | nil =>
        cases chkL_nil h4
        exact e_call0 C h1 h2
      | cons a as => exact e_call C h1 h2 h3 (ie.l sc fn kd W X _ C h4).1
    · cases h) (fun sc fn kd a h => by unfold chkE at h; split at h <;> first | rfl | cases h) (fun _ _ _ _ => rfl) (fun _ _ _ _ => rfl)
theorem snd_bi (b : BI) {es : E} (ie : SndE T N G cl lv es) : SndE T N G cl lv (.bi b es) := .mk1 (fun sc fn kd W X x C h => by
    unfold chkE at h
    split at h
    · rename_i g q as p
      simp only [Bool.and_eq_true, decide_eq_true_eq] at h
      obtain ⟨rfl, h1, h2, h0, h3, h4⟩ := h
      cases as with
      | nil => cases h0
      | cons a as => exact e_bi C b h1 h2 h3 (ie.l sc fn kd W X _ C h4).1
    · cases h) (fun sc fn kd a h => by unfold chkE at h; split at h <;> first | rfl | cases h) (fun _ _ _ _ => rfl) (fun _ _ _ _ => rfl)
theorem snd_mi (m : MI) {a es : E} (ia : SndE T N G cl lv a) (ie : SndE T N G cl lv es) : SndE T N G cl lv (.mi m a es) := .mk1 (fun sc fn kd W X x C h => by
    unfold chkE at h
    split at h
    · rename_i o nm q as p
      simp only [Bool.and_eq_true] at h
      obtain ⟨h0, h1, h2, h3, h4, h5, h6, h7⟩ := h
      rw [decide_eq_true_eq] at h0 h2
      subst h0
      cases as with
      | nil => cases h4
      | cons x as => exact e_mi m (ia.e sc fn kd W X _ C h6) h1 (by rw [h2]; exact beq_self_eq_true _) h5 h3 (ie.l sc fn kd W X _ C h7).1
    · cases h) (fun sc fn kd a h => by unfold chkE at h; split at h <;> first | rfl | cases h) (fun _ _ _ _ => rfl) (fun _ _ _ _ => rfl)
theorem snd_rng1 {a : E} (ia : SndE T N G cl lv a) : SndE T N G cl lv (.rng1 a) := by
  have no : ∀ sc fn kd x, ¬ chkE T N (.rng1 a) false sc fn kd x = true := fun sc fn kd x h => by
    unfold chkE at h
    split at h
    · rw [Bool.false_and] at h; cases h
    · cases h
  refine ⟨fun sc fn kd W X x C h => absurd h (no _ _ _ _), fun sc fn kd W X x C h => absurd h (no _ _ _ _), fun sc fn kd W X tg x C hg h => ?_, fun sc fn kd W X as C h => (by cases h), fun sc fn kd W X x C h => (by cases h)⟩
  unfold chkE at h
  split at h
  · simp only [Bool.and_eq_true, decide_eq_true_eq] at h
    obtain ⟨_, rfl, h1, h2, h3, h4⟩ := h
    exact i_rng1 C h1 h2 h3 (ia.e sc fn kd W X _ C h4)
  · cases h
theorem snd_rng2 {a b : E} (ia : SndE T N G cl lv a) (ib : SndE T N G cl lv b) : SndE T N G cl lv (.rng2 a b) := by
  have no : ∀ sc fn kd x, ¬ chkE T N (.rng2 a b) false sc fn kd x = true := fun sc fn kd x h => by
    unfold chkE at h
    split at h
    · rw [Bool.false_and] at h; cases h
    · cases h
  refine ⟨fun sc fn kd W X x C h => absurd h (no _ _ _ _), fun sc fn kd W X x C h => absurd h (no _ _ _ _), fun sc fn kd W X tg x C hg h => ?_, fun sc fn kd W X as C h => (by cases h), fun sc fn kd W X x C h => (by cases h)⟩
  unfold chkE at h
  split at h
  · simp only [Bool.and_eq_true, decide_eq_true_eq] at h
    obtain ⟨_, rfl, h1, h2, h3, h4, h5, h6⟩ := h
    exact i_rng2 C h1 h2 h3 h4 (ia.e sc fn kd W X _ C h5) (ib.e sc fn kd W X _ C h6)
  · cases h
theorem snd_rng3 {a b c : E} (ia : SndE T N G cl lv a) (ib : SndE T N G cl lv b) (ic : SndE T N G cl lv c) : SndE T N G cl lv (.rng3 a b c) := by
  have no : ∀ sc fn kd x, ¬ chkE T N (.rng3 a b c) false sc fn kd x = true := fun sc fn kd x h => by
    unfold chkE at h
    split at h
    · rw [Bool.false_and] at h; cases h
    · cases h
  refine ⟨fun sc fn kd W X x C h => absurd h (no _ _ _ _), fun sc fn kd W X x C h => absurd h (no _ _ _ _), fun sc fn kd W X tg x C hg h => ?_, fun sc fn kd W X as C h => (by cases h), fun sc fn kd W X x C h => (by cases h)⟩
  unfold chkE at h
  split at h
  · simp only [Bool.and_eq_true, decide_eq_true_eq] at h
    obtain ⟨_, rfl, h1, h2, h3, h4, h5, h6, h7, h8⟩ := h
    exact i_rng3 C h1 h2 h3 h4 h5 (ia.e sc fn kd W X _ C h6) (ib.e sc fn kd W X _ C h7) (ic.e sc fn kd W X _ C h8)
  · cases h
theorem snd_enum {a : E} (ia : SndE T N G cl lv a) : SndE T N G cl lv (.enum a) := by
  have no : ∀ sc fn kd x, ¬ chkE T N (.enum a) false sc fn kd x = true := fun sc fn kd x h => by
    unfold chkE at h
    split at h
    · rw [Bool.false_and] at h; cases h
    · cases h
  refine ⟨fun sc fn kd W X x C h => absurd h (no _ _ _ _), fun sc fn kd W X x C h => absurd h (no _ _ _ _), fun sc fn kd W X tg x C hg h => ?_, fun sc fn kd W X as C h => (by cases h), fun sc fn kd W X x C h => (by cases h)⟩
  have hg : isTupT tg = true := hg
  unfold chkE at h
  split at h
  · simp only [Bool.and_eq_true, decide_eq_true_eq] at h
    obtain ⟨_, rfl, h1, h2, h3, h4⟩ := h
    cases tg with
    | Tuple es k p => exact i_enum C h1 h2 h3 (ia.e sc fn kd W X _ C h4)
    | _ => cases hg
  · cases h
theorem snd_obj {e : E} (ie : SndE T N G cl lv e) : SndE T N G cl lv (.obj e) := .mk1 (fun sc fn kd W X x C h => by
    unfold chkE at h
    simp only [Bool.and_eq_true] at h
    exact e_objN (ie.n sc fn kd W X x C h.1 h.2.2)) (fun sc fn kd a h => by
    unfold chkE at h
    simp only [Bool.and_eq_true] at h
    exact h.2.1) (fun _ _ _ _ => rfl) (fun _ _ _ _ => rfl)
theorem snd_dd {es : E} : SndE T N G cl lv (.dd es) := .mkN (fun sc fn kd W X x C h => by
    unfold chkE at h
    split at h
    · cases es <;> first | exact n_dd0 | cases h
    · cases h) (fun sc fn kd a h => by unfold chkE at h; split at h <;> first | rfl | cases h) (fun _ _ _ _ => rfl) (fun _ _ _ _ => rfl)
theorem snd_bn (b : BN) {es : E} (ie : SndE T N G cl lv es) : SndE T N G cl lv (.bn b es) := .mkN (fun sc fn kd W X x C h => by
    unfold chkE at h
    split at h
    · rename_i g q as p
      simp only [Bool.and_eq_true, decide_eq_true_eq] at h
      obtain ⟨rfl, h1, h2, h0, h3, h4⟩ := h
      cases as with
      | nil => cases h0
      | cons a as => exact n_bn C b h1 h2 h3 (ie.l sc fn kd W X _ C h4).1
    · cases h) (fun sc fn kd a h => by unfold chkE at h; split at h <;> first | rfl | cases h) (fun _ _ _ _ => rfl) (fun _ _ _ _ => rfl)
theorem snd_mt (m : MT) {a es : E} (ia : SndE T N G cl lv a) (ie : SndE T N G cl lv es) : SndE T N G cl lv (.mt m a es) := .mk1 (fun sc fn kd W X x C h => by
    unfold chkE at h
    split at h
    · rename_i o nm q as p
      simp only [Bool.and_eq_true] at h
      obtain ⟨h0, h1, h2, h3, h4, h5, h6, h7⟩ := h
      rw [decide_eq_true_eq] at h0 h2
      subst h0
      cases as with
      | nil => cases h4
      | cons x as => exact e_mt m (ia.e sc fn kd W X _ C h6) h1 (by rw [h2]; exact beq_self_eq_true _) h5 h3 (ie.l sc fn kd W X _ C h7).1
    · cases h) (fun sc fn kd a h => by unfold chkE at h; split at h <;> first | rfl | cases h) (fun _ _ _ _ => rfl) (fun _ _ _ _ => rfl)
/-! targets -/
mutual
theorem chkG_ok {sc : Scn} {fn : Str → Bool} {kd : Kd} {W : WX} {X : Cx} (C : XOk X G T cl lv N sc fn kd W) : ∀ (g : Tg) (e : Expr), chkG N sc fn g e = true → PG X e (tgT X.K g)
  | .nm i, e, h => by
    cases e with
    | Name x p =>
      have h : (decide (N[i]? = some x) && isLoc sc fn x) = true := h
      rw [Bool.and_eq_true, decide_eq_true_eq] at h
      obtain ⟨l1, l2⟩ := C.loc h.2
      exact pg_name (by rw [C.hN]; exact C.nd) (by rw [C.hN]; exact h.1) l1 l2
    | _ => cases h
  | .tup ts, e, h => by
    cases e with
    | Tuple es k p =>
      obtain ⟨h1, h2, h3⟩ := chkGs_ok C ts es h
      exact pg_tup C.calm h1 h2 h3
    | _ => cases h
  | .nil, e, h => by cases e <;> cases h
  | .cons _ _, e, h => by cases e <;> cases h
theorem chkGs_ok {sc : Scn} {fn : Str → Bool} {kd : Kd} {W : WX} {X : Cx} (C : XOk X G T cl lv N sc fn kd W) : ∀ (g : Tg) (es : List Expr), chkGs N sc fn g es = true → PGs X es (tgTs X.K g) ∧ (assignEach es X.env).length = tgLen g ∧ (assignEach es X.env).findIdx? (·.1) = none
  | .nil, es, h => by
    cases es with
    | nil => exact ⟨pgs_nil, rfl, rfl⟩
    | cons _ _ => cases h
  | .cons t ts, es, h => by
    cases es with
    | nil => cases h
    | cons e es =>
      have h : (noStar e && chkG N sc fn t e && chkGs N sc fn ts es) = true := h
      rw [Bool.and_eq_true, Bool.and_eq_true] at h
      obtain ⟨⟨h1, h2⟩, h3⟩ := h
      obtain ⟨i1, i2, i3⟩ := chkGs_ok C ts es h3
      have ae : assignEach (e :: es) X.env = (false, assign e X.env) :: assignEach es X.env := by
        cases e <;> first | rfl | cases h1
      refine ⟨pgs_cons (chkG_ok C t e h2) i1 (by rw [ae]; rfl), ?_, ?_⟩
      · rw [ae, List.length_cons, i2]; rfl
      · rw [ae, List.findIdx?_cons, i3]; rfl
  | .nm _, es, h => by cases es <;> cases h
  | .tup _, es, h => by cases es <;> cases h
end
theorem yesE_ev {e : E} (h : yesE e = true) : ev cl e = fun _ S => .ok (.bl true) S := by
  unfold yesE at h
  split at h
  · rfl
  · cases h
/-- a clause's tests -/
theorem ifs_ok {c : E} (ic : SndE T N G cl lv c) {sc' : Scn} {fn' : Str → Bool} {kd : Kd} {ifs : List Expr} (h : (match ifs with | [] => yesE c | [t] => chkE T N c false sc' fn' kd t | _ => false) = true) (X : Cx) :
    ∃ tt : TT, TtOk X G tt (ev cl c) ∧ ∀ X' : Cx, X'.K = X.K → XOk X' G T cl lv N sc' fn' kd (fun _ _ _ _ => False) → PTs X' ifs tt := by
  match ifs, h with
  | [], h =>
    rw [yesE_ev h]
    exact ⟨tYes, tt_yes, fun _ _ _ => pts_nil⟩
  | [t], h => exact ⟨tT X.K G (ev cl c) (fun _ _ _ _ => False), tt_one, fun X' e C' => by rw [← e]; exact pts_one (ic.t sc' fn' kd _ X' _ C' h).1⟩
  | _ :: _ :: _, h => cases h
theorem snd_lc (g : Tg) {it c e : E} (own : List (Str × Nat)) (ii : SndE T N G cl lv it) (ic : SndE T N G cl lv c) (ie : SndE T N G cl lv e) : SndE T N G cl lv (.lc g it c e own) := .mkN (fun sc fn kd W X x C h => by
    unfold chkE at h
    split at h
    · rename_i elt tg iter ifs isas scope pos
      simp only [Bool.and_eq_true] at h
      obtain ⟨h0, h1, h2, h3, ⟨h40, h4⟩, h5, h6, h7⟩ := h
      rw [decide_eq_true_eq] at h0
      subst h0
      obtain ⟨tt, ht, hts⟩ := ifs_ok (G := G) (cl := cl) (lv := lv) ic h6 X
      exact n_lc C h1 h2 h3 ht (ii.i sc fn kd W X tg _ C h40 h4) (fun X' eK C' => by rw [← eK]; exact chkG_ok C' g tg h5) hts (fun X' eK C' => by rw [← eK]; exact ie.e _ _ kd _ X' _ C' h7)
    · cases h) (fun sc fn kd a h => by unfold chkE at h; split at h <;> first | rfl | cases h) (fun _ _ _ _ => rfl) (fun _ _ _ _ => rfl)
theorem snd_dc (g : Tg) {it c k e : E} (own : List (Str × Nat)) (ii : SndE T N G cl lv it) (ic : SndE T N G cl lv c) (ik : SndE T N G cl lv k) (ie : SndE T N G cl lv e) : SndE T N G cl lv (.dc g it c k e own) := .mkN (fun sc fn kd W X x C h => by
    unfold chkE at h
    split at h
    · rename_i kx elt tg iter ifs isas scope pos
      simp only [Bool.and_eq_true] at h
      obtain ⟨h0, h1, h2, h3, ⟨h40, h4⟩, h5, h6, h7, h8⟩ := h
      rw [decide_eq_true_eq] at h0
      subst h0
      obtain ⟨tt, ht, hts⟩ := ifs_ok (G := G) (cl := cl) (lv := lv) ic h6 X
      exact n_dc C h1 h2 h3 ht (ii.i sc fn kd W X tg _ C h40 h4) (fun X' eK C' => by rw [← eK]; exact chkG_ok C' g tg h5) hts (fun X' eK C' => by rw [← eK]; exact ik.e _ _ kd _ X' _ C' h7) (fun X' eK C' => by rw [← eK]; exact ie.e _ _ kd _ X' _ C' h8)
    · cases h) (fun sc fn kd a h => by unfold chkE at h; split at h <;> first | rfl | cases h) (fun _ _ _ _ => rfl) (fun _ _ _ _ => rfl)
theorem snd_gx (u : GU) (g : Tg) {it c e : E} (own : List (Str × Nat)) (ii : SndE T N G cl lv it) (ic : SndE T N G cl lv c) (ie : SndE T N G cl lv e) : SndE T N G cl lv (.gx u g it c e own) := .mk1 (fun sc fn kd W X x C h => by
    unfold chkE at h
    split at h
    · rename_i nm p elt tg iter ifs isas scope gp pos
      simp only [Bool.and_eq_true] at h
      obtain ⟨h0, h1, h2, h3, h4, h5, h6, h7, h8, h9, h10⟩ := h
      rw [decide_eq_true_eq] at h0
      obtain ⟨rfl, rfl, rfl⟩ := h0
      obtain ⟨tt, ht, hts⟩ := ifs_ok (G := G) (cl := cl) (lv := lv) ic h9 X
      exact e_gx u C h1 h2 h3 h4 h5 ht (ii.i sc fn .gen W X tg _ C h6 h7) fun X' eK C' => ⟨by rw [← eK]; exact chkG_ok C' g tg h8, hts X' eK C', by rw [← eK]; exact ie.e _ _ .no _ X' _ C' h10⟩
    · cases h) (fun sc fn kd a h => by unfold chkE at h; split at h <;> first | rfl | cases h) (fun _ _ _ _ => rfl) (fun _ _ _ _ => rfl)
theorem snd_gn (u : GN) (g : Tg) {it c e : E} (own : List (Str × Nat)) (ii : SndE T N G cl lv it) (ic : SndE T N G cl lv c) (ie : SndE T N G cl lv e) : SndE T N G cl lv (.gn u g it c e own) := .mkN (fun sc fn kd W X x C h => by
    unfold chkE at h
    split at h
    · rename_i nm p elt tg iter ifs isas scope gp pos
      simp only [Bool.and_eq_true] at h
      obtain ⟨h0, h1, h2, h3, h4, h5, h6, h7, h8, h9, h10⟩ := h
      rw [decide_eq_true_eq] at h0
      obtain ⟨rfl, rfl, rfl⟩ := h0
      obtain ⟨tt, ht, hts⟩ := ifs_ok (G := G) (cl := cl) (lv := lv) ic h9 X
      exact n_gn u C h1 h2 h3 h4 h5 ht (ii.i sc fn .gen W X tg _ C h6 h7) fun X' eK C' => ⟨by rw [← eK]; exact chkG_ok C' g tg h8, hts X' eK C', by rw [← eK]; exact ie.e _ _ .no _ X' _ C' h10⟩
    · cases h) (fun sc fn kd a h => by unfold chkE at h; split at h <;> first | rfl | cases h) (fun _ _ _ _ => rfl) (fun _ _ _ _ => rfl)
theorem snd_fmt {e : E} (ie : SndE T N G cl lv e) : SndE T N G cl lv (.fmt e) := .mk1 (fun sc fn kd W X x C h => by
    unfold chkE at h
    split at h
    · simp only [Bool.and_eq_true, decide_eq_true_eq] at h
      obtain ⟨rfl, h2⟩ := h
      exact e_fmt (ie.e sc fn kd W X _ C h2)
    · cases h) (fun sc fn kd a h => by unfold chkE at h; split at h <;> first | rfl | cases h) (fun _ _ _ _ => rfl) (fun _ _ _ _ => rfl)
theorem snd_fs {es : E} (ie : SndE T N G cl lv es) : SndE T N G cl lv (.fs es) := .mk1 (fun sc fn kd W X x C h => by
    unfold chkE at h
    split at h
    · rename_i a b as p
      exact e_fs (c := a) (ie.l sc fn kd W X _ C h).2
    · cases h) (fun sc fn kd a h => by unfold chkE at h; split at h <;> first | rfl | cases h) (fun _ _ _ _ => rfl) (fun _ _ _ _ => rfl)
theorem snd_anyOut {e : E} (z y : Str) (ie : SndE T N G cl lv e) : SndE T N G cl lv (.anyOut e z y) := .mk1 (fun sc fn kd W X x C h => by
    unfold chkE at h
    split at h
    · simp only [Bool.and_eq_true] at h
      obtain ⟨h0, h1, h2, h3, h4, h5, h6⟩ := h
      rw [decide_eq_true_eq] at h0
      obtain ⟨rfl, rfl, rfl, rfl, rfl, rfl⟩ := h0
      exact e_anyOut C h1 h2 h3 h4 h5 (ie.e sc fn .gen W X _ C h6)
    · cases h) (fun sc fn kd a h => by unfold chkE at h; split at h <;> first | rfl | cases h) (fun _ _ _ _ => rfl) (fun _ _ _ _ => rfl)
theorem snd_told {e : E} (f y : Str) (ie : SndE T N G cl lv e) : SndE T N G cl lv (.told f y e) := .mk1 (fun sc fn kd W X x C h => by
    unfold chkE at h
    split at h
    · simp only [Bool.and_eq_true, decide_eq_true_eq] at h
      obtain ⟨⟨rfl, rfl⟩, h1, h2, h3, h4, h5⟩ := h
      exact e_told C h1 h2 h3 h4 fun X' W' eK C' => by rw [← eK]; exact ie.e _ _ .no W' X' _ C' h5
    · cases h) (fun sc fn kd a h => by unfold chkE at h; split at h <;> first | rfl | cases h) (fun _ _ _ _ => rfl) (fun _ _ _ _ => rfl)
theorem snd_lam (k : Nat) : SndE T N G cl lv (.lam k) := .mk1 (fun sc fn kd W X x C h => by
    unfold chkE at h
    split at h
    · simp only [Bool.and_eq_true, decide_eq_true_eq] at h
      obtain ⟨rfl, h2⟩ := h
      exact e_lam C h2
    · cases h) (fun sc fn kd a h => by unfold chkE at h; split at h <;> first | rfl | cases h) (fun _ _ _ _ => rfl) (fun _ _ _ _ => rfl)
theorem snd_toldV {e : E} (f y : Str) (ie : SndE T N G cl lv e) : SndE T N G cl lv (.toldV f y e) := .mk1 (fun sc fn kd W X x C h => by
    unfold chkE at h
    split at h
    · simp only [Bool.and_eq_true, decide_eq_true_eq] at h
      obtain ⟨rfl, h1, h2, h3, h4⟩ := h
      exact e_toldV C h1 h2 h3 (ie.e sc fn kd W X _ C h4)
    · cases h) (fun sc fn kd a h => by unfold chkE at h; split at h <;> first | rfl | cases h) (fun _ _ _ _ => rfl) (fun _ _ _ _ => rfl)
/-- THE soundness of expressions -/
theorem snd (e : E) : SndE T N G cl lv e := by
  induction e with
  | var i => exact snd_var i
  | lit w => exact snd_lit w
  | glob x c => exact snd_glob x c
  | bin o a b ia ib => exact snd_bin o ia ib
  | neg a ia => exact snd_neg ia
  | isN a ia => exact snd_isN ia
  | notN a ia => exact snd_notN ia
  | cmp o a b ia ib => exact snd_cmp o ia ib
  | chain o o' a b c ia ib ic => exact snd_chain o o' ia ib ic
  | and a b ia ib => exact snd_and ia ib
  | or a b ia ib => exact snd_or ia ib
  | not a ia => exact snd_not ia
  | ite c a b ic ia ib => exact snd_ite ic ia ib
  | tup es i => exact snd_tup i
  | lst es i => exact snd_lst i
  | new es i => exact snd_new i
  | nil => exact snd_nil
  | cons e es i1 i2 => exact snd_cons i1 i2
  | idx a b ia ib => exact snd_idx ia ib
  | sl a lo hi ia il ih => exact snd_sl ia il ih
  | call f es i => exact snd_call f i
  | bi b es i => exact snd_bi b i
  | mi m a es ia i => exact snd_mi m ia i
  | rng1 a ia => exact snd_rng1 ia
  | rng2 a b ia ib => exact snd_rng2 ia ib
  | rng3 a b c ia ib ic => exact snd_rng3 ia ib ic
  | enum a ia => exact snd_enum ia
  | obj e i => exact snd_obj i
  | dd es i => exact snd_dd
  | bn b es i => exact snd_bn b i
  | mt m a es ia i => exact snd_mt m ia i
  | gx u g it c e own ii ic ie => exact snd_gx u g own ii ic ie
  | gn u g it c e own ii ic ie => exact snd_gn u g own ii ic ie
  | lc g it c e own ii ic ie => exact snd_lc g own ii ic ie
  | dc g it c k e own ii ic ik ie => exact snd_dc g own ii ic ik ie
  | fmt e i => exact snd_fmt i
  | fs es i => exact snd_fs i
  | anyOut e z x i => exact snd_anyOut z x i
  | told f x e i => exact snd_told f x i
  | lam k => exact snd_lam k
  | toldV f x e i => exact snd_toldV f x i
end
end Dy

end
section
set_option Elab.async false
set_option linter.all false
set_option maxRecDepth 100000
set_option maxHeartbeats 400000
namespace Dy
open PySem PySem.Spec PyProof.Rows L2
theorem fm_len {α β : Type} (f : α → Option β) : ∀ l : List α, (l.filterMap f).length = l.length → ∀ e ∈ l, f e ≠ none
  | [], _, e, h => by cases h
  | a :: l, hl, e, h => by
    have hle := List.length_filterMap_le f l
    rw [List.filterMap_cons] at hl
    cases ha : f a with
    | none => rw [ha] at hl; simp only [List.length_cons] at hl; omega
    | some b =>
      rw [ha] at hl
      simp only [List.length_cons] at hl
      rcases List.mem_cons.mp h with rfl | h
      · rw [ha]; simp
      · exact fm_len f l (by omega) e h
def notLoc (sc : List (Str × NameKind)) : Expr → Bool
  | .Name x _ => decide (sc.lookup x ≠ some .local)
  | _ => true
def noneSw (sc : List (Str × NameKind)) : Expr → Expr → Bool
  | .Tuple ts _ _, .Tuple vs _ _ => decide (ts.length ≠ 2 ∧ ts.length ≠ 3) || (vs.all (foldedForSure 8) || ts.any (notLoc sc))
  | .List .., _ => false
  | _, _ => true
theorem noneSw_ok {sc : List (Str × NameKind)} {tg v : Expr} {env : Env} (hk : env.scope.kind = .function) (hs : env.scope.names = sc) (h : noneSw sc tg v = true) : swappedStores [tg] v env = pure none := by
  cases tg with
  | Tuple ts k p =>
    cases v with
    | Tuple vs k2 p2 =>
      have h : (decide (ts.length ≠ 2 ∧ ts.length ≠ 3) || (vs.all (foldedForSure 8) || ts.any (notLoc sc))) = true := h
      unfold swappedStores
      simp only [pure_bind]
      split
      · rfl
      · split
        · rfl
        · split
          · rfl
          · rename_i h1 h2 h3
            have ha : vs.all (foldedForSure 8) = true := by
              rw [Bool.or_eq_true, Bool.or_eq_true, decide_eq_true_eq] at h
              rcases h with h | h | h
              · refine absurd ?_ h1
                have e2 : (ts.length == 2) = false := beq_false_of_ne h.1
                have e3 : (ts.length == 3) = false := beq_false_of_ne h.2
                rw [e2, e3]; rfl
              · exact h
              · exfalso
                rw [Bool.or_eq_true, not_or] at h3
                have z := h3.1
                rw [bne_iff_ne] at z
                have hl := Decidable.not_not.mp z
                rw [List.any_eq_true] at h
                obtain ⟨e, he, hn⟩ := h
                have q := fm_len _ ts hl e he
                cases e with
                | Name x p =>
                  have hn : decide (sc.lookup x ≠ some .local) = true := hn
                  rw [decide_eq_true_eq] at hn
                  apply q
                  have hkx : (env.kindOf x == some NameKind.local) = false := by
                    refine beq_false_of_ne ?_
                    show env.scope.names.lookup x ≠ _
                    rw [hs]; exact hn
                  simp only [hkx, Bool.false_and, Bool.false_eq_true, if_false]
                | _ => exact q rfl
            rw [if_pos ha]
    | _ => rfl
  | List ts p => cases h
  | _ => cases v <;> rfl

def noStarE (e : Expr) : Bool := noStar e
theorem anyStar {vs : List Expr} {f : Expr → Bool} (h : vs.all noStar = true) (hf : ∀ v, f v = true → noStar v = false) : ¬ vs.any f = true := fun hh => by
  rw [List.any_eq_true] at hh
  obtain ⟨v, hv, hm⟩ := hh
  have h1 := List.all_eq_true.mp h v hv
  rw [hf v hm] at h1
  cases h1
theorem sw2 {sc : List (Str × NameKind)} {env : Env} {x y : Str} {a b : Expr} {px py pt pt2 : Pos} {kt k2 : Nat} (hk : env.scope.kind = .function) (hs : env.scope.names = sc) (hx : sc.lookup x = some .local) (hy : sc.lookup y = some .local) (hl : py.line = px.line) (hn : x ≠ y)
    (h1 : [a, b].all noStar = true) (h2 : [a, b].all (foldedForSure 8) = false) (h3 : [a, b].all (constantsAlone 8) = false) :
    swappedStores [.Tuple [.Name x px, .Name y py] kt pt] (.Tuple [a, b] k2 pt2) env = pure (some [x, y]) := by
  have hb : env.blockKind = .function := by unfold Env.blockKind; rw [hk]; rfl
  have kx : env.kindOf x = some .local := by show env.scope.names.lookup x = _; rw [hs]; exact hx
  have ky : env.kindOf y = some .local := by show env.scope.names.lookup y = _; rw [hs]; exact hy
  have ed : ([x, y] : List Str).eraseDups = [x, y] := by
    rw [List.eraseDups_cons, List.filter_cons, if_pos (by simpa using Ne.symm hn), List.filter_nil, List.eraseDups_cons, List.filter_nil, List.eraseDups_nil]
  unfold swappedStores
  simp only [pure_bind]
  rw [if_neg (by rw [hb]; exact Bool.false_ne_true), if_neg (anyStar h1 (fun v hv => by cases v <;> first | rfl | cases hv))]
  simp only [List.filterMap_cons, List.filterMap_nil, List.head?_cons, Option.map_some, Option.getD_some, Expr.pos, kx, ky, hl, beq_self_eq_true, Bool.and_true, if_true, ed, List.length_cons, List.length_nil, bne_self_eq_false, Bool.or_false, Bool.false_eq_true, if_false, h2, h3]
theorem sw3 {sc : List (Str × NameKind)} {env : Env} {x y z : Str} {a b c : Expr} {px py pz pt pt2 : Pos} {kt k2 : Nat} (hk : env.scope.kind = .function) (hs : env.scope.names = sc) (hx : sc.lookup x = some .local) (hy : sc.lookup y = some .local) (hz : sc.lookup z = some .local) (hl : py.line = px.line) (hl2 : pz.line = px.line) (hn : x ≠ y) (hn2 : x ≠ z) (hn3 : y ≠ z)
    (h1 : [a, b, c].all noStar = true) (h2 : [a, b, c].all (foldedForSure 8) = false) (h3 : [a, b, c].all (constantsAlone 8) = false) :
    swappedStores [.Tuple [.Name x px, .Name y py, .Name z pz] kt pt] (.Tuple [a, b, c] k2 pt2) env = pure (some [x, y, z]) := by
  have hb : env.blockKind = .function := by unfold Env.blockKind; rw [hk]; rfl
  have kx : env.kindOf x = some .local := by show env.scope.names.lookup x = _; rw [hs]; exact hx
  have ky : env.kindOf y = some .local := by show env.scope.names.lookup y = _; rw [hs]; exact hy
  have kz : env.kindOf z = some .local := by show env.scope.names.lookup z = _; rw [hs]; exact hz
  have ed : ([x, y, z] : List Str).eraseDups = [x, y, z] := by
    rw [List.eraseDups_cons, List.filter_cons, if_pos (by simpa using Ne.symm hn), List.filter_cons, if_pos (by simpa using Ne.symm hn2), List.filter_nil, List.eraseDups_cons, List.filter_cons, if_pos (by simpa using Ne.symm hn3), List.filter_nil, List.eraseDups_cons, List.filter_nil, List.eraseDups_nil]
  unfold swappedStores
  simp only [pure_bind]
  rw [if_neg (by rw [hb]; exact Bool.false_ne_true), if_neg (anyStar h1 (fun v hv => by cases v <;> first | rfl | cases hv))]
  simp only [List.filterMap_cons, List.filterMap_nil, List.head?_cons, Option.map_some, Option.getD_some, Expr.pos, kx, ky, kz, hl, hl2, beq_self_eq_true, Bool.and_true, if_true, ed, List.length_cons, List.length_nil, bne_self_eq_false, Bool.or_false, Bool.false_eq_true, if_false, h2, h3]
end Dy

end
section
set_option Elab.async false
set_option linter.all false
set_option maxRecDepth 100000
set_option maxHeartbeats 400000
/-! Dy, part L: statements. -/
namespace Dy
open PySem PySem.Spec PyProof.Rows L2

/-- what is wanted of a statement's result -/
def PostS (K : PySem.W.Frag) (G : Glob) (Y : Addr → Prop) (ι : Io) (H : Hp) (r : SR) (D : Ends) (W : WX) : Prop := match r with
  | .nx σd S => ∀ ι' H' σ', Evo ι H ι' H' → Rel K G ι' Y S H' → RepS K H' ι' Y σd σ' → D.nx σ' H'
  | .rt w S => ∀ ι' H' v, Evo ι H ι' H' → Rel K G ι' Y S H' → RepV K H' ι' Y w v → D.rt v H'
  | .bk σd S => ∀ ι' H' σ', Evo ι H ι' H' → Rel K G ι' Y S H' → RepS K H' ι' Y σd σ' → D.bk σ' H'
  | .ct σd S => ∀ ι' H' σ', Evo ι H ι' H' → Rel K G ι' Y S H' → RepS K H' ι' Y σd σ' → D.ct σ' H'
  | .xc c σd S => ∃ C, G.cls c = some C ∧ ∀ ι' H' σ', Evo ι H ι' H' → Rel K G ι' Y S H' → RepS K H' ι' Y σd σ' → W (.ref C) none σ' H'
  | .bad => False
def tS (K : PySem.W.Frag) (G : Glob) (f : Sl → Sto → SR) (W : WX) : TS := fun D σ H => ∃ ι Y S σd, Rel K G ι Y S H ∧ RepS K H ι Y σd σ ∧ PostS K G Y ι H (f σd S) D W
section
variable {K : PySem.W.Frag} {G : Glob} {Y : Addr → Prop} {ι ι' : Io} {H H' : Hp} {r : SR} {D : Ends} {W : WX}
theorem PostS.evo (h : PostS K G Y ι H r D W) (e : Evo ι H ι' H') : PostS K G Y ι' H' r D W := by
  cases r with
  | nx σd S => exact fun ι2 H2 σ2 e2 R rs => h ι2 H2 σ2 (e.trans e2) R rs
  | bk σd S => exact fun ι2 H2 σ2 e2 R rs => h ι2 H2 σ2 (e.trans e2) R rs
  | ct σd S => exact fun ι2 H2 σ2 e2 R rs => h ι2 H2 σ2 (e.trans e2) R rs
  | rt w S => exact fun ι2 H2 v e2 R r => h ι2 H2 v (e.trans e2) R r
  | xc c σd S =>
    obtain ⟨C, hc, h⟩ := h
    exact ⟨C, hc, fun ι2 H2 σ2 e2 R rs => h ι2 H2 σ2 (e.trans e2) R rs⟩
  | bad => exact h
theorem PostS.bs {x : Res} {σd : Sl} {σ : L2.St} {k : Wv → Sto → SR} (rs : RepS K H ι Y σd σ) (h : PostS K G Y ι H (x.bs σd k) D W) :
    Post K G Y ι H x (fun v H' => ∃ ι' w S', Evo ι H ι' H' ∧ Rel K G ι' Y S' H' ∧ RepV K H' ι' Y w v ∧ PostS K G Y ι' H' (k w S') D W) (L2.WE W σ) := by
  cases x with
  | ok w S => exact fun ι' H' v e R r => ⟨ι', w, S, e, R, r, PostS.evo h e⟩
  | exc c S =>
    obtain ⟨C, hc, h⟩ := h
    exact ⟨C, hc, fun ι' H' e R => h ι' H' σ e R (rs.evo e)⟩
  | bad => exact h
theorem RepS.forget {vs : List Nat} {σd : Sl} {σ : L2.St} (rs : RepS K H ι Y σd σ) : RepS K H ι Y (wipeW σd vs) σ := by
  induction vs with
  | nil => exact rs
  | cons v vs ih =>
    show RepS K H ι Y ((wipeW σd vs).set v none) σ
    refine ⟨by rw [List.length_set]; exact ih.1, fun i w e => ?_⟩
    by_cases hi : v = i
    · subst hi
      rw [List.getElem?_set] at e
      simp at e
    · rw [List.getElem?_set_ne hi] at e
      exact ih.2 i w e
theorem RepS.cut {n : Nat} {σd : Sl} {σ : L2.St} (rs : RepS K H ι Y σd σ) (c : closedSl n σd = true) : RepS K H (cutI n ι) Y σd σ := by
  refine ⟨rs.1, fun i w e => ?_⟩
  obtain ⟨v, h1, h2⟩ := rs.2 i w e
  have := List.all_eq_true.mp c (some w) (List.mem_of_getElem? e)
  exact ⟨v, h1, h2.cut this⟩
theorem PostS.blk {S0 : Sto} {vs : List Nat} (R0 : Rel K G ι Y S0 H) (h : PostS K G Y ι H (blkR S0 vs r) D W) : PostS K G Y ι H r D W := by
  cases r with
  | nx σd S =>
    have h : PostS K G Y ι H (if decide (S0.length ≤ S.length) && (keepS S0.length S0 S && closedSl S0.length (wipeW σd vs)) then .nx (wipeW σd vs) (S.take S0.length) else .nx σd S) D W := h
    by_cases c : (decide (S0.length ≤ S.length) && (keepS S0.length S0 S && closedSl S0.length (wipeW σd vs))) = true
    · rw [if_pos c] at h
      rw [Bool.and_eq_true, Bool.and_eq_true, decide_eq_true_eq] at c
      exact fun ι' H' σ' e R rs => h (cutI S0.length ι') H' σ' (e.cut R0.lt) (R.cut c.1 (keepS_closed R0 c.2.1)) ((RepS.forget rs).cut c.2.2)
    · rw [if_neg c] at h; exact h
  | ct σd S =>
    have h : PostS K G Y ι H (if decide (S0.length ≤ S.length) && (keepS S0.length S0 S && closedSl S0.length (wipeW σd vs)) then .ct (wipeW σd vs) (S.take S0.length) else .ct σd S) D W := h
    by_cases c : (decide (S0.length ≤ S.length) && (keepS S0.length S0 S && closedSl S0.length (wipeW σd vs))) = true
    · rw [if_pos c] at h
      rw [Bool.and_eq_true, Bool.and_eq_true, decide_eq_true_eq] at c
      exact fun ι' H' σ' e R rs => h (cutI S0.length ι') H' σ' (e.cut R0.lt) (R.cut c.1 (keepS_closed R0 c.2.1)) ((RepS.forget rs).cut c.2.2)
    · rw [if_neg c] at h; exact h
  | rt _ _ => exact h
  | bk _ _ => exact h
  | xc _ _ _ => exact h
  | bad => exact h
theorem PostS.nx {σd : Sl} {σ : L2.St} {S : Sto} (h : PostS K G Y ι H (.nx σd S) D W) (R : Rel K G ι Y S H) (rs : RepS K H ι Y σd σ) : D.nx σ H := h ι H σ (Evo.refl _ _) R rs
theorem PostS.rt {w : Wv} {v : V} {S : Sto} (h : PostS K G Y ι H (.rt w S) D W) (R : Rel K G ι Y S H) (r : RepV K H ι Y w v) : D.rt v H := h ι H v (Evo.refl _ _) R r
end

/-! ### comprehensions and the local that takes them -/
def swC (sc : Scn) (tg v : Expr) : Bool := match tg, v with
  | .Name y py, .ListComp _ _ s p => decide (sc.lookup y = some .local) && (py.line == p.line && !(s.names.any fun (n, k) => n == y && (k == .local || k == .cell)))
  | .Name y py, .SetComp _ _ s p => decide (sc.lookup y = some .local) && (py.line == p.line && !(s.names.any fun (n, k) => n == y && (k == .local || k == .cell)))
  | .Name y py, .DictComp _ _ _ s p => decide (sc.lookup y = some .local) && (py.line == p.line && !(s.names.any fun (n, k) => n == y && (k == .local || k == .cell)))
  | _, _ => false
theorem swC_ok {sc : Scn} {env : Env} (hk : env.scope.kind = .function) (hs : env.scope.names = sc) (tg v : Expr) (l : Nat) : swapsWith v (some tg) l env = pure (swC sc tg v) := by
  have hb : env.blockKind = .function := by unfold Env.blockKind; rw [hk]; rfl
  have key : ∀ (y : Str) (b c : Bool), (env.blockKind == .function && env.kindOf y == some .local && b && c) = (decide (sc.lookup y = some .local) && (b && c)) := fun y b c => by
    rw [hb]
    have : (env.kindOf y == some .local) = decide (sc.lookup y = some .local) := by
      have e : env.kindOf y = sc.lookup y := by show env.scope.names.lookup y = _; rw [hs]
      rw [e]
      by_cases h : sc.lookup y = some .local
      · rw [h]; rfl
      · rw [beq_false_of_ne h, decide_eq_false h]
    rw [this, Bool.and_assoc]
    simp
  cases v with
  | ListComp e gs s p =>
    cases tg with
    | Name y py => exact congrArg pure (key y _ _)
    | _ => rfl
  | SetComp e gs s p =>
    cases tg with
    | Name y py => exact congrArg pure (key y _ _)
    | _ => rfl
  | DictComp k e gs s p =>
    cases tg with
    | Name y py => exact congrArg pure (key y _ _)
    | _ => rfl
  | _ => cases tg <;> rfl
section
variable {X : Cx} {G : Glob} {T : GT} {cl : Clr} {lv : Nat} {N : List Str} {sc : Scn} {fn : Str → Bool} {kd : Kd} {W : WX} {scope : Scope} {own : List (Str × Nat)}
/-- name = {..} on one line, the name a local -/
theorem ps_setDc {i : Nat} {y : Str} {py : Pos} {kx vx tg iter : Expr} {ifs : List Expr} {pos spos : Pos} {wi : TI} {g : TG} {tt : TT} {tk tv : TE} (hc : X.calm = true) (hN : X.N.Nodup) (hy : X.N[i]? = some y) (hyl : X.env.scope.names.lookup y = some .local)
    (hsw : swapsWith (.DictComp kx vx [⟨tg, iter, ifs, 0⟩] scope pos) (some (.Name y py)) spos.line X.env = pure true) (hi : PI X tg iter wi) (ok : BlkOk X.N X.env.scope scope own)
    (hg : ∀ (s : Shared) (H : Hp) (C : Addr) (cl : List (Str × Addr)) (fp : List Addr), PG (X.blk s H scope (compEnvC scope cl C X.env) fp) tg g) (ht : ∀ (s : Shared) (H : Hp) (C : Addr) (cl : List (Str × Addr)) (fp : List Addr), PTs (X.blk s H scope (compEnvC scope cl C X.env) fp) ifs tt)
    (hk : ∀ (s : Shared) (H : Hp) (C : Addr) (cl : List (Str × Addr)) (fp : List Addr), PE (X.blk s H scope (compEnvC scope cl C X.env) fp) kx tk)
    (he : ∀ (s : Shared) (H : Hp) (C : Addr) (cl : List (Str × Addr)) (fp : List Addr), PE (X.blk s H scope (compEnvC scope cl C X.env) fp) vx tv) (hs : ∀ x, foldedSetIterable iter X.env x = pure x) :
    PS X (.Assign [.Name y py] (.DictComp kx vx [⟨tg, iter, ifs, 0⟩] scope pos) spos) (tAsg (tDc wi g tt tk tv (own.map (·.2))) (gName i)) := by
  refine ⟨fun pins s σ H D I h => ?_⟩
  rw [exec_Assign_Name_used _ _ _ _ hsw]
  refine wpAny_bind (wpAny_standAt (wpAny_bind ?_))
  show wpAny _ X.A (do let _ ← comprehension (.DictComp kx vx [⟨tg, iter, ifs, 0⟩] scope pos) scope X.env (firstIterPos [⟨tg, iter, ifs, 0⟩] pos) newDict false (eval iter X.env) (some (assign (.Name y py) X.env))) _ _ s
  have h : tDc wi g tt tk tv (own.map (·.2)) σ H (fun x H1 => gName i x σ H1 D.nx) := h
  refine wpAny_bind (thn (dc_core (Qf := fun _ s' => SP X pins D .next s') hc hN I hi ok hg ht hk he hs h fun L C s' m H' I' q hn f => ?_) fun _ s' hq => wpAny_pure (wpAny_pure hq))
  show wpAny _ _ (assign (.Name y py) X.env (.ref L)) _ _ _
  refine wpAny_assign_Name (store_ok2 (v := V.ref L) I' hN hy (.inl hyl) rfl (fun s2 I2 ⟨a, sb, ha⟩ => ?_) (.inr hyl))
  obtain ⟨f0, f1, f2, f3, f4, f5⟩ := f
  have haC : C ≠ a := by
    rcases ha with z | z
    · rw [z]; exact f1
    · exact fun e => f4 y a z e.symm
  refine ⟨m, hn.sameBut sb haC, fun h3 sb3 => ?_⟩
  exact ⟨_, H', I2.turned (t' := s2.toks) (fun b o hb e => (sb3.2 b hb).trans e) f0 f1 f3 f4 f5, q⟩
theorem s_setLc (C : XOk X G T cl lv N sc fn kd W) {i : Nat} {y : Str} {g : Tg} {fi fc fe : Sl → Sto → Res} {tt : TT} {elt tg iter : Expr} {ifs : List Expr} {py pos spos : Pos} (hy : N[i]? = some y) (hyl : sc.lookup y = some .local) (hsw : swC sc (.Name y py) (.ListComp elt [⟨tg, iter, ifs, 0⟩] scope pos) = true)
    (hb : blkN N sc scope own = true) (hg : inOwn (own.map (·.2)) g = true) (hns : noSet iter = true) (ht : TtOk X G tt fc)
    (hi : PI X tg iter (tI X.K G (fun σ S => (fi σ S).bind itK) W))
    (hgt : ∀ X' : Cx, X'.K = X.K → XOk X' G T cl lv N (relN sc scope.names) (blkF scope) kd (fun _ _ _ _ => False) → PG X' tg (tgT X.K g))
    (htt : ∀ X' : Cx, X'.K = X.K → XOk X' G T cl lv N (relN sc scope.names) (blkF scope) kd (fun _ _ _ _ => False) → PTs X' ifs tt)
    (hte : ∀ X' : Cx, X'.K = X.K → XOk X' G T cl lv N (relN sc scope.names) (blkF scope) kd (fun _ _ _ _ => False) → PE X' elt (tE X.K G fe (fun _ _ _ _ => False))) :
    PS X (.Assign [.Name y py] (.ListComp elt [⟨tg, iter, ifs, 0⟩] scope pos) spos) (tAsg (tN X.K G (fun σ S => (fi σ S).bind fun x S => match itW x with | some items => lcLoop (lcF g fc fe (wipeW σ (own.map (·.2)))) items [] S | none => .bad) W) (gName i)) := by
  refine (ps_setLc (i := i) C.calm (by rw [C.hN]; exact C.nd) (by rw [C.hN]; exact hy) (by rw [C.sc]; exact hyl) (by rw [swC_ok C.kind C.sc, hsw]) hi (C.blkOk hb) (fun s H Cc cl' fp => hgt _ rfl (C.blk hb s H Cc cl' fp)) (fun s H Cc cl' fp => htt _ rfl (C.blk hb s H Cc cl' fp)) (fun s H Cc cl' fp => hte _ rfl (C.blk hb s H Cc cl' fp)) (noFold hns)).imp fun D σ H q => ?_
  exact lcW hg ht q
theorem s_setDc (C : XOk X G T cl lv N sc fn kd W) {i : Nat} {y : Str} {g : Tg} {fi fc fk fe : Sl → Sto → Res} {tt : TT} {kx elt tg iter : Expr} {ifs : List Expr} {py pos spos : Pos} (hy : N[i]? = some y) (hyl : sc.lookup y = some .local) (hsw : swC sc (.Name y py) (.DictComp kx elt [⟨tg, iter, ifs, 0⟩] scope pos) = true)
    (hb : blkN N sc scope own = true) (hg : inOwn (own.map (·.2)) g = true) (hns : noSet iter = true) (ht : TtOk X G tt fc)
    (hi : PI X tg iter (tI X.K G (fun σ S => (fi σ S).bind itK) W))
    (hgt : ∀ X' : Cx, X'.K = X.K → XOk X' G T cl lv N (relN sc scope.names) (blkF scope) kd (fun _ _ _ _ => False) → PG X' tg (tgT X.K g))
    (htt : ∀ X' : Cx, X'.K = X.K → XOk X' G T cl lv N (relN sc scope.names) (blkF scope) kd (fun _ _ _ _ => False) → PTs X' ifs tt)
    (htk : ∀ X' : Cx, X'.K = X.K → XOk X' G T cl lv N (relN sc scope.names) (blkF scope) kd (fun _ _ _ _ => False) → PE X' kx (tE X.K G fk (fun _ _ _ _ => False)))
    (hte : ∀ X' : Cx, X'.K = X.K → XOk X' G T cl lv N (relN sc scope.names) (blkF scope) kd (fun _ _ _ _ => False) → PE X' elt (tE X.K G fe (fun _ _ _ _ => False))) :
    PS X (.Assign [.Name y py] (.DictComp kx elt [⟨tg, iter, ifs, 0⟩] scope pos) spos) (tAsg (tN X.K G (fun σ S => (fi σ S).bind fun x S => match itW x with | some items => dcLoop (dcF g fc fk fe (wipeW σ (own.map (·.2)))) items [] S | none => .bad) W) (gName i)) := by
  refine (ps_setDc (i := i) C.calm (by rw [C.hN]; exact C.nd) (by rw [C.hN]; exact hy) (by rw [C.sc]; exact hyl) (by rw [swC_ok C.kind C.sc, hsw]) hi (C.blkOk hb) (fun s H Cc cl' fp => hgt _ rfl (C.blk hb s H Cc cl' fp)) (fun s H Cc cl' fp => htt _ rfl (C.blk hb s H Cc cl' fp)) (fun s H Cc cl' fp => htk _ rfl (C.blk hb s H Cc cl' fp)) (fun s H Cc cl' fp => hte _ rfl (C.blk hb s H Cc cl' fp)) (noFold hns)).imp fun D σ H q => ?_
  exact dcW hg ht q
end
end Dy

end
section
set_option Elab.async false
set_option linter.all false
set_option maxRecDepth 100000
set_option maxHeartbeats 400000
/-! Dy, part M: statements by the evaluator; their checker; soundness. -/
namespace Dy
open PySem PySem.Spec PyProof.Rows L2

section
variable {X : Cx} {G : Glob} {T : GT} {cl : Clr} {lv : Nat} {N : List Str} {sc : Scn} {fn : Str → Bool} {kd : Kd} {W : WX} {st : Stmt}
theorem w_set {g : Tg} {e : E} {vs : List Nat} (hv : inOwn vs g = true) (D : Ends) (σ : L2.St) (H : Hp) (q : tS X.K G (ex cl (.set g e)) W D σ H) : tAsg (tE X.K G (ev cl e) W) (tgT X.K g) D σ H := by
  obtain ⟨ι, Y, S, σd, R, rs, p⟩ := q
  have p : PostS X.K G Y ι H ((ev cl e σd S).bs σd fun w S => match asg g w σd with | some σ' => .nx σ' S | none => .bad) D W := p
  refine ⟨ι, Y, S, σd, R, rs, (p.bs rs).mono ?_ idE⟩
  rintro v H' ⟨ι1, w, S1, ev1, R1, r1, p1⟩
  cases ha : asg g w σd with
  | none => rw [ha] at p1; exact p1.elim
  | some σ' =>
    rw [ha] at p1
    exact asgG vs g w v σd σ' σ _ hv ha r1 (rs.evo ev1) fun σ2 rs2 _ => PostS.nx p1 R1 rs2
theorem s_par2 (C : XOk X G T cl lv N sc fn kd W) {i j : Nat} {x y : Str} {a b : E} {ea eb : Expr} {px py pt pt2 pos : Pos} {kt k2 : Nat} (hi : N[i]? = some x) (hj : N[j]? = some y) (hij : i ≠ j) (hx : sc.lookup x = some .local) (hy : sc.lookup y = some .local) (hl : py.line = px.line) (hn : x ≠ y)
    (h1 : [ea, eb].all noStar = true) (h2 : [ea, eb].all (foldedForSure 8) = false) (h3 : [ea, eb].all (constantsAlone 8) = false) (ha : PE X ea (tE X.K G (ev cl a) W)) (hb : PE X eb (tE X.K G (ev cl b) W)) :
    PS X (.Assign [.Tuple [.Name x px, .Name y py] kt pt] (.Tuple [ea, eb] k2 pt2) pos) (tS X.K G (ex cl (.par2 i j a b)) W) := by
  have s1 : noStar ea = true ∧ noStar eb = true := by
    simp only [List.all_cons, List.all_nil, Bool.and_true, Bool.and_eq_true] at h1
    exact h1
  refine (ps_par C.calm (by rw [C.hN]; exact C.nd) (by rw [C.hN]; exact hi) (by rw [C.hN]; exact hj) hij (by rw [C.sc]; exact hx) (by rw [C.sc]; exact hy) (pa_cons ha (pa_cons hb pa_nil (starEach_cons s1.2)) (starEach_cons s1.1)) (sw2 C.kind C.sc hx hy hl hn h1 h2 h3) (by rfl)).imp fun D σ H q => ?_
  obtain ⟨ι, Y, S, σd, R, rs, p⟩ := q
  have p : PostS X.K G Y ι H ((ev cl a σd S).bs σd fun x S => (ev cl b σd S).bs σd fun y S => .nx ((σd.set i (some x)).set j (some y)) S) D W := p
  refine ⟨ι, Y, S, σd, R, rs, (p.bs rs).mono ?_ idE⟩
  rintro v H' ⟨ι1, w, S1, e1, R1, r1, p1⟩
  refine ⟨ι1, Y, S1, σd, R1, rs.evo e1, (p1.bs (rs.evo e1)).mono ?_ idE⟩
  rintro u H2 ⟨ι2, w2, S2, e2, R2, r2, p2⟩
  exact ⟨v, u, rfl, PostS.nx p2 R2 ((((rs.evo e1).evo e2).set i (r1.evo e2)).set j r2)⟩
theorem s_par3 (C : XOk X G T cl lv N sc fn kd W) {i j l : Nat} {x y z : Str} {a b c : E} {ea eb ec : Expr} {px py pz pt pt2 pos : Pos} {kt k2 : Nat} (hi : N[i]? = some x) (hj : N[j]? = some y) (hl' : N[l]? = some z) (hij : i ≠ j) (hil : i ≠ l) (hjl : j ≠ l) (hx : sc.lookup x = some .local) (hy : sc.lookup y = some .local) (hz : sc.lookup z = some .local) (hl : py.line = px.line) (hl2 : pz.line = px.line) (hn : x ≠ y) (hn2 : x ≠ z) (hn3 : y ≠ z)
    (h1 : [ea, eb, ec].all noStar = true) (h2 : [ea, eb, ec].all (foldedForSure 8) = false) (h3 : [ea, eb, ec].all (constantsAlone 8) = false) (ha : PE X ea (tE X.K G (ev cl a) W)) (hb : PE X eb (tE X.K G (ev cl b) W)) (hc : PE X ec (tE X.K G (ev cl c) W)) :
    PS X (.Assign [.Tuple [.Name x px, .Name y py, .Name z pz] kt pt] (.Tuple [ea, eb, ec] k2 pt2) pos) (tS X.K G (ex cl (.par3 i j l a b c)) W) := by
  have s1 : noStar ea = true ∧ noStar eb = true ∧ noStar ec = true := by
    simp only [List.all_cons, List.all_nil, Bool.and_true, Bool.and_eq_true] at h1
    exact h1
  refine (ps_par3 C.calm (by rw [C.hN]; exact C.nd) (by rw [C.hN]; exact hi) (by rw [C.hN]; exact hj) (by rw [C.hN]; exact hl') hij hil hjl (by rw [C.sc]; exact hx) (by rw [C.sc]; exact hy) (by rw [C.sc]; exact hz) (pa_cons ha (pa_cons hb (pa_cons hc pa_nil (starEach_cons s1.2.2)) (starEach_cons s1.2.1)) (starEach_cons s1.1)) (sw3 C.kind C.sc hx hy hz hl hl2 hn hn2 hn3 h1 h2 h3) (by rfl)).imp fun D σ H q => ?_
  obtain ⟨ι, Y, S, σd, R, rs, p⟩ := q
  have p : PostS X.K G Y ι H ((ev cl a σd S).bs σd fun x S => (ev cl b σd S).bs σd fun y S => (ev cl c σd S).bs σd fun z S => .nx (((σd.set i (some x)).set j (some y)).set l (some z)) S) D W := p
  refine ⟨ι, Y, S, σd, R, rs, (p.bs rs).mono ?_ idE⟩
  rintro v H' ⟨ι1, w, S1, e1, R1, r1, p1⟩
  refine ⟨ι1, Y, S1, σd, R1, rs.evo e1, (p1.bs (rs.evo e1)).mono ?_ idE⟩
  rintro u H2 ⟨ι2, w2, S2, e2, R2, r2, p2⟩
  refine ⟨ι2, Y, S2, σd, R2, (rs.evo e1).evo e2, (p2.bs ((rs.evo e1).evo e2)).mono ?_ idE⟩
  rintro t H3 ⟨ι3, w3, S3, e3, R3, r3, p3⟩
  exact ⟨v, u, t, rfl, PostS.nx p3 R3 ((((((rs.evo e1).evo e2).evo e3).set i (r1.evo (e2.trans e3))).set j (r2.evo e3)).set l r3)⟩
def rSetW (K : PySem.W.Frag) (G : Glob) : TSet := fun o i v H Q => ∃ ι Y S wo wi wv S', Rel K G ι Y S H ∧ RepV K H ι Y wo o ∧ RepV K H ι Y wi i ∧ RepV K H ι Y wv v ∧ setIxW wo wi wv S = some S' ∧ ∀ H', Evo ι H ι H' → Rel K G ι Y S' H' → Q H'
theorem set_dK {pins : List (Addr × Obj)} {s : Shared} {σ : L2.St} {H : Hp} {o i v : V} {ov iv u : Value} {Q : Hp → Prop} (hu : X.A.units + 1 < cLine) (I : Inv X pins σ H s) (ro : RelV o ov) (ri : RelV i iv) (rv : RelV v u) {ι : Io} {Y : Addr → Prop} {S : Sto} {n : Nat} {wv : Wv} {ws : List (Key × Wv)} {k : Key} (R : Rel X.K G ι Y S H)
    (r1 : RepV X.K H ι Y (.ref n) o) (hi : i = kV k) (r3 : RepV X.K H ι Y wv v) (hS : S[n]? = some (.dct ws)) (hz : ws.length < sizeLine) (q : ∀ H', Evo ι H ι H' → Rel X.K G ι Y (S.set n (.dct (putW ws k wv))) H' → Q H') :
    wpAny (model X.prog X.w) X.A (setItem ov iv u) (fun _ s' => ∃ H', Inv X pins σ H' s' ∧ Q H') X.xe s := by
  obtain ⟨p, vs, rfl, hn, hp, l⟩ := R.dctAt r1 hS
  obtain ⟨n1, n2⟩ := codeO_dK hp
  subst hi
  exact set_dict hu pins s σ H _ _ _ ov iv u Q I ro ri rv ⟨p, _, rfl, DPut.k hp (by rw [← l.length]; exact hz), q _ (evo_write R hn) (R.write hn n1 n2 (.dct (putW_V r3 l)))⟩
theorem set_W (hu : X.A.units + 1 < cLine) : PSet X (rSetW X.K G) := by
  intro pins s σ H o i v ov iv u Q I ro ri rv h
  obtain ⟨ι, Y, S, wo, wi, wv, S', R, r1, r2, r3, e, q⟩ := h
  cases wo <;> first | (cases e; done) | skip
  rename_i n
  cases wi <;> first | (cases e; done) | skip
  · rename_i k
    cases r2.int_eq
    unfold setIxW at e
    cases hS : S[n]? with
    | none => simp only [hS] at e; cases e
    | some so =>
      cases so with
      | lst ws =>
        simp only [hS] at e
        obtain ⟨p, vs, rfl, hn, hp, l⟩ := R.lstAt r1 hS
        cases hx : ixN ws.length k with
        | none => simp only [hx] at e; cases e
        | some j =>
          simp only [hx] at e
          cases e
          obtain ⟨n1, n2⟩ := codeO_lst hp
          exact set_list pins s σ H _ _ _ ov iv u Q I ro ri rv ⟨p, vs, k, j, rfl, rfl, hp, by rw [← l.length]; exact hx, q _ (evo_write R hn) (R.write hn n1 n2 (.lst (l.set r3 j)))⟩
      | dct ws =>
        simp only [hS] at e
        by_cases hz : ws.length < sizeLine
        · rw [if_pos hz] at e
          cases e
          exact set_dK (k := .inl k) hu I ro ri rv R r1 rfl r3 hS hz q
        · rw [if_neg hz] at e; cases e
      | _ => simp only [hS] at e; cases e
  · rename_i k
    cases r2.str_eq
    unfold setIxW at e
    cases hS : S[n]? with
    | none => simp only [hS] at e; cases e
    | some so =>
      cases so with
      | dct ws =>
        simp only [hS] at e
        by_cases hz : ws.length < sizeLine
        · rw [if_pos hz] at e
          cases e
          exact set_dK (k := .inr k) hu I ro ri rv R r1 rfl r3 hS hz q
        · rw [if_neg hz] at e; cases e
      | _ => simp only [hS] at e; cases e
theorem s_setIx (C : XOk X G T cl lv N sc fn kd W) {o i v : E} {eo ei evl : Expr} {p pos : Pos} (hc : ∀ l, swapsWith evl (some (.Subscript eo ei p)) l X.env = pure false) (hsl : noSl ei = true) (ho : PE X eo (tE X.K G (ev cl o) W)) (hi : PE X ei (tE X.K G (ev cl i) W)) (hv : PE X evl (tE X.K G (ev cl v) W)) :
    PS X (.Assign [.Subscript eo ei p] evl pos) (tS X.K G (ex cl (.setIx o i v)) W) := by
  refine (ps_asg hv (pg_sub ho hi (set_W (G := G) (by have := C.units; omega)) (by cases ei <;> first | (intro _; rfl) | cases hsl)) (hc pos.line) (by cases evl <;> rfl) (by rfl)).imp fun D σ H q => ?_
  obtain ⟨ι, Y, S, σd, R, rs, p⟩ := q
  have p : PostS X.K G Y ι H ((ev cl v σd S).bs σd fun w S => (ev cl o σd S).bs σd fun x S => (ev cl i σd S).bs σd fun y S => match setIxW x y w S with | some S' => .nx σd S' | none => .bad) D W := p
  refine ⟨ι, Y, S, σd, R, rs, (p.bs rs).mono ?_ idE⟩
  rintro v H' ⟨ι1, w, S1, e1, R1, r1, p1⟩
  refine ⟨ι1, Y, S1, σd, R1, rs.evo e1, (p1.bs (rs.evo e1)).mono ?_ idE⟩
  rintro u H2 ⟨ι2, w2, S2, e2, R2, r2, p2⟩
  refine ⟨ι2, Y, S2, σd, R2, (rs.evo e1).evo e2, (p2.bs ((rs.evo e1).evo e2)).mono ?_ idE⟩
  rintro t H3 ⟨ι3, w3, S3, e3, R3, r3, p3⟩
  have rs3 := ((rs.evo e1).evo e2).evo e3
  cases hx : setIxW w2 w3 w S3 with
  | none => simp only [hx] at p3; exact p3.elim
  | some S4 =>
    simp only [hx] at p3
    exact ⟨ι3, Y, S3, w2, w3, w, S4, R3, r2.evo e3, r3, r1.evo (e2.trans e3), hx, fun H' e4 R4 => p3 ι3 H' σ e4 R4 (rs3.evo e4)⟩
theorem ip_W (o : Bop) : PIp X (bopA o) (fun x y H Q => ∃ ι Y S w w' E, Rel X.K G ι Y S H ∧ RepV X.K H ι Y w x ∧ RepV X.K H ι Y w' y ∧ Post X.K G Y ι H (augW o w w' S) Q E) := by
  intro pins s σ H x y v u Q I r1 r2 h
  obtain ⟨ι, Y, S, w, w', E, R, q1, q2, p⟩ := h
  cases o with
  | add =>
    cases w with
    | int i =>
      cases w' <;> first | exact p.elim | skip
      cases q1.int_eq; cases q2.int_eq
      exact ip_add pins s σ H _ _ v u Q I r1 r2 ⟨_, _, rfl, rfl, p.here R (.int _)⟩
    | str a =>
      cases w' with
      | str b =>
        cases q1.str_eq; cases q2.str_eq
        have p : Post X.K G Y ι H (if a.length + b.length ≤ sizeLine then .ok (.str (a ++ b)) S else .bad) Q E := p
        by_cases hz : a.length + b.length ≤ sizeLine
        · rw [if_pos hz] at p
          exact iop_add_str pins s σ H _ _ v u Q I r1 r2 ⟨_, _, rfl, rfl, hz, p.here R (.str _)⟩
        · rw [if_neg hz] at p; exact p.elim
      | _ => exact p.elim
    | ref n =>
      cases w' with
      | lst bs =>
        have p : Post X.K G Y ι H (match S[n]? with | some (.lst a) => if a.length + bs.length ≤ sizeLine then .ok (.ref n) (S.set n (.lst (a ++ bs))) else .bad | _ => .bad) Q E := p
        cases hS : S[n]? with
        | none => rw [hS] at p; exact p.elim
        | some so =>
          rw [hS] at p
          cases so with
          | lst as =>
            have p : Post X.K G Y ι H (if as.length + bs.length ≤ sizeLine then .ok (.ref n) (S.set n (.lst (as ++ bs))) else .bad) Q E := p
            by_cases hz : as.length + bs.length ≤ sizeLine
            · rw [if_pos hz] at p
              obtain ⟨a, vs, rfl, hn, hH, l⟩ := R.lstAt q1 hS
              obtain ⟨b, rfl, us, hb, l2⟩ := q2.lst_ref
              obtain ⟨n1, n2⟩ := codeO_lst hH
              refine iop_ext pins s σ H _ _ v u Q I r1 r2 ⟨a, b, vs, us, rfl, rfl, hH, hb, by rw [← l.length, ← l2.length]; exact hz, ?_⟩
              exact p ι _ _ (evo_write R hn) (R.write hn n1 n2 (.lst (l.append l2))) (.ref hn)
            · rw [if_neg hz] at p; exact p.elim
          | _ => exact p.elim
      | _ => exact p.elim
    | _ => exact p.elim
  | sub =>
    cases w <;> first | exact p.elim | skip
    cases w' <;> first | exact p.elim | skip
    cases q1.int_eq; cases q2.int_eq
    exact ip_sub pins s σ H _ _ v u Q I r1 r2 ⟨_, _, rfl, rfl, p.here R (.int _)⟩
  | _ => cases w <;> exact p.elim
theorem s_aug (C : XOk X G T cl lv N sc fn kd W) {i : Nat} {x : Str} (o : Bop) {e : E} {ea : Expr} {p pos : Pos} (hi : N[i]? = some x) (hx : isLoc sc fn x = true) (ha : PE X ea (tE X.K G (ev cl e) W)) : PS X (.AugAssign (.Name x p) (bopA o) ea pos) (tS X.K G (ex cl (.aug i o e)) W) := by
  obtain ⟨l1, l2⟩ := C.loc hx
  refine (ps_aug (i := i) (by rw [C.hN]; exact C.nd) (by rw [C.hN]; exact hi) l1 ha (ip_W (G := G) o) l2).imp fun D σ H q => ?_
  obtain ⟨ι, Y, S, σd, R, rs, p⟩ := q
  have p : PostS X.K G Y ι H (match σd[i]? with | some (some x) => (ev cl e σd S).bs σd fun y S => (augW o x y S).bs σd fun z S => .nx (σd.set i (some z)) S | _ => .bad) D W := p
  cases hσ : σd[i]? with
  | none => rw [hσ] at p; exact p.elim
  | some ow =>
    cases ow with
    | none => rw [hσ] at p; exact p.elim
    | some w =>
      rw [hσ] at p
      obtain ⟨xv, h1, h2⟩ := rs.2 i w hσ
      refine ⟨xv, h1, ι, Y, S, σd, R, rs, ((show PostS X.K G Y ι H ((ev cl e σd S).bs σd fun y S => (augW o w y S).bs σd fun z S => .nx (σd.set i (some z)) S) D W from p).bs rs).mono ?_ idE⟩
      rintro u H2 ⟨ι2, w2, S2, e2, R2, r2, p2⟩
      refine ⟨ι2, Y, S2, w, w2, L2.WE W σ, R2, h2.evo e2, r2, (p2.bs (rs.evo e2)).mono ?_ idE⟩
      rintro z H3 ⟨ι3, w3, S3, e3, R3, r3, p3⟩
      exact PostS.nx p3 R3 (((rs.evo e2).evo e3).set i r3)
theorem s_expr {e : E} {ea : Expr} {pos : Pos} (hs : swapsWith ea none pos.line X.env = pure false) (ha : PE X ea (tE X.K G (ev cl e) W)) : PS X (.Expr ea pos) (tS X.K G (ex cl (.expr e)) W) := by
  refine (ps_expr ha hs).imp fun D σ H q => ?_
  obtain ⟨ι, Y, S, σd, R, rs, p⟩ := q
  have p : PostS X.K G Y ι H ((ev cl e σd S).bs σd fun _ S => .nx σd S) D W := p
  refine ⟨ι, Y, S, σd, R, rs, (p.bs rs).mono ?_ idE⟩
  rintro v H' ⟨ι1, w, S1, e1, R1, r1, p1⟩
  exact PostS.nx p1 R1 (rs.evo e1)
theorem s_ret {e : E} {ea : Expr} {pos : Pos} (ha : PE X ea (tE X.K G (ev cl e) W)) : PS X (.Return (some ea) pos) (tS X.K G (ex cl (.ret e)) W) := by
  refine (ps_ret ha).imp fun D σ H q => ?_
  obtain ⟨ι, Y, S, σd, R, rs, p⟩ := q
  have p : PostS X.K G Y ι H ((ev cl e σd S).bs σd fun w S => .rt w S) D W := p
  refine ⟨ι, Y, S, σd, R, rs, (p.bs rs).mono ?_ idE⟩
  rintro v H' ⟨ι1, w, S1, e1, R1, r1, p1⟩
  exact PostS.rt p1 R1 r1
theorem s_retN {pos : Pos} : PS X (.Return none pos) (tS X.K G (ex cl (.ret (.lit .non))) W) := by
  refine ps_retN.imp fun D σ H q => ?_
  obtain ⟨ι, Y, S, σd, R, rs, p⟩ := q
  exact PostS.rt p R .non
theorem s_ifs {c : E} {a b : Sm} {ec : Expr} {pa pb : List Stmt} {pos : Pos} (hc : PT X ec (tT X.K G (ev cl c) W)) (ha : PSs X pa (tS X.K G (ex cl a) W)) (hb : PSs X pb (tS X.K G (ex cl b) W)) : PS X (.If ec pa pb pos) (tS X.K G (ex cl (.ifs c a b)) W) := by
  refine (ps_if hc ha hb).imp fun D σ H q => ?_
  obtain ⟨ι, Y, S, σd, R, rs, p⟩ := q
  have p : PostS X.K G Y ι H ((ev cl c σd S).bs σd fun t S => iteS t (ex cl a σd S) (ex cl b σd S)) D W := p
  refine ⟨ι, Y, S, σd, R, rs, (p.bs rs).mono ?_ idE⟩
  rintro v H' ⟨ι1, w, S1, e1, R1, r1, p1⟩
  cases w with
  | bl t =>
    cases r1.bl_eq
    refine ⟨t, rfl, ?_⟩
    cases t with
    | true => exact ⟨ι1, Y, S1, σd, R1, rs.evo e1, p1⟩
    | false => exact ⟨ι1, Y, S1, σd, R1, rs.evo e1, p1⟩
  | _ => exact p1.elim
theorem s_whl (hp : PassesOwn (model X.prog X.w) X.A X.env X.xe) {c : E} {b : Sm} {ec : Expr} {pb : List Stmt} {pos : Pos} (hc : PT X ec (tT X.K G (ev cl c) W)) (hb : PSs X pb (tS X.K G (ex cl b) W)) : PS X (.While ec pb [] pos) (tS X.K G (ex cl (.whl c b)) W) := by
  refine (ps_while hp hc hb).imp fun D σ H q => ?_
  obtain ⟨ι, Y, S, σd, R, rs, p⟩ := q
  have p : PostS X.K G Y ι H (wLoop (ev cl c) (ex cl b) fuelW σd S) D W := p
  refine ⟨fun m σ H => ∃ ι Y S σd, Rel X.K G ι Y S H ∧ RepS X.K H ι Y σd σ ∧ PostS X.K G Y ι H (wLoop (ev cl c) (ex cl b) m σd S) D W, ⟨fuelW, ι, Y, S, σd, R, rs, p⟩, ?_⟩
  rintro m σ H ⟨ι, Y, S, σd, R, rs, p⟩
  cases m with
  | zero => exact p.elim
  | succ m =>
    have p : PostS X.K G Y ι H ((ev cl c σd S).bs σd fun t S => iteS t (match ex cl b σd S with
      | .nx σ S => wLoop (ev cl c) (ex cl b) m σ S
      | .ct σ S => wLoop (ev cl c) (ex cl b) m σ S
      | .bk σ S => .nx σ S
      | r => r) (.nx σd S)) D W := p
    refine ⟨ι, Y, S, σd, R, rs, (p.bs rs).mono ?_ idE⟩
    rintro v H' ⟨ι1, w, S1, e1, R1, r1, p1⟩
    cases w with
    | bl t =>
      cases r1.bl_eq
      refine ⟨t, rfl, ?_⟩
      cases t with
      | false => exact PostS.nx p1 R1 (rs.evo e1)
      | true =>
        rw [if_pos rfl]
        refine ⟨fun σ H => ∃ ι Y S σd, Rel X.K G ι Y S H ∧ RepS X.K H ι Y σd σ ∧ PostS X.K G Y ι H (wLoop (ev cl c) (ex cl b) m σd S) D W, fun σ' H' h => ⟨m, Nat.lt_succ_self _, h⟩, ι1, Y, S1, σd, R1, rs.evo e1, ?_⟩
        have p1 : PostS X.K G Y ι1 H' (match ex cl b σd S1 with
          | .nx σ S => wLoop (ev cl c) (ex cl b) m σ S
          | .ct σ S => wLoop (ev cl c) (ex cl b) m σ S
          | .bk σ S => .nx σ S
          | r => r) D W := p1
        cases er : ex cl b σd S1 with
        | nx σ2 S2 => rw [er] at p1; exact fun ι3 H3 σ3 e3 R3 rs3 => ⟨ι3, Y, S2, σ2, R3, rs3, PostS.evo p1 e3⟩
        | ct σ2 S2 => rw [er] at p1; exact fun ι3 H3 σ3 e3 R3 rs3 => ⟨ι3, Y, S2, σ2, R3, rs3, PostS.evo p1 e3⟩
        | bk σ2 S2 => rw [er] at p1; exact p1
        | rt w S2 => rw [er] at p1; exact p1
        | xc c σ2 S2 => rw [er] at p1; exact p1
        | bad => rw [er] at p1; exact p1
    | _ => exact p1.elim
theorem s_for (C : XOk X G T cl lv N sc fn kd W) (hp : PassesOwn (model X.prog X.w) X.A X.env X.xe) {g : Tg} {vs : List Nat} {it : E} {b : Sm} {tg iter : Expr} {pb : List Stmt} {pos : Pos} (hv : inOwn vs g = true) (hns : noSet iter = true) (hi : PI X tg iter (tI X.K G (fun σ S => (ev cl it σ S).bind itK) W)) (hg : PG X tg (tgT X.K g)) (hb : PSs X pb (tS X.K G (ex cl b) W)) :
    PS X (.For tg iter pb [] pos) (tS X.K G (ex cl (.forr g it b)) W) := by
  refine (ps_for hp C.calm hi hg hb (noFold hns)).imp fun D σ H q => ?_
  obtain ⟨ι, Y, S, σd, R, rs, p⟩ := q
  have p : PostS X.K G Y ι H ((ev cl it σd S).bs σd fun x S => match itW x with | some items => fLoop g (ex cl b) items σd S | none => .bad) D W := p
  refine ⟨ι, Y, S, σd, R, rs, ?_⟩
  show PostI X.K G Y ι H ((ev cl it σd S).bind itK) _ _
  cases e : ev cl it σd S with
  | exc c S1 =>
    rw [e] at p
    obtain ⟨Cc, hc, p⟩ := p
    exact ⟨Cc, hc, fun ι' H' ev R' => p ι' H' σ ev R' (rs.evo ev)⟩
  | bad => rw [e] at p; exact p.elim
  | ok x S1 =>
    rw [e] at p
    have p : PostS X.K G Y ι H (match itW x with | some items => fLoop g (ex cl b) items σd S1 | none => .bad) D W := p
    show PostI X.K G Y ι H (itK x S1) _ _
    cases hiw : itW x with
    | none => rw [hiw] at p; exact p.elim
    | some items =>
      rw [hiw] at p
      have ek : itK x S1 = .ok (.lst items) S1 := by unfold itK; rw [hiw]
      rw [ek]
      intro ι1 H1 J e1 R1 w1
      obtain ⟨Gd, Yy, wk, hG, hT⟩ := w1.turn (G := G)
      refine for_it wk (fun i σ' H' => ∃ (ι' : Io) (S' : Sto) (σd' : Sl), Evo ι1 H1 ι' H' ∧ Rel X.K G ι' Y S' H' ∧ RepS X.K H' ι' Y σd' σ' ∧ PostS X.K G Y ι' H' (fLoop g (ex cl b) (items.drop i) σd' S') D W) ?_ ?_ ?_ ?_
      · exact ⟨ι1, S1, σd, Evo.refl _ _, R1, rs.evo e1, PostS.evo p e1⟩
      · rintro i σ' H' _ ⟨ι', S', σd', ev, _⟩
        exact hG ι' H' ev
      · rintro i xv σ' H' H'' hlt ⟨ι', S', σd', ev0, R0, rs0, pp0⟩ yy
        obtain ⟨w, hw, ey, R', rw1⟩ := hT Y (.inl rfl) ι' H' S' i xv H'' hlt ev0 R0 yy
        have ev := ev0.trans ey
        have rs' := rs0.evo ey
        have pp := PostS.evo pp0 ey
        have ed : items.drop i = w :: items.drop (i + 1) := by
          rw [List.drop_eq_getElem_cons hlt]
          rw [List.getElem?_eq_getElem hlt] at hw
          cases hw; rfl
        rw [ed] at pp
        have pp : PostS X.K G Y ι' H'' (match asg g w σd' with
          | some σ' => (match ex cl b σ' S' with
            | .nx σ S => fLoop g (ex cl b) (items.drop (i + 1)) σ S
            | .ct σ S => fLoop g (ex cl b) (items.drop (i + 1)) σ S
            | .bk σ S => .nx σ S
            | r => r)
          | none => .bad) D W := pp
        cases ha : asg g w σd' with
        | none => rw [ha] at pp; exact pp.elim
        | some σa =>
          rw [ha] at pp
          refine asgG vs g w xv σd' σa σ' _ hv ha rw1 rs' fun σ2 rs2 _ => ⟨ι', Y, S', σa, R', rs2, ?_⟩
          have pp : PostS X.K G Y ι' H'' (match ex cl b σa S' with
            | .nx σ S => fLoop g (ex cl b) (items.drop (i + 1)) σ S
            | .ct σ S => fLoop g (ex cl b) (items.drop (i + 1)) σ S
            | .bk σ S => .nx σ S
            | r => r) D W := pp
          cases er : ex cl b σa S' with
          | nx σ3 S3 => rw [er] at pp; exact fun ι3 H3 σ4 e3 R3 rs3 => ⟨ι3, S3, σ3, ev.trans e3, R3, rs3, PostS.evo pp e3⟩
          | ct σ3 S3 => rw [er] at pp; exact fun ι3 H3 σ4 e3 R3 rs3 => ⟨ι3, S3, σ3, ev.trans e3, R3, rs3, PostS.evo pp e3⟩
          | bk σ3 S3 => rw [er] at pp; exact pp
          | rt w S3 => rw [er] at pp; exact pp
          | xc c σ3 S3 => rw [er] at pp; exact pp
          | bad => rw [er] at pp; exact pp
      · rintro σ' H' ⟨ι', S', σd', ev, R', rs', pp⟩
        rw [List.drop_length] at pp
        exact PostS.nx pp R' rs'
theorem ss_nil : PSs X [] (tS X.K G (ex cl .nil) W) := pss_nil.imp fun D σ H q => by
  obtain ⟨ι, Y, S, σd, R, rs, p⟩ := q
  exact PostS.nx p R rs
theorem ss_seq {a b : Sm} {rest : List Stmt} (ha : PS X st (tS X.K G (ex cl a) W)) (hb : PSs X rest (tS X.K G (ex cl b) W)) : PSs X (st :: rest) (tS X.K G (ex cl (.seq a b)) W) := by
  refine (pss_cons ha hb).imp fun D σ H q => ?_
  obtain ⟨ι, Y, S, σd, R, rs, p⟩ := q
  have p : PostS X.K G Y ι H (match ex cl a σd S with | .nx σ S => ex cl b σ S | r => r) D W := p
  refine ⟨ι, Y, S, σd, R, rs, ?_⟩
  cases er : ex cl a σd S with
  | nx σ2 S2 => rw [er] at p; exact fun ι3 H3 σ3 e3 R3 rs3 => ⟨ι3, Y, S2, σ2, R3, rs3, PostS.evo p e3⟩
  | ct σ2 S2 => rw [er] at p; exact p
  | bk σ2 S2 => rw [er] at p; exact p
  | rt w S2 => rw [er] at p; exact p
  | xc c σ2 S2 => rw [er] at p; exact p
  | bad => rw [er] at p; exact p
end
end Dy

end
section
set_option Elab.async false
set_option linter.all false
set_option maxRecDepth 100000
set_option maxHeartbeats 400000
/-! Dy, part N: the checker of statements and its soundness; functions. -/
namespace Dy
open PySem PySem.Spec PyProof.Rows L2

def noComp : Expr → Bool
  | .ListComp .. => false
  | .SetComp .. => false
  | .DictComp .. => false
  | _ => true
theorem noComp_none {e : Expr} {l : Nat} {env : Env} (h : noComp e = true) : swapsWith e none l env = pure false := by
  cases e <;> first | rfl | cases h
def isNm : Tg → Bool
  | .nm _ => true
  | _ => false
mutual
def chkS (T : GT) (N : List Str) : Sm → Scn → (Str → Bool) → Kd → Stmt → Bool
  | .set g e, sc, fn, kd, x => match x with
    | .Assign [tg] v _ => chkG N sc fn g tg && (inOwn (List.range N.length) g && (chkE T N e false sc fn kd v && (noneSw sc tg v && noStar tg)))
    | _ => false
  | .par2 i j a b, sc, fn, kd, x => match x with
    | .Assign [.Tuple [.Name x px, .Name y py] _ _] (.Tuple [ea, eb] _ _) _ => decide (N[i]? = some x ∧ N[j]? = some y ∧ i ≠ j ∧ sc.lookup x = some .local ∧ sc.lookup y = some .local ∧ py.line = px.line ∧ x ≠ y) &&
        ([ea, eb].all noStar && (![ea, eb].all (foldedForSure 8) && (![ea, eb].all (constantsAlone 8) && (chkE T N a false sc fn kd ea && chkE T N b false sc fn kd eb))))
    | _ => false
  | .par3 i j l a b c, sc, fn, kd, x => match x with
    | .Assign [.Tuple [.Name x px, .Name y py, .Name z pz] _ _] (.Tuple [ea, eb, ec] _ _) _ => decide (N[i]? = some x ∧ N[j]? = some y ∧ N[l]? = some z ∧ i ≠ j ∧ i ≠ l ∧ j ≠ l) && (decide (sc.lookup x = some .local ∧ sc.lookup y = some .local ∧ sc.lookup z = some .local ∧ py.line = px.line ∧ pz.line = px.line ∧ x ≠ y ∧ x ≠ z ∧ y ≠ z) &&
        ([ea, eb, ec].all noStar && (![ea, eb, ec].all (foldedForSure 8) && (![ea, eb, ec].all (constantsAlone 8) && (chkE T N a false sc fn kd ea && (chkE T N b false sc fn kd eb && chkE T N c false sc fn kd ec))))))
    | _ => false
  | .setIx o i v, sc, fn, kd, x => match x with
    | .Assign [.Subscript eo ei _] ev _ => noSl ei && (chkE T N o false sc fn kd eo && (chkE T N i false sc fn kd ei && chkE T N v false sc fn kd ev))
    | _ => false
  | .aug i o e, sc, fn, kd, x => match x with
    | .AugAssign (.Name x _) op ea _ => decide (op = bopA o ∧ N[i]? = some x) && (isLoc sc fn x && chkE T N e false sc fn kd ea)
    | _ => false
  | .expr e, sc, fn, kd, x => match x with
    | .Expr ea _ => noComp ea && chkE T N e false sc fn kd ea
    | _ => false
  | .ifs c a b, sc, fn, kd, x => match x with
    | .If ec pa pb _ => chkE T N c false sc fn kd ec && (chkSs T N a sc fn kd pa && chkSs T N b sc fn kd pb)
    | _ => false
  | .whl c b, sc, fn, kd, x => match x with
    | .While ec pb [] _ => chkE T N c false sc fn kd ec && chkSs T N b sc fn kd pb
    | _ => false
  | .forr g it b, sc, fn, kd, x => match x with
    | .For tg iter pb [] _ => chkG N sc fn g tg && (inOwn (List.range N.length) g && (noSet iter && ((itTg it tg && chkE T N it true sc fn kd iter) && chkSs T N b sc fn kd pb)))
    | _ => false
  | .ret e, sc, fn, kd, x => match x with
    | .Return (some ea) _ => chkE T N e false sc fn kd ea
    | .Return none _ => noB e
    | _ => false
  | .rais c, sc, fn, kd, x => match x with
    | .Raise (some (.Call (.Name y _) [.Constant (.str _) _ _] [] _)) none _ => decide (y = c) && (isGl sc c && T.excs.contains c)
    | _ => false
  | .pass, sc, fn, kd, x => match x with
    | .Pass _ => true
    | .Expr (.Constant (.str _) _ _) _ => true
    | _ => false
  | .brk, sc, fn, kd, x => match x with
    | .Break _ => true
    | _ => false
  | .cnt, sc, fn, kd, x => match x with
    | .Continue _ => true
    | _ => false
  | .nil, _, _, _, _ => false
  | .seq _ _, _, _, _, _ => false
  | .blk _ _, _, _, _, _ => false
def chkSs (T : GT) (N : List Str) : Sm → Scn → (Str → Bool) → Kd → List Stmt → Bool
  | .nil, _, _, _, as => as.isEmpty
  | .seq a b, sc, fn, kd, as => match as with
    | st :: rest => chkS T N a sc fn kd st && chkSs T N b sc fn kd rest
    | [] => false
  | .blk _ b, sc, fn, kd, as => chkSs T N b sc fn kd as
  | _, _, _, _, _ => false
end
structure SndS (T : GT) (N : List Str) (G : Glob) (cl : Clr) (lv : Nat) (m : Sm) : Prop where
  s : ∀ (sc : Scn) (fn : Str → Bool) (kd : Kd) (W : WX) (X : Cx) (a : Stmt), XOk X G T cl lv N sc fn kd W → PassesOwn (model X.prog X.w) X.A X.env X.xe → chkS T N m sc fn kd a = true → PS X a (tS X.K G (ex cl m) W)
  l : ∀ (sc : Scn) (fn : Str → Bool) (kd : Kd) (W : WX) (X : Cx) (as : List Stmt), XOk X G T cl lv N sc fn kd W → PassesOwn (model X.prog X.w) X.A X.env X.xe → chkSs T N m sc fn kd as = true → PSs X as (tS X.K G (ex cl m) W)
section
variable {T : GT} {N : List Str} {G : Glob} {cl : Clr} {lv : Nat}
theorem SndS.mk1 {m : Sm} (h : ∀ (sc : Scn) (fn : Str → Bool) (kd : Kd) (W : WX) (X : Cx) (a : Stmt), XOk X G T cl lv N sc fn kd W → PassesOwn (model X.prog X.w) X.A X.env X.xe → chkS T N m sc fn kd a = true → PS X a (tS X.K G (ex cl m) W))
    (hl : ∀ sc fn kd as, chkSs T N m sc fn kd as = false) : SndS T N G cl lv m := ⟨h, fun sc fn kd W X as C hp z => by rw [hl] at z; cases z⟩
theorem snd_set (g : Tg) (e : E) : SndS T N G cl lv (.set g e) := .mk1 (fun sc fn kd W X a C hp h => by
    unfold chkS at h
    split at h
    · rename_i tg v pos
      simp only [Bool.and_eq_true] at h
      obtain ⟨h1, h2, h3, h4, h5⟩ := h
      have hg := chkG_ok (T := T) (G := G) (cl := cl) (lv := lv) C g tg h1
      have he := (snd (T := T) (N := N) (G := G) (cl := cl) (lv := lv) e).e sc fn kd W X v C h3
      by_cases hsw : swC sc tg v = true
      · -- the comprehension's local
        cases tg with
        | Name y py =>
          cases g with
          | nm i =>
            have hi : (decide (N[i]? = some y) && isLoc sc fn y) = true := h1
            rw [Bool.and_eq_true, decide_eq_true_eq] at hi
            have keyN : ∀ e : E, mkE e = true → chkE T N e false sc fn kd v = true → PS X (.Assign [.Name y py] v pos) (tAsg (tN X.K G (ev cl e) W) (gName i)) := by
              intro e hm h3
              cases v with
              | ListComp elt gs scope p =>
                cases e with
                | lc g' it c e' own =>
                  unfold chkE at h3
                  split at h3
                  · rename_i elt' tg' iter' ifs' isas scope' p' eq
                    cases eq
                    simp only [Bool.and_eq_true] at h3
                    obtain ⟨a0, a1, a2, a3, ⟨a40, a4⟩, a5, a6, a7⟩ := h3
                    rw [decide_eq_true_eq] at a0
                    subst a0
                    have hyl : sc.lookup y = some .local := by
                      have z : (decide (sc.lookup y = some .local) && _) = true := hsw
                      rw [Bool.and_eq_true, decide_eq_true_eq] at z
                      exact z.1
                    obtain ⟨tt, ht, hts⟩ := ifs_ok (G := G) (cl := cl) (lv := lv) (snd c) a6 X
                    exact s_setLc C hi.1 hyl hsw a1 a2 a3 ht ((snd it).i sc fn kd W X tg' _ C a40 a4) (fun X' eK C' => by rw [← eK]; exact chkG_ok C' g' tg' a5) hts (fun X' eK C' => by rw [← eK]; exact (snd e').e _ _ kd _ X' _ C' a7)
                  · cases h3
                | _ => first | (cases hm; done) | (cases h3; done)
              | DictComp kx elt gs scope p =>
                cases e with
                | dc g' it c k' e' own =>
                  unfold chkE at h3
                  split at h3
                  · rename_i kx' elt' tg' iter' ifs' isas scope' p' eq
                    cases eq
                    simp only [Bool.and_eq_true] at h3
                    obtain ⟨a0, a1, a2, a3, ⟨a40, a4⟩, a5, a6, a7, a8⟩ := h3
                    rw [decide_eq_true_eq] at a0
                    subst a0
                    have hyl : sc.lookup y = some .local := by
                      have z : (decide (sc.lookup y = some .local) && _) = true := hsw
                      rw [Bool.and_eq_true, decide_eq_true_eq] at z
                      exact z.1
                    obtain ⟨tt, ht, hts⟩ := ifs_ok (G := G) (cl := cl) (lv := lv) (snd c) a6 X
                    exact s_setDc C hi.1 hyl hsw a1 a2 a3 ht ((snd it).i sc fn kd W X tg' _ C a40 a4) (fun X' eK C' => by rw [← eK]; exact chkG_ok C' g' tg' a5) hts (fun X' eK C' => by rw [← eK]; exact (snd k').e _ _ kd _ X' _ C' a7) (fun X' eK C' => by rw [← eK]; exact (snd e').e _ _ kd _ X' _ C' a8)
                  · cases h3
                | _ => first | (cases hm; done) | (cases h3; done)
              | SetComp elt gs scope p => cases e <;> first | (cases hm; done) | (cases h3; done)
              | _ => cases hsw
            have key : PS X (.Assign [.Name y py] v pos) (tAsg (tE X.K G (ev cl e) W) (gName i)) := by
              have toN : ∀ e : E, mkE e = true → chkE T N e false sc fn kd v = true → PS X (.Assign [.Name y py] v pos) (tAsg (tE X.K G (ev cl e) W) (gName i)) := fun e hm h3 => (keyN e hm h3).imp fun D σ H q => by
                obtain ⟨ι, Y, S, σd, R, rs, p⟩ := q
                exact ⟨ι, Y, S, σd, R, rs, p.toN⟩
              cases e with
              | obj e1 =>
                unfold chkE at h3
                simp only [Bool.and_eq_true] at h3
                refine (keyN e1 h3.1 h3.2.2).imp fun D σ H q => ?_
                obtain ⟨ι, Y, S, σd, R, rs, p⟩ := q
                exact ⟨ι, Y, S, σd, R, rs, Post.objN p⟩
              | lst _ => exact toN _ rfl h3
              | lc _ _ _ _ _ => exact toN _ rfl h3
              | dc _ _ _ _ _ _ => exact toN _ rfl h3
              | dd _ => exact toN _ rfl h3
              | bn _ _ => exact toN _ rfl h3
              | gn _ _ _ _ _ _ => exact toN _ rfl h3
              | _ => cases v <;> first | (cases hsw; done) | (cases h3; done)
            exact key.imp fun D σ H q => w_set (g := .nm i) h2 D σ H q
          | _ => cases h1
        | _ => cases hsw
      · rw [Bool.not_eq_true] at hsw
        refine (ps_asg he hg (by show swapsWith v (some tg) pos.line X.env = _; rw [swC_ok C.kind C.sc, hsw]) (noneSw_ok C.kind C.sc h4) (by cases tg <;> first | rfl | cases h5)).imp fun D σ H q => w_set h2 D σ H q
    · cases h) (fun _ _ _ _ => rfl)
theorem snd_par2 (i j : Nat) (a b : E) : SndS T N G cl lv (.par2 i j a b) := .mk1 (fun sc fn kd W X x C hp h => by
    unfold chkS at h
    split at h
    · simp only [Bool.and_eq_true, Bool.not_eq_true'] at h
      obtain ⟨h0, h1, h2, h3, h4, h5⟩ := h
      rw [decide_eq_true_eq] at h0
      obtain ⟨a1, a2, a3, a4, a5, a6, a7⟩ := h0
      exact s_par2 C a1 a2 a3 a4 a5 a6 a7 h1 h2 h3 ((snd a).e sc fn kd W X _ C h4) ((snd b).e sc fn kd W X _ C h5)
    · cases h) (fun _ _ _ _ => rfl)
theorem snd_par3 (i j l : Nat) (a b c : E) : SndS T N G cl lv (.par3 i j l a b c) := .mk1 (fun sc fn kd W X x C hp h => by
    unfold chkS at h
    split at h
    · simp only [Bool.and_eq_true, Bool.not_eq_true'] at h
      obtain ⟨h0, h00, h1, h2, h3, h4, h5, h6⟩ := h
      rw [decide_eq_true_eq] at h0 h00
      obtain ⟨a1, a2, a3, a4, a5, a6⟩ := h0
      obtain ⟨b1, b2, b3, b4, b5, b6, b7, b8⟩ := h00
      exact s_par3 C a1 a2 a3 a4 a5 a6 b1 b2 b3 b4 b5 b6 b7 b8 h1 h2 h3 ((snd a).e sc fn kd W X _ C h4) ((snd b).e sc fn kd W X _ C h5) ((snd c).e sc fn kd W X _ C h6)
    · cases h) (fun _ _ _ _ => rfl)
theorem snd_setIx (o i v : E) : SndS T N G cl lv (.setIx o i v) := .mk1 (fun sc fn kd W X x C hp h => by
    unfold chkS at h
    split at h
    · simp only [Bool.and_eq_true] at h
      obtain ⟨h1, h2, h3, h4⟩ := h
      exact s_setIx C (fun l => by rw [swC_ok C.kind C.sc]; rename_i v' _; cases v' <;> rfl) h1 ((snd o).e sc fn kd W X _ C h2) ((snd i).e sc fn kd W X _ C h3) ((snd v).e sc fn kd W X _ C h4)
    · cases h) (fun _ _ _ _ => rfl)
theorem snd_aug (i : Nat) (o : Bop) (e : E) : SndS T N G cl lv (.aug i o e) := .mk1 (fun sc fn kd W X x C hp h => by
    unfold chkS at h
    split at h
    · simp only [Bool.and_eq_true] at h
      obtain ⟨h0, h1, h2⟩ := h
      rw [decide_eq_true_eq] at h0
      obtain ⟨rfl, h0⟩ := h0
      exact s_aug C o h0 h1 ((snd e).e sc fn kd W X _ C h2)
    · cases h) (fun _ _ _ _ => rfl)
theorem snd_expr (e : E) : SndS T N G cl lv (.expr e) := .mk1 (fun sc fn kd W X x C hp h => by
    unfold chkS at h
    split at h
    · rw [Bool.and_eq_true] at h
      exact s_expr (noComp_none h.1) ((snd e).e sc fn kd W X _ C h.2)
    · cases h) (fun _ _ _ _ => rfl)
theorem snd_ifs (c : E) {a b : Sm} (ia : SndS T N G cl lv a) (ib : SndS T N G cl lv b) : SndS T N G cl lv (.ifs c a b) := .mk1 (fun sc fn kd W X x C hp h => by
    unfold chkS at h
    split at h
    · simp only [Bool.and_eq_true] at h
      obtain ⟨h1, h2, h3⟩ := h
      exact s_ifs ((snd c).t sc fn kd W X _ C h1).1 (ia.l sc fn kd W X _ C hp h2) (ib.l sc fn kd W X _ C hp h3)
    · cases h) (fun _ _ _ _ => rfl)
theorem snd_whl (c : E) {b : Sm} (ib : SndS T N G cl lv b) : SndS T N G cl lv (.whl c b) := .mk1 (fun sc fn kd W X x C hp h => by
    unfold chkS at h
    split at h
    · simp only [Bool.and_eq_true] at h
      exact s_whl hp ((snd c).t sc fn kd W X _ C h.1).1 (ib.l sc fn kd W X _ C hp h.2)
    · cases h) (fun _ _ _ _ => rfl)
theorem snd_for (g : Tg) (it : E) {b : Sm} (ib : SndS T N G cl lv b) : SndS T N G cl lv (.forr g it b) := .mk1 (fun sc fn kd W X x C hp h => by
    unfold chkS at h
    split at h
    · rename_i tg iter pb pos
      simp only [Bool.and_eq_true] at h
      obtain ⟨h1, h2, h3, ⟨h40, h4⟩, h5⟩ := h
      exact s_for C hp h2 h3 ((snd it).i sc fn kd W X tg _ C h40 h4) (chkG_ok C g tg h1) (ib.l sc fn kd W X _ C hp h5)
    · cases h) (fun _ _ _ _ => rfl)
theorem snd_ret (e : E) : SndS T N G cl lv (.ret e) := .mk1 (fun sc fn kd W X x C hp h => by
    unfold chkS at h
    split at h
    · exact s_ret ((snd e).e sc fn kd W X _ C h)
    · unfold noB at h
      split at h
      · exact s_retN
      · cases h
    · cases h) (fun _ _ _ _ => rfl)
theorem snd_rais (c : Str) : SndS T N G cl lv (.rais c) := .mk1 (fun sc fn kd W X x C hp h => by
    unfold chkS at h
    split at h
    · simp only [Bool.and_eq_true] at h
      obtain ⟨h0, h1, h2⟩ := h
      rw [decide_eq_true_eq] at h0
      subst h0
      obtain ⟨gl, d, _⟩ := C.gl h1
      obtain ⟨Cc, B, newId, initId, bmB, f1, f2, f3, f4, f5, f6, f7⟩ := C.g.excs _ h2
      refine (ps_raise C.calm C.tk (pmk_own f1 f2 f3 f4 (raises_own f5 f6) gl d)).imp fun D σ H q => ?_
      obtain ⟨ι, Y, S, σd, R, rs, p⟩ := q
      obtain ⟨C2, hc, p⟩ := p
      rw [f7] at hc
      cases hc
      exact p ι H σ (Evo.refl _ _) R rs
    · cases h) (fun _ _ _ _ => rfl)
theorem snd_pass : SndS T N G cl lv .pass := .mk1 (fun sc fn kd W X x C hp h => by
    have key : ∀ D σ H, tS X.K G (ex cl .pass) W D σ H → tNext D σ H := fun D σ H q => by
      obtain ⟨ι, Y, S, σd, R, rs, p⟩ := q
      exact PostS.nx p R rs
    unfold chkS at h
    split at h
    · exact ps_pass.imp key
    · exact ps_doc.imp key
    · cases h) (fun _ _ _ _ => rfl)
theorem snd_brk : SndS T N G cl lv .brk := .mk1 (fun sc fn kd W X x C hp h => by
    unfold chkS at h
    split at h
    · exact ps_break.imp fun D σ H q => by
        obtain ⟨ι, Y, S, σd, R, rs, p⟩ := q
        exact p ι H σ (Evo.refl _ _) R rs
    · cases h) (fun _ _ _ _ => rfl)
theorem snd_cnt : SndS T N G cl lv .cnt := .mk1 (fun sc fn kd W X x C hp h => by
    unfold chkS at h
    split at h
    · exact ps_continue.imp fun D σ H q => by
        obtain ⟨ι, Y, S, σd, R, rs, p⟩ := q
        exact p ι H σ (Evo.refl _ _) R rs
    · cases h) (fun _ _ _ _ => rfl)
theorem snd_nilS : SndS T N G cl lv .nil := ⟨fun sc fn kd W X x C hp h => (by cases h), fun sc fn kd W X as C hp h => by
  unfold chkSs at h
  cases as with
  | nil => exact ss_nil
  | cons _ _ => cases h⟩
theorem snd_seq {a b : Sm} (ia : SndS T N G cl lv a) (ib : SndS T N G cl lv b) : SndS T N G cl lv (.seq a b) := ⟨fun sc fn kd W X x C hp h => (by cases h), fun sc fn kd W X as C hp h => by
  unfold chkSs at h
  cases as with
  | nil => cases h
  | cons st rest =>
    rw [Bool.and_eq_true] at h
    exact ss_seq (ia.s sc fn kd W X _ C hp h.1) (ib.l sc fn kd W X _ C hp h.2)⟩
theorem snd_blk (vs : List Nat) {b : Sm} (ib : SndS T N G cl lv b) : SndS T N G cl lv (.blk vs b) := ⟨fun sc fn kd W X x C hp h => (by cases h), fun sc fn kd W X as C hp h => by
  refine (ib.l sc fn kd W X as C hp h).imp fun D σ H q => ?_
  obtain ⟨ι, Y, S, σd, R, rs, p⟩ := q
  exact ⟨ι, Y, S, σd, R, rs, PostS.blk R p⟩⟩
/-- THE soundness of statements -/
theorem sndS (m : Sm) : SndS T N G cl lv m := by
  induction m with
  | set g e => exact snd_set g e
  | par2 i j a b => exact snd_par2 i j a b
  | par3 i j l a b c => exact snd_par3 i j l a b c
  | setIx o i v => exact snd_setIx o i v
  | aug i o e => exact snd_aug i o e
  | expr e => exact snd_expr e
  | ifs c a b ia ib => exact snd_ifs c ia ib
  | whl c b ib => exact snd_whl c ib
  | forr g it b ib => exact snd_for g it ib
  | ret e => exact snd_ret e
  | rais c => exact snd_rais c
  | pass => exact snd_pass
  | brk => exact snd_brk
  | cnt => exact snd_cnt
  | nil => exact snd_nilS
  | seq a b ia ib => exact snd_seq ia ib
  | blk vs b ib => exact snd_blk vs ib
end

/-! ### functions -/
/-- what a def's code object must tell -/
def FnKd (base : Heap) (mg : Str → Option Value) (G : Glob) (q : Str) (cdv : Value) : Kd → Prop
  | .no => True
  | .gen => ∃ c P, cdv = .ref c ∧ GxR.TabB base mg c P ∧ P ∈ G.gens ∧ ∀ p ∈ G.tabs, p.1 ≠ P
  | .lam => ∃ c P, cdv = .ref c ∧ LamX.TabB base mg c P ∧ (P, q ++ ".<locals>." ++ "<lambda>") ∈ G.tabs ∧ (∀ p ∈ G.tabs, p.1 = P → p.2 = q ++ ".<locals>." ++ "<lambda>") ∧ P ∉ G.gens
/-- a def of the module with its own small text -/
structure FnF (K : PySem.W.Frag) (mg : Str → Option Value) (base : Heap) (G : Glob) (T : GT) (x : Str) (d : FD) : Prop where
  ex : ∃ (f : Addr) (params : Arguments) (body : List Stmt) (scope : Scope) (dV kV doc pm cdv ct oc : Value) (an od : Option Addr) (osl : Array (Option Value)) (N ps : List Str) (kd : Kd),
    mg x = some (.ref f) ∧ PySem.W.keepIn K (.ref f) = true ∧ K.lookup f = some ⟨oc, od, .func (PySem.W.fnOf x x params body scope dV kV doc pm an cdv ct), osl⟩ ∧ PySem.W.codeIn K cdv x = true ∧ FnScope N ps scope ∧
    Binds K (PySem.W.fnOf x x params body scope dV kV doc pm an cdv ct) ps [] ∧ ps.length = d.np ∧ N.length = d.ns ∧ chkSs T N d.body scope.names (fun _ => true) kd body = true ∧ FnKd base mg G x cdv kd
theorem run_arity {FT : Str → Option FD} {n : Nat} {x : Str} {d : FD} (h : FT x = some d) {ws : List Wv} {S : Sto} (hl : ws.length ≠ d.np) : run FT n x ws S = .bad := by
  cases n with
  | zero => rfl
  | succ n =>
    show (match FT x with | none => Res.bad | some d => if ws.length = d.np then (if d.cut then cutR S (leave (ex (run FT n) d.body (startW d.ns ws) S)) else leave (ex (run FT n) d.body (startW d.ns ws) S)) else .bad) = .bad
    rw [h]
    exact if_neg hl
theorem start_rep {K : PySem.W.Frag} {H : Hp} {ι : Io} {Y : Addr → Prop} {ws : List Wv} {vs : List V} (N : List Str) (l : RepL K H ι Y ws vs) : RepS K H ι Y (startW N.length ws) (L2.start N vs) := by
  unfold startW L2.start
  refine ⟨by simp [l.length], fun i w e => ?_⟩
  by_cases hi : i < ws.length
  · rw [List.getElem?_append_left (by simpa using hi), List.getElem?_map] at e
    cases e1 : ws[i]? with
    | none => rw [e1] at e; cases e
    | some w' =>
      rw [e1] at e
      cases e
      obtain ⟨v, h1, h2⟩ := l.get e1
      refine ⟨v, ?_, h2⟩
      rw [List.getElem?_append_left (by rw [List.length_map, ← l.length]; exact hi), List.getElem?_map, h1]
      rfl
  · rw [List.getElem?_append_right (by simpa using hi), List.getElem?_replicate] at e
    split at e <;> cases e
theorem fn_run {P : Program} {w : World} {K : PySem.W.Frag} {mg : Str → Option Value} {base : Heap} {G : Glob} {T : GT} {FT : Str → Option FD} {n : Nat} (g : GOk P w K mg base G T (run FT n) (12 * n)) {x : Str} {d : FD} (hx : FT x = some d)
    {f : Addr} {params : Arguments} {body : List Stmt} {scope : Scope} {dV kV doc pm cdv ct oc : Value} {an od : Option Addr} {osl : Array (Option Value)} {N ps : List Str} {kd : Kd}
    (h3 : K.lookup f = some ⟨oc, od, .func (PySem.W.fnOf x x params body scope dV kV doc pm an cdv ct), osl⟩) (h4 : PySem.W.codeIn K cdv x = true) (h5 : FnScope N ps scope) (h7 : ps.length = d.np) (h8 : N.length = d.ns) (h9 : chkSs T N d.body scope.names (fun _ => true) kd body = true) (h10 : FnKd base mg G x cdv kd) :
    FnOk P w K mg base (CX P w) (12 * (n + 1)) f (PySem.W.fnOf x x params body scope dV kV doc pm an cdv ct) ps (spC K G (run FT (n + 1) x)) := by
  refine fn_of (N := N) (ps := ps) (k := 12 * n + 11) h3 h4 h5 (fun vs H Q E h => ?_) (fun A outer s H vs Q E hr h => ?_)
  · obtain ⟨ι, Y, S, ws, R, l, p⟩ := h
    rw [h7, ← l.length]
    by_cases hl : ws.length = d.np
    · exact hl
    · rw [run_arity hx hl] at p
      exact p.elim
  · obtain ⟨ι, Y, S, ws, R, l, p⟩ := h
    have C : XOk (cxOf (CX P w) P w K mg base N x scope f cdv A outer s H E) G T (run FT n) (12 * n) N scope.names (fun _ => true) kd (fun cls d _ H => E cls d H) :=
      { g := g, hN := rfl, nd := h5.nd, kind := h5.kind, sc := rfl, fn := rfl, calm := rfl, room := hr.mono (Nat.add_le_add_left (by decide) _), tk := takes_of rfl rfl rfl rfl,
        kd := by
          cases kd with
          | no => trivial
          | gen =>
            obtain ⟨c, Pt, a1, a2, a3, a4⟩ := h10
            exact ⟨c, Pt, a1, a2, a3, a4, hr.mono (Nat.add_le_add_left (by decide) _)⟩
          | lam =>
            obtain ⟨c, Pt, a1, a2, a3, a4, a5⟩ := h10
            exact ⟨c, Pt, a1, a2, a3, a4, a5, hr.mono (Nat.add_le_add_left (by decide) _)⟩ }
    refine ⟨_, (sndS (T := T) (N := N) (G := G) (cl := run FT n) (lv := 12 * n) d.body).l scope.names _ kd _ _ body C (passes_of rfl) h9, ι, Y, S, startW d.ns ws, R, by rw [← h8]; exact start_rep N l, ?_⟩
    have p : Post K G Y ι H (match FT x with | none => Res.bad | some d => if ws.length = d.np then (if d.cut then cutR S (leave (ex (run FT n) d.body (startW d.ns ws) S)) else leave (ex (run FT n) d.body (startW d.ns ws) S)) else .bad) Q E := p
    rw [hx] at p
    by_cases hl : ws.length = d.np
    · have p : Post K G Y ι H (if ws.length = d.np then (if d.cut then cutR S (leave (ex (run FT n) d.body (startW d.ns ws) S)) else leave (ex (run FT n) d.body (startW d.ns ws) S)) else .bad) Q E := p
      rw [if_pos hl] at p
      have p : Post K G Y ι H (leave (ex (run FT n) d.body (startW d.ns ws) S)) Q E := by
        cases hc : d.cut with
        | true => rw [hc] at p; exact Post.cut R p
        | false => rw [hc] at p; exact p
      show PostS K G Y ι H (ex (run FT n) d.body (startW d.ns ws) S) _ _
      cases er : ex (run FT n) d.body (startW d.ns ws) S with
      | nx σ2 S2 => rw [er] at p; exact fun ι' H' σ' ev R' _ => p ι' H' _ ev R' .non
      | rt w2 S2 => rw [er] at p; exact p
      | bk σ2 S2 => rw [er] at p; exact p.elim
      | ct σ2 S2 => rw [er] at p; exact p.elim
      | xc c σ2 S2 =>
        rw [er] at p
        obtain ⟨Cc, hc, p⟩ := p
        exact ⟨Cc, hc, fun ι' H' σ' ev R' _ => p ι' H' ev R'⟩
      | bad => rw [er] at p; exact p.elim
    · have p : Post K G Y ι H (if ws.length = d.np then (if d.cut then cutR S (leave (ex (run FT n) d.body (startW d.ns ws) S)) else leave (ex (run FT n) d.body (startW d.ns ws) S)) else .bad) Q E := p
      rw [if_neg hl] at p
      exact p.elim
theorem fn_ok {P : Program} {w : World} {K : PySem.W.Frag} {mg : Str → Option Value} {base : Heap} {G : Glob} {T : GT} {FT : Str → Option FD} {n : Nat} (g : GOk P w K mg base G T (run FT n) (12 * n)) {x : Str} {d : FD} (hx : FT x = some d) (F : FnF K mg base G T x d) :
    ∃ f fd ps, mg x = some (.ref f) ∧ PySem.W.keepIn K (.ref f) = true ∧ Binds K fd ps [] ∧ FnOk P w K mg base (CX P w) (12 * (n + 1)) f fd ps (spC K G (run FT (n + 1) x)) := by
  obtain ⟨f, params, body, scope, dV, kV, doc, pm, cdv, ct, oc, an, od, osl, N, ps, kd, h1, h2, h3, h4, h5, h6, h7, h8, h9, h10⟩ := F.ex
  exact ⟨f, _, ps, h1, h2, h6, fn_run g hx h3 h4 h5 h7 h8 h9 h10⟩
/-! ### lambdas that capture nothing, run -/
def noLam (T : GT) : GT := { T with lamc := fun _ _ => false }
theorem GOk.noLam {P : Program} {w : World} {K : PySem.W.Frag} {mg : Str → Option Value} {base : Heap} {G : Glob} {T : GT} {cl : Clr} {lv : Nat} (g : GOk P w K mg base G T cl lv) : GOk P w K mg base G (Dy.noLam T) cl lv :=
  ⟨g.fns, g.cons, g.bis, g.tolds, g.excs, fun k x h => (by cases h), g.lams⟩
/-- the context of such a lambda's body -/
def lam0 (P : Program) (w : World) (K : PySem.W.Frag) (mg : Str → Option Value) (base : Heap) (q : Str) (scope : Scope) (f c : Addr) (A : Around) (outer : List Env) (s : Shared) (H : Hp) (E : XK) : Cx where
  prog := P
  w := w
  K := K
  mg := mg
  base := base
  A := A.deeper (PySem.W.envX q scope s.heap.objs.size f (.ref c) [])
  N := []
  s_0 := s
  H_0 := H
  env := PySem.W.envX q scope s.heap.objs.size f (.ref c) []
  outer := outer
  stack := PySem.W.envX q scope s.heap.objs.size f (.ref c) [] :: outer
  ex := []
  fn := fun _ => false
  calm := true
  pn := []
  xe := fun e s' => wpAny (model P w) (A.deeper (PySem.W.envX q scope s.heap.objs.size f (.ref c) [])) (leaving (PySem.W.envX q scope s.heap.objs.size f (.ref c) []) e) (fun _ s'' => CX P w outer H s E e s'') (fun e' s'' => CX P w outer H s E e' s'') s'
theorem lam0_start {P : Program} {w : World} {K : PySem.W.Frag} {mg : Str → Option Value} {base : Heap} {q : Str} {scope : Scope} {f c : Addr} {A : Around} {outer : List Env} {s : Shared} {H : Hp} {E : XK} {h₁ : Heap} {tk : Nat} {m : Str → Option Value} (cs : Closed scope) (e0 : Env0 P w K mg base A outer s H) (hd : A.handled = none)
    (hns : h₁.Ns s.heap.objs.size m) (kp : ∀ b o, s.heap.get? b = some o → h₁.get? b = some o) :
    Inv (lam0 P w K mg base q scope f c A outer s H E) [] [] H { s with heap := h₁, toks := tk } := by
  have noA : ∀ b : Addr, b ∉ (lam0 P w K mg base q scope f c A outer s H E).ex := fun b z => absurd (show b ∈ ([] : List Addr) from z) (by simp)
  refine ⟨⟨e0.mod, cs.kind, rfl, rfl, Nat.le_refl _, fun y z c h1 _ => ?_, fun y hy => ?_, fun y c z _ => ?_, fun _ => hd, Around.frames_deeper e0.frames, .inr ⟨rfl, rfl⟩, fun b z => absurd z (noA b), e0.bs, e0.bsz, fun b _ _ => noA b, fun b z => absurd z (noA b), e0.funs, e0.frf⟩,
    rfl, e0.bare, Un.kept kp, ⟨_, hns, fun i y v h1 h2 h3 => ?_⟩, fun y c h => ?_, e0.hok.fresh (Nat.le_refl _), fun y c h => ?_, fun p hp => absurd (show p ∈ ([] : List (Addr × Obj)) from hp) (by simp), e0.hok.kept kp, rfl⟩
  · cases h1
  · have hy : scope.names.lookup y = some .cell ∨ scope.names.lookup y = some .free := hy
    rcases hy with hy | hy
    · exact absurd rfl (cs.no _ (PySem.mem_of_lookup hy)).2.1
    · exact absurd rfl (cs.no _ (PySem.mem_of_lookup hy)).2.2
  · cases z
  · have h1 : ([] : List Str)[i]? = some y := h1
    simp at h1
  · cases h
  · cases h
/-- the IR of such a lambda, as a def's -/
def lamFD (e : E) : FD := ⟨0, 0, .seq (.ret e) .nil, false⟩
theorem lam_run {P : Program} {w : World} {K : PySem.W.Frag} {mg : Str → Option Value} {base : Heap} {G : Glob} {T : GT} {FT : Str → Option FD} {n : Nat} (g : GOk P w K mg base G T (run FT n) (12 * n))
    (hB : ∀ k body scope, G.lamB k body scope → ∃ e, FT (lamName k) = some (lamFD e) ∧ chkE (noLam T) [] e false scope.names (fun _ => false) .no body = true)
    (k : Nat) (A : Around) (outer : List Env) (s : Shared) (H : Hp) (a c : Addr) (q : Str) (Q : VK) (E : XK) (hr : Room (12 * (n + 1)) A) (e0 : Env0 P w K mg base A outer s H) (hf : H a = some (.ext (LamAt G k a c q))) (hco : H c = some (LamX.CodeO c q)) (hsp : spC K G (run FT (n + 1) (lamName k)) [] H Q E) :
    codeAny (model P w) A (.call (.ref a) ⟨[], []⟩) (CR (CX P w) outer P w H s Q E) s := by
  obtain ⟨⟨params, body, scope, pm, ctv, hp, hcl, hb, of1⟩, _, _⟩ := e0.hok a _ hf
  obtain ⟨⟨oc, vs, t, hoc, hdc, hvc⟩, _, _⟩ := e0.hok c _ hco
  obtain ⟨e, hFT, hchk⟩ := hB k body scope hb
  obtain ⟨ι, Y, S, ws, R, l, p⟩ := hsp
  cases l
  have cs := closed_by hcl
  have hpa := noArgs_eq hp
  subst hpa
  have lim : s.heap.NoLimit := e0.mod.nolimit.keeps fun b o e => (e0.bs b o e).1
  refine PySem.W.kla_callFunE hr.depth of1 rfl cs.co cs.gen rfl ⟨c, oc, vs, t, rfl, hoc, hdc, hvc⟩ ?_
  refine wpAny_pure (wpAny_newFunctionEnv (fun y hy => (cs.no y hy).2.1) (fun y hy => absurd hy (by simp)) (fun h₁ hns hsb => ⟨lim.fresh _ hsb, ?_⟩) cs.kind)
  show codeAny _ _ (.expr body (PySem.W.envX q scope s.heap.objs.size a (.ref c) [])) _ _
  have kp : ∀ b o, s.heap.get? b = some o → h₁.get? b = some o := fun b o e => hsb.extBut b o (Nat.ne_of_lt (Heap.lt_size e)) (Heap.get?_push_of_some _ e)
  have J : Inv (lam0 P w K mg base q scope a c A outer s H E) [] [] H { s with heap := h₁, toks := s.toks + ([] : List (Str × Value)).length } := lam0_start cs e0 hr.hd hns kp
  have hr2 : Room (12 * n + 11) (A.deeper (PySem.W.envX q scope s.heap.objs.size a (.ref c) [])) := hr.deeper _
  have C : XOk (lam0 P w K mg base q scope a c A outer s H E) G (noLam T) (run FT n) (12 * n) [] scope.names (fun _ => false) .no (fun cls d _ H => E cls d H) :=
    { g := g.noLam, hN := rfl, nd := List.nodup_nil, kind := cs.kind, sc := rfl, fn := rfl, calm := rfl, room := hr2.mono (Nat.add_le_add_left (by decide) _), tk := takes_of rfl rfl rfl rfl, kd := trivial }
  have pe := (snd (T := noLam T) (N := []) (G := G) (cl := run FT n) (lv := 12 * n) e).e scope.names _ .no _ _ body C hchk
  have ht : tE K G (ev (run FT n) e) (fun cls d _ H => E cls d H) [] H Q := by
    refine ⟨ι, Y, S, [], R, ⟨rfl, fun i w z => by simp at z⟩, ?_⟩
    have p : Post K G Y ι H (match FT (lamName k) with | none => Res.bad | some d => if ([] : List Wv).length = d.np then (if d.cut then cutR S (leave (ex (run FT n) d.body (startW d.ns []) S)) else leave (ex (run FT n) d.body (startW d.ns []) S)) else .bad) Q E := p
    rw [hFT] at p
    have p : Post K G Y ι H (leave (match (ev (run FT n) e [] S).bs [] (fun w S => .rt w S) with | .nx σ S => .nx σ S | r => r)) Q E := p
    show Post K G Y ι H (ev (run FT n) e [] S) Q E
    cases er : ev (run FT n) e [] S with
    | ok w S2 => rw [er] at p; exact p
    | exc c S2 => rw [er] at p; exact p
    | bad => rw [er] at p; exact p.elim
  refine PySem.W.kla_codeExpr (wpAny_mono (pe.run [] _ _ H Q J ht) (fun v s' hq => ?_) fun e s' hq => hq)
  obtain ⟨w', H', J', rv, q'⟩ := hq
  exact ⟨w', H', J'.os, J'.bare, J'.base, J'.hok, rv, q'⟩
/-- what the top has written, all in one -/
structure Top (K : PySem.W.Frag) (mg : Str → Option Value) (base : Heap) (G : Glob) (T : GT) (FT : Str → Option FD) : Prop where
  fns : ∀ x, T.fns.contains x = true → ∃ d, FT x = some d ∧ FnF K mg base G T x d
  cons : ∀ x c, T.cons.lookup x = some c → ∃ u v, mg x = some u ∧ RelV v u ∧ ∀ (H : Hp) (ι : Io) (Y : Addr → Prop), RepV K H ι Y c.w v
  bis : ∀ x, T.bis.contains x = true → mg x = none
  tolds : ∀ x e, (x, e) ∈ T.tolds → ToldFn K mg G x e
  excs : ∀ c, T.excs.contains c = true → ExcF K mg G c
  lamc : ∀ k x, T.lamc k x = true → ∃ params body scope p, x = .Lambda params body scope p ∧ noArgs params = true ∧ closedB scope = true ∧ G.lamB k body scope
  lamB : ∀ k body scope, G.lamB k body scope → ∃ e, FT (lamName k) = some (lamFD e) ∧ chkE (noLam T) [] e false scope.names (fun _ => false) .no body = true
theorem all_ok {P : Program} {w : World} {K : PySem.W.Frag} {mg : Str → Option Value} {base : Heap} {G : Glob} {T : GT} {FT : Str → Option FD} (t : Top K mg base G T FT) : ∀ n, GOk P w K mg base G T (run FT n) (12 * n)
  | 0 => ⟨fun x hx => by
      obtain ⟨d, hd, F⟩ := t.fns x hx
      obtain ⟨f, params, body, scope, dV, kV, doc, pm, cdv, ct, oc, an, od, osl, N, ps, kd, h1, h2, h3, h4, h5, h6, h7, h8, h9, h10⟩ := F.ex
      exact ⟨f, _, ps, h1, h2, h6, ⟨fun vs H Q E h => (by obtain ⟨_, _, _, _, _, _, p⟩ := h; exact p.elim), fun A outer s H args us vs Q E _ _ _ _ h => (by obtain ⟨_, _, _, _, _, _, p⟩ := h; exact p.elim)⟩⟩, t.cons, t.bis, t.tolds, t.excs, t.lamc, fun k A outer s H a c q Q E _ _ _ _ h => (by obtain ⟨_, _, _, _, _, _, p⟩ := h; exact p.elim)⟩
  | n + 1 => ⟨fun x hx => by
      obtain ⟨d, hd, F⟩ := t.fns x hx
      exact fn_ok (all_ok t n) hd F, t.cons, t.bis, t.tolds, t.excs, t.lamc, fun k A outer s H a c q Q E => lam_run (all_ok t n) t.lamB k A outer s H a c q Q E⟩
end Dy

end
section
set_option Elab.async false
set_option linter.all false
set_option maxRecDepth 100000
set_option maxHeartbeats 400000
/-! Dy, part O: from what a head tells to the law's promise. -/
namespace Dy
open PySem PySem.Spec PyProof.Rows L2

/-- a def: its name, its small text, its statement, the slots' names, the parameters, what it makes -/
structure FnDat where
  name : Str
  fd : FD
  st : Stmt
  N : List Str
  ps : List Str
  kd : Kd
/-- a law's data -/
structure Dat where
  fl : List FnDat
  cons : List (Str × Cst)
  bis : List Str
  excs : List Str
  tolds : List (Str × Str × Stmt)
  lams : List E
def Dat.T0 (D : Dat) : GT := { fns := D.fl.map (·.name), cons := D.cons, bis := D.bis, excs := D.excs, tolds := D.tolds.map fun t => (t.1, t.2.1) }
def Dat.lamc (D : Dat) (k : Nat) (x : Expr) : Bool := match x with
  | .Lambda params body scope _ => noArgs params && (closedB scope && (match D.lams[k]? with
    | some e => chkE D.T0 [] e false scope.names (fun _ => false) .no body
    | none => false))
  | _ => false
def Dat.T (D : Dat) : GT := { D.T0 with lamc := D.lamc }
def lamTab : List E → Nat → List (Str × FD)
  | [], _ => []
  | e :: es, k => (lamName k, lamFD e) :: lamTab es (k + 1)
def Dat.FT (D : Dat) (x : Str) : Option FD := (D.fl.map (fun d => (d.name, d.fd)) ++ lamTab D.lams 0).lookup x
def scB (N P : List Str) (sc : Scope) : Bool := decide (sc.kind = .function) && (!sc.isCoroutine && (!sc.isGenerator && (decide N.Nodup && (decide (N.take P.length = P) && ((P.all fun x => decide (sc.names.lookup x = some .local) || decide (sc.names.lookup x = some .cell)) && sc.names.all fun y => decide (y.2 ≠ .free))))))
theorem scB_ok {N P : List Str} {sc : Scope} (h : scB N P sc = true) : FnScope N P sc := by
  unfold scB at h
  simp only [Bool.and_eq_true, Bool.not_eq_true', decide_eq_true_eq, List.all_eq_true, Bool.or_eq_true] at h
  obtain ⟨h1, h2, h3, h4, h5, h6, h7⟩ := h
  exact ⟨h1, h2, h3, h4, h5, h6, h7⟩
def fnB (T : GT) (d : FnDat) : Bool := scB d.N d.ps (defScope d.st) && (decide (d.ps.length = d.fd.np) && (decide (d.N.length = d.fd.ns) && chkSs T d.N d.fd.body (defScope d.st).names (fun _ => true) d.kd (defBody d.st)))
def FnDat.Bind (d : FnDat) : Prop := ∀ (kV doc pm : Value) (an : Option Addr) (cdv ct : Value) (us : List Value), us.length = d.ps.length → bindArgs (PySem.W.fnOf d.name d.name (defArgs d.st) (defBody d.st) (defScope d.st) .none kV doc pm an cdv ct) ⟨us, []⟩ = pure (d.ps.zip us)
def noLamN (x : Str) : Bool := !decide (x.cps[0]? = some 60)

/-! ### what the head is asked -/
def Dat.fa (D : Dat) : List He.Fa := (D.fl.map fun d => He.Fa.glo d.name) ++ ((D.tolds.map fun t => He.Fa.glo t.1) ++ ((D.bis.map fun x => He.Fa.free x) ++ ((D.excs.map fun x => He.Fa.glo x) ++ ((D.excs.map fun x => He.Fa.exc x) ++ (D.excs.map fun x => He.Fa.exm x x true)))))
def defD (x : Str) (st : Stmt) : He.DefD := ⟨(x, none), x, x, defArgs st, defBody st, defScope st, [], []⟩
def Dat.fn (D : Dat) : List He.DefD := (D.fl.map fun d => defD d.name d.st) ++ D.tolds.map fun t => defD t.1 t.2.2
def Dat.tfn (D : Dat) : List FnDat := D.fl.filter fun d => decide (d.kd ≠ .no)
def Dat.tf (D : Dat) : List He.Defn := D.tfn.map fun d => (d.name, none)
def conB (K : PySem.W.Frag) (p : Str × Cst) : Bool := match p.2 with
  | .int i => (He.Fa.int p.1 i).ok K
  | .str s => (He.Fa.str p.1 s).ok K
  | .ints l => (He.Fa.glo p.1).ok K && He.tupB K p.1 (l.map He.Dv.int)
  | .strs l => (He.Fa.glo p.1).ok K && He.tupB K p.1 (l.map He.Dv.str)
def Dat.ex (D : Dat) (K : PySem.W.Frag) : Bool := D.cons.all (conB K) && decide (D.tf.map fun p => (He.cT K p).2).Nodup
abbrev Dat.hk (D : Dat) (n : Nat) : PySem.W.Hook := He.hookX n D.fa D.fn [] D.tf D.ex
def qlam (x : Str) : Str := x ++ ".<locals>." ++ "<lambda>"
/-- what is known of the whole -/
def Dat.G (D : Dat) (K : PySem.W.Frag) : Glob where
  tabs := (D.tfn.filter fun d => decide (d.kd = .lam)).map fun d => ((He.cT K (d.name, none)).2, qlam d.name)
  gens := (D.tfn.filter fun d => decide (d.kd = .gen)).map fun d => (He.cT K (d.name, none)).2
  cls := fun c => if D.excs.contains c = true then some (He.ga K c) else none
  lamB := fun k body scope => ∃ e, D.lams[k]? = some e ∧ chkE D.T0 [] e false scope.names (fun _ => false) .no body = true

theorem look_app {α : Type} {x : Str} {a : α} : ∀ {l r : List (Str × α)}, l.lookup x = some a → (l ++ r).lookup x = some a
  | [], _, h => by simp at h
  | (y, b) :: l, r, h => by
    rw [List.cons_append, List.lookup_cons]
    rw [List.lookup_cons] at h
    cases e : x == y with
    | true => rw [e] at h; exact h
    | false => rw [e] at h; exact look_app h
theorem look_fl {x : Str} : ∀ {fl : List FnDat}, (fl.map (·.name)).contains x = true → ∃ d ∈ fl, d.name = x ∧ (fl.map fun d => (d.name, d.fd)).lookup x = some d.fd
  | [], h => by simp at h
  | d :: fl, h => by
    rw [List.map_cons, List.lookup_cons]
    cases e : x == d.name with
    | true => exact ⟨d, List.mem_cons_self, (beq_iff_eq.mp e).symm, rfl⟩
    | false =>
      rw [List.map_cons, List.contains_cons, e, Bool.false_or] at h
      obtain ⟨d', h1, h2, h3⟩ := look_fl h
      exact ⟨d', List.mem_cons_of_mem _ h1, h2, h3⟩
theorem look_skip {α : Type} {x : Str} : ∀ {l r : List (Str × α)}, (∀ p ∈ l, p.1 ≠ x) → (l ++ r).lookup x = r.lookup x
  | [], _, _ => rfl
  | (y, b) :: l, r, h => by
    have hy : y ≠ x := h (y, b) List.mem_cons_self
    rw [List.cons_append, List.lookup_cons, beq_false_of_ne (Ne.symm hy)]
    exact look_skip fun p hp => h p (List.mem_cons_of_mem _ hp)
theorem lamName_inj {i j : Nat} (h : lamName i = lamName j) : i = j := by
  unfold lamName at h
  simpa using h
theorem look_lam : ∀ {es : List E} {n k : Nat} {e : E}, es[k]? = some e → (lamTab es n).lookup (lamName (n + k)) = some (lamFD e)
  | [], _, _, _, h => by simp at h
  | a :: es, n, 0, e, h => by
    have h : a = e := by simpa using h
    subst h
    show ((lamName n, lamFD a) :: lamTab es (n + 1)).lookup (lamName (n + 0)) = _
    rw [List.lookup_cons]
    simp
  | a :: es, n, k + 1, e, h => by
    have h : es[k]? = some e := by simpa using h
    show ((lamName n, lamFD a) :: lamTab es (n + 1)).lookup (lamName (n + (k + 1))) = _
    rw [List.lookup_cons, beq_false_of_ne (fun z => by have := lamName_inj z; omega)]
    have := look_lam (n := n + 1) h
    rw [show n + 1 + k = n + (k + 1) by omega] at this
    exact this
section
variable {D : Dat} {K : PySem.W.Frag} {w : World} {h : Heap} {mg : Str → Option Value} {base : Heap}
theorem con_ok (X : K.In h) (Gn : h.Ns mainGlobals mg) {x : Str} {c : Cst} (e : conB K (x, c) = true) : ∃ u v, mg x = some u ∧ RelV v u ∧ ∀ (H : Hp) (ι : Io) (Y : Addr → Prop), RepV K H ι Y c.w v := by
  match c, e with
  | .int i, e =>
    obtain ⟨t, ht⟩ := He.int_ok X Gn (x := x) (i := i) e
    exact ⟨_, .int i, ht, ⟨t, rfl⟩, fun _ _ _ => .int i⟩
  | .str s, e =>
    obtain ⟨t, ht⟩ := He.str_ok X Gn (x := x) (z := s) e
    exact ⟨_, .str s, ht, ⟨t, rfl⟩, fun _ _ _ => .str s⟩
  | .ints l, e =>
    obtain ⟨h1, h2⟩ := He.ba (show ((He.Fa.glo x).ok K && He.tupB K x (l.map He.Dv.int)) = true from e)
    refine ⟨_, .ref (He.ga K x), He.glo_ok X Gn h1, rfl, fun H ι Y => ?_⟩
    have hs := He.tupB_ok h2 (fun _ => none)
    rcases hs with hs | hs
    · rcases hs with hs | ⟨_, hs⟩ <;> cases hs
    · refine .ktup hs ?_
      have : ((l.map He.Dv.int).map (He.Dv.v K)) = l.map V.int := by rw [List.map_map]; rfl
      rw [this]
      exact RepL.of_ints l
  | .strs l, e =>
    obtain ⟨h1, h2⟩ := He.ba (show ((He.Fa.glo x).ok K && He.tupB K x (l.map He.Dv.str)) = true from e)
    refine ⟨_, .ref (He.ga K x), He.glo_ok X Gn h1, rfl, fun H ι Y => ?_⟩
    have hs := He.tupB_ok h2 (fun _ => none)
    rcases hs with hs | hs
    · rcases hs with hs | ⟨_, hs⟩ <;> cases hs
    · refine .ktup hs ?_
      have : ((l.map He.Dv.str).map (He.Dv.v K)) = l.map V.str := by rw [List.map_map]; rfl
      rw [this]
      exact RepL.of_strs l
theorem glo_fa {p : Str × Option Str} : He.fAd K (p.1, none) = He.ga K p.1 := rfl
/-- a told def's text -/
def Told (t : Str × Str × Stmt) : Prop := ∃ (a : Str) (Ng : List Str) (j : Nat) (p1 p2 p3 p4 p5 p6 p7 p8 : Pos), FnScope Ng [a] (defScope t.2.2) ∧ Ng[0]? = some a ∧ Vis (defScope t.2.2) a ∧ (a == ("__debug__" : Str)) = false ∧ (a == ("__classdict__" : Str)) = false ∧
  defBody t.2.2 = [.Try [.Return (some (.Call (.Name a p1) [] [] p2)) p3] [.ExceptHandler (some (.Name t.2.1 p4)) none [.Return (some (.Constant (.str t.2.1) j p5)) p6] p7] [] [] p8] ∧ (defScope t.2.2).names.lookup t.2.1 = some .globalImplicit ∧ (t.2.1 == ("__debug__" : Str)) = false ∧
  ∀ (kV doc pm : Value) (an : Option Addr) (cdv ct : Value) (us : List Value), us.length = [a].length → bindArgs (PySem.W.fnOf t.1 t.1 (defArgs t.2.2) (defBody t.2.2) (defScope t.2.2) .none kV doc pm an cdv ct) ⟨us, []⟩ = pure ([a].zip us)
theorem kd_of (c : He.SaysX D.fa D.fn [] D.tf D.ex w h K) (tb : ∀ p ∈ D.tf.map (He.cT K), LamX.TabB base mg p.1 p.2) {d : FnDat} (hd : d ∈ D.fl) {oc dV kV doc pm cdv ct : Value} {an od : Option Addr} {osl : Array (Option Value)}
    (lk : K.lookup (He.fAd K (d.name, none)) = some ⟨oc, od, .func (PySem.W.fnOf d.name d.name (defArgs d.st) (defBody d.st) (defScope d.st) dV kV doc pm an cdv ct), osl⟩) (hcd : PySem.W.codeIn K cdv d.name = true) : FnKd base mg (D.G K) d.name cdv d.kd := by
  obtain ⟨hcon, hnd⟩ := He.ba (show (D.cons.all (conB K) && decide (D.tf.map fun p => (He.cT K p).2).Nodup) = true from c.more)
  have hnd : (D.tf.map fun p => (He.cT K p).2).Nodup := of_decide_eq_true hnd
  have ndf : (D.tfn.map fun d => (He.cT K (d.name, none)).2).Nodup := by
    have e : (D.tf.map fun p => (He.cT K p).2) = D.tfn.map fun d => (He.cT K (d.name, none)).2 := by unfold Dat.tf; rw [List.map_map]; rfl
    rw [← e]; exact hnd
  -- equal tables, equal defs
  have inj : ∀ d ∈ D.tfn, ∀ d' ∈ D.tfn, (He.cT K (d.name, none)).2 = (He.cT K (d'.name, none)).2 → d = d' := by
    have gen : ∀ l : List FnDat, (l.map fun d => (He.cT K (d.name, none)).2).Nodup → ∀ d ∈ l, ∀ d' ∈ l, (He.cT K (d.name, none)).2 = (He.cT K (d'.name, none)).2 → d = d' := by
      intro l
      induction l with
      | nil => intro _ d hd; cases hd
      | cons a l ih =>
        intro nd d hd d' hd' e
        rw [List.map_cons, List.nodup_cons] at nd
        rcases List.mem_cons.mp hd with e1 | h1 <;> rcases List.mem_cons.mp hd' with e2 | h2
        · rw [e1, e2]
        · exact absurd (List.mem_map.mpr ⟨d', h2, by rw [← e, e1]⟩) nd.1
        · exact absurd (List.mem_map.mpr ⟨d, h1, by rw [e, e2]⟩) nd.1
        · exact ih nd.2 d h1 d' h2 e
    exact gen _ ndf
  by_cases hk : d.kd = .no
  · rw [hk]; trivial
  · have hdt : d ∈ D.tfn := List.mem_filter.mpr ⟨hd, decide_eq_true hk⟩
    obtain ⟨cc, rfl⟩ := He.codeIn_ref hcd
    have e1 : He.codeOf K (d.name, none) = cc := He.codeOf_eq lk rfl
    have e2 : (He.cT K (d.name, none)).1 = cc := e1
    have TB := tb (He.cT K (d.name, none)) (List.mem_map.mpr ⟨(d.name, none), List.mem_map.mpr ⟨d, hdt, rfl⟩, rfl⟩)
    rw [e2] at TB
    cases hkd : d.kd with
    | no => exact absurd hkd hk
    | gen =>
      refine ⟨cc, (He.cT K (d.name, none)).2, rfl, ⟨TB.code, TB.bm, TB.gP⟩, List.mem_map.mpr ⟨d, List.mem_filter.mpr ⟨hdt, decide_eq_true hkd⟩, rfl⟩, fun p hp z => ?_⟩
      obtain ⟨d', hd', rfl⟩ := List.mem_map.mp hp
      obtain ⟨h1, h2⟩ := List.mem_filter.mp hd'
      have := inj d' h1 d hdt z
      subst this
      rw [hkd] at h2
      cases h2
    | lam =>
      refine ⟨cc, (He.cT K (d.name, none)).2, rfl, TB, List.mem_map.mpr ⟨d, List.mem_filter.mpr ⟨hdt, decide_eq_true hkd⟩, rfl⟩, fun p hp z => ?_, fun hp => ?_⟩
      · obtain ⟨d', hd', rfl⟩ := List.mem_map.mp hp
        obtain ⟨h1, h2⟩ := List.mem_filter.mp hd'
        have := inj d' h1 d hdt z
        subst this
        rfl
      · obtain ⟨d', hd', z⟩ := List.mem_map.mp hp
        obtain ⟨h1, h2⟩ := List.mem_filter.mp hd'
        have := inj d' h1 d hdt z
        subst this
        rw [hkd] at h2
        cases h2
theorem top_of (X : K.In h) (Gn : h.Ns mainGlobals mg) (c : He.SaysX D.fa D.fn [] D.tf D.ex w h K) (tb : ∀ p ∈ D.tf.map (He.cT K), LamX.TabB base mg p.1 p.2)
    (hfn : D.fl.all (fnB D.T) = true) (hbd : ∀ d ∈ D.fl, d.Bind) (hnl : (D.fl.all fun d => noLamN d.name) = true) (hto : ∀ t ∈ D.tolds, Told t ∧ t.2.1 ∈ D.excs) : Top K mg base (D.G K) D.T D.FT := by
  have cd := c.t.d
  obtain ⟨hcon, hnd⟩ := He.ba (show (D.cons.all (conB K) && decide (D.tf.map fun p => (He.cT K p).2).Nodup) = true from c.more)
  have hnd : (D.tf.map fun p => (He.cT K p).2).Nodup := of_decide_eq_true hnd
  have fact : ∀ {f : He.Fa}, f ∈ D.fa → f.ok K = true := fun hf => cd.facts hf
  have gloF : ∀ d ∈ D.fl, mg d.name = some (.ref (He.ga K d.name)) := fun d hd => He.glo_ok X Gn (fact (List.mem_append_left _ (List.mem_map.mpr ⟨d, hd, rfl⟩)))
  refine { fns := fun x hx => ?_, cons := fun x e hx => ?_, bis := fun x hx => ?_, tolds := fun x e hx => ?_, excs := fun e hx => ?_, lamc := fun k x hx => ?_, lamB := fun k body scope hB => ?_ }
  · obtain ⟨d, hd, rfl, hl⟩ := look_fl (fl := D.fl) hx
    refine ⟨d.fd, look_app hl, ?_⟩
    obtain ⟨fd, F⟩ := cd.defs (d := defD d.name d.st) (List.mem_append_left _ (List.mem_map.mpr ⟨d, hd, rfl⟩))
    have hB : fnB D.T d = true := List.all_eq_true.mp hfn d hd
    unfold fnB at hB
    simp only [Bool.and_eq_true, decide_eq_true_eq] at hB
    obtain ⟨b1, b2, b3, b4⟩ := hB
    have kp := F.kp
    have bnd := F.bindsN (ps := d.ps) (hbd d hd)
    obtain ⟨oc, od, dV, kV, doc, pm, an, cdv, ct, osl, rfl, lk, hcd, _, _⟩ := F.ex
    refine ⟨He.ga K d.name, _, _, _, dV, kV, doc, pm, cdv, ct, oc, an, od, osl, d.N, d.ps, d.kd, gloF d hd, kp, lk, hcd, scB_ok b1, bnd, b2, b3, b4, ?_⟩
    exact kd_of c tb hd lk hcd
  · have hm : (x, e) ∈ D.cons := PySem.mem_of_lookup hx
    exact con_ok X Gn (List.all_eq_true.mp hcon _ hm)
  · refine He.free_ok X Gn (fact ?_)
    have hx : D.bis.contains x = true := hx
    have hx : x ∈ D.bis := by simpa using hx
    exact List.mem_append_right _ (List.mem_append_right _ (List.mem_append_left _ (List.mem_map.mpr ⟨x, hx, rfl⟩)))
  · obtain ⟨t, ht, e1⟩ := List.mem_map.mp hx
    cases e1
    obtain ⟨⟨a, Ng, j, p1, p2, p3, p4, p5, p6, p7, p8, s1, s2, s3, s4, s5, s6, s7, s8, s9⟩, hex⟩ := hto t ht
    obtain ⟨fd, F⟩ := cd.defs (d := defD t.1 t.2.2) (List.mem_append_right _ (List.mem_map.mpr ⟨t, ht, rfl⟩))
    have kp := F.kp
    have bnd := F.bindsN (ps := [a]) s9
    obtain ⟨oc, od, dV, kV, doc, pm, an, cdv, ct, osl, rfl, lk, hcd, _, _⟩ := F.ex
    have g1 : mg t.1 = some (.ref (He.ga K t.1)) := He.glo_ok X Gn (fact (List.mem_append_right _ (List.mem_append_left _ (List.mem_map.mpr ⟨t, ht, rfl⟩))))
    have g2 : mg t.2.1 = some (.ref (He.ga K t.2.1)) := He.glo_ok X Gn (fact (List.mem_append_right _ (List.mem_append_right _ (List.mem_append_right _ (List.mem_append_left _ (List.mem_map.mpr ⟨_, hex, rfl⟩))))))
    have g3 : PySem.W.exmOne K (.ref (He.ga K t.2.1)) (.ref (He.ga K t.2.1)) = some true := He.exm_ok (fact (List.mem_append_right _ (List.mem_append_right _ (List.mem_append_right _ (List.mem_append_right _ (List.mem_append_right _ (List.mem_map.mpr ⟨_, hex, rfl⟩)))))))
    exact ⟨a, He.ga K t.1, He.ga K t.2.1, _, _, _, dV, kV, doc, pm, cdv, ct, oc, an, od, osl, Ng, j, p1, p2, p3, p4, p5, p6, p7, p8, g1, kp, lk, hcd, bnd, s1, s2, s3, s4, s5, s6, s7, g2, s8, if_pos (by simpa using hex), g3⟩
  · have hx : D.excs.contains e = true := hx
    have hx : e ∈ D.excs := by simpa using hx
    have g2 : mg e = some (.ref (He.ga K e)) := He.glo_ok X Gn (fact (List.mem_append_right _ (List.mem_append_right _ (List.mem_append_right _ (List.mem_append_left _ (List.mem_map.mpr ⟨_, hx, rfl⟩))))))
    obtain ⟨x1, x2, x3, x4⟩ := He.exc_ok (fact (List.mem_append_right _ (List.mem_append_right _ (List.mem_append_right _ (List.mem_append_right _ (List.mem_append_left _ (List.mem_map.mpr ⟨_, hx, rfl⟩)))))))
    exact ⟨He.ga K e, _, _, _, _, F.excBase_ValueError, x1, g2, x2, x3, x4, if_pos (by simpa using hx)⟩
  · have hx : D.lamc k x = true := hx
    cases x with
    | Lambda params body scope p =>
      have hx : (noArgs params && (closedB scope && (match D.lams[k]? with
        | some e => chkE D.T0 [] e false scope.names (fun _ => false) .no body
        | none => false))) = true := hx
      rw [Bool.and_eq_true, Bool.and_eq_true] at hx
      obtain ⟨a1, a2, a3⟩ := hx
      refine ⟨params, body, scope, p, rfl, a1, a2, ?_⟩
      cases hl : D.lams[k]? with
      | none => rw [hl] at a3; cases a3
      | some e => rw [hl] at a3; exact ⟨e, hl, a3⟩
    | _ => cases hx
  · obtain ⟨e, h1, h2⟩ := hB
    refine ⟨e, ?_, h2⟩
    show (D.fl.map (fun d => (d.name, d.fd)) ++ lamTab D.lams 0).lookup (lamName k) = _
    rw [look_skip fun p hp z => ?_]
    · have := look_lam (n := 0) h1
      rw [Nat.zero_add] at this
      exact this
    · obtain ⟨d, hd, rfl⟩ := List.mem_map.mp hp
      have q := List.all_eq_true.mp hnl d hd
      have z : d.name = lamName k := z
      rw [z] at q
      cases q
/-- the law's promise, from the plain law -/
theorem law_of {l : PySem.W.OpenLaw} {fa : Addr} {fuel : Nat} {dl : FnDat} (X : K.In h) (Gn : h.Ns mainGlobals mg) (hfa : mg "law" = some (.ref fa)) (c : He.SaysX D.fa D.fn [] D.tf D.ex w h K)
    (hfn : D.fl.all (fnB D.T) = true) (hbd : ∀ d ∈ D.fl, d.Bind) (hnl : (D.fl.all fun d => noLamN d.name) = true) (hto : ∀ t ∈ D.tolds, Told t ∧ t.2.1 ∈ D.excs)
    (hl : dl ∈ D.fl) (hn : dl.name = "law") (hps : dl.ps = [("script" : Str)]) (hFT : D.FT "law" = some dl.fd)
    (plain : ∀ ns : List Int, ns.length ≤ 63 → (∀ z ∈ ns, Builtin.Int.intBits z ≤ 1048576) → ∃ S', run D.FT (fuel + 1) "law" [.arg ns] [] = .ok (.bl true) S') :
    LamX.LawAtS l w K (CX l.prog w) (12 * (fuel + 1)) 63 "script" mg fa h := by
  have cd := c.t.d
  obtain ⟨fd, F⟩ := cd.defs (d := defD dl.name dl.st) (List.mem_append_left _ (List.mem_map.mpr ⟨dl, hl, rfl⟩))
  have hB : fnB D.T dl = true := List.all_eq_true.mp hfn dl hl
  unfold fnB at hB
  simp only [Bool.and_eq_true, decide_eq_true_eq] at hB
  obtain ⟨b1, b2, b3, b4⟩ := hB
  have bA := F.bindsA (ps := dl.ps) (hbd dl hl)
  have gl : mg dl.name = some (.ref (He.ga K dl.name)) := He.glo_ok X Gn (cd.facts (List.mem_append_left _ (List.mem_map.mpr ⟨dl, hl, rfl⟩)))
  obtain ⟨oc, od, dV, kV, doc, pm, an, cdv, ct, osl, rfl, lk, hcd, _, _⟩ := F.ex
  have efa : He.ga K dl.name = fa := by
    rw [hn] at gl ⊢
    rw [gl] at hfa
    cases hfa; rfl
  refine ⟨PySem.W.fnOf dl.name dl.name (defArgs dl.st) (defBody dl.st) (defScope dl.st) dV kV doc pm an cdv ct, D.tf.map (He.cT K), spC K (D.G K) (run D.FT (fuel + 1) dl.name), fun p hp => ?_, fun p hp => ?_, fun p hp => ?_, fun s u => ?_, fun H a ns hlen hbits hT hS => ?_, fun base KB NB tb => ?_⟩
  · obtain ⟨q, hq, rfl⟩ := List.mem_map.mp hp
    exact c.empty q hq
  · obtain ⟨q, hq, rfl⟩ := List.mem_map.mp hp
    exact c.out q hq
  · obtain ⟨q, hq, rfl⟩ := List.mem_map.mp hp
    exact PySem.W.codeHd_of_K X (c.hd q hq)
  · have := bA s [u] (by rw [hps]; rfl)
    rw [hps] at this
    exact this
  · obtain ⟨S', hp⟩ := plain ns hlen hbits
    refine ⟨fun _ => none, fun _ => False, [], [.arg ns], ⟨fun i j a e => (by cases e), fun i a e => (by cases e), fun i o e => (by simp at e), fun a y => (show False from y).elim, fun i a e => (by cases e), fun p hp => ?_, fun P hP => ?_⟩, .cons ?_ .nil, ?_⟩
    · obtain ⟨d, hd, rfl⟩ := List.mem_map.mp hp
      have hm := (List.mem_filter.mp hd).1
      exact LamX.TabS.nil (hT (He.cT K (d.name, none)) (List.mem_map.mpr ⟨(d.name, none), List.mem_map.mpr ⟨d, hm, rfl⟩, rfl⟩))
    · obtain ⟨d, hd, rfl⟩ := List.mem_map.mp hP
      have hm := (List.mem_filter.mp hd).1
      exact ⟨#[], hT (He.cT K (d.name, none)) (List.mem_map.mpr ⟨(d.name, none), List.mem_map.mpr ⟨d, hm, rfl⟩, rfl⟩), trivial⟩
    · rcases hS with hS | hS
      · exact .arg hS ⟨fun z => z, fun i z => by cases z⟩
      · exact .karg hS
    · rw [hn, hp]
      intro ι' H' v _ _ r
      cases r.bl_eq
      rfl
  · have t := top_of (base := base) X Gn c tb hfn hbd hnl hto
    rw [← efa, ← hps]
    exact fn_run (all_ok t fuel) (by rw [hn]; exact hFT) lk hcd (scB_ok b1) b2 b3 b4 (kd_of c tb hl lk hcd)
end
end Dy

end
section
set_option Elab.async false
set_option linter.all false
set_option maxRecDepth 100000
set_option maxHeartbeats 400000
/-! Dy, part P: the evaluator by rewriting (for the plain laws). -/
namespace Dy
open PySem L2
section
variable {cl : Clr} {σ : Sl} {S : Sto}
@[simp] theorem ev_var (i : Nat) : ev cl (.var i) σ S = match σ[i]? with | some (some w) => .ok w S | _ => .bad := rfl
@[simp] theorem ev_lit (w : Wv) : ev cl (.lit w) σ S = .ok w S := rfl
@[simp] theorem ev_globI (x : Str) (i : Int) : ev cl (.glob x (.int i)) σ S = .ok (.int i) S := rfl
@[simp] theorem ev_globS (x : Str) (i : Str) : ev cl (.glob x (.str i)) σ S = .ok (.str i) S := rfl
@[simp] theorem ev_globIs (x : Str) (l : List Int) : ev cl (.glob x (.ints l)) σ S = .ok (.tup (l.map .int)) S := rfl
@[simp] theorem ev_globSs (x : Str) (l : List Str) : ev cl (.glob x (.strs l)) σ S = .ok (.tup (l.map .str)) S := rfl
@[simp] theorem ev_bin (o : Bop) (a b : E) : ev cl (.bin o a b) σ S = (ev cl a σ S).bind fun x S => (ev cl b σ S).bind fun y S => binW o x y S := rfl
@[simp] theorem ev_neg (a : E) : ev cl (.neg a) σ S = (ev cl a σ S).bind fun x S => match x with | .int i => .ok (.int (-i)) S | _ => .bad := rfl
@[simp] theorem ev_isN (a : E) : ev cl (.isN a) σ S = (ev cl a σ S).bind fun x S => .ok (.bl (isNonW x)) S := rfl
@[simp] theorem ev_notN (a : E) : ev cl (.notN a) σ S = (ev cl a σ S).bind fun x S => .ok (.bl (!isNonW x)) S := rfl
@[simp] theorem ev_cmp (o : Cop) (a b : E) : ev cl (.cmp o a b) σ S = (ev cl a σ S).bind fun x S => (ev cl b σ S).bind fun y S => cmpW o x y S := rfl
@[simp] theorem ev_chain (o o' : Cop) (a b c : E) : ev cl (.chain o o' a b c) σ S = (ev cl a σ S).bind fun x S => (ev cl b σ S).bind fun y S => (cmpW o x y S).bind fun t S => andK t ((ev cl c σ S).bind fun z S => cmpW o' y z S) S := rfl
@[simp] theorem ev_and (a b : E) : ev cl (.and a b) σ S = (ev cl a σ S).bind fun t S => andK t (ev cl b σ S) S := rfl
@[simp] theorem ev_or (a b : E) : ev cl (.or a b) σ S = (ev cl a σ S).bind fun t S => orK t (ev cl b σ S) S := rfl
@[simp] theorem ev_not (a : E) : ev cl (.not a) σ S = (ev cl a σ S).bind fun x S => match x with | .bl c => .ok (.bl (!c)) S | _ => .bad := rfl
@[simp] theorem ev_ite (c a b : E) : ev cl (.ite c a b) σ S = (ev cl c σ S).bind fun t S => iteK t (ev cl a σ S) (ev cl b σ S) := rfl
@[simp] theorem ev_tup (es : E) : ev cl (.tup es) σ S = (ev cl es σ S).bind fun x S => match x with | .tup ws => if ws.length ≤ sizeLine then .ok (.tup ws) S else .bad | _ => .bad := rfl
@[simp] theorem ev_lst (es : E) : ev cl (.lst es) σ S = (ev cl es σ S).bind fun x S => match x with | .tup ws => if ws.length ≤ sizeLine then .ok (.lst ws) S else .bad | _ => .bad := rfl
@[simp] theorem ev_new (es : E) : ev cl (.new es) σ S = (ev cl es σ S).bind fun x S => match x with | .tup ws => if ws.length ≤ sizeLine then .ok (.ref S.length) (S ++ [.lst ws]) else .bad | _ => .bad := rfl
@[simp] theorem ev_nil : ev cl .nil σ S = .ok (.tup []) S := rfl
@[simp] theorem ev_cons (e es : E) : ev cl (.cons e es) σ S = (ev cl e σ S).bind fun x S => (ev cl es σ S).bind fun y S => match y with | .tup ws => .ok (.tup (x :: ws)) S | _ => .bad := rfl
@[simp] theorem ev_idx (a b : E) : ev cl (.idx a b) σ S = (ev cl a σ S).bind fun x S => (ev cl b σ S).bind fun y S => idxW x y S := rfl
@[simp] theorem ev_sl (a lo hi : E) : ev cl (.sl a lo hi) σ S = (ev cl a σ S).bind fun x S => ((ev cl lo σ S).bind (intO (noB lo))).bind fun l S => ((ev cl hi σ S).bind (intO (noB hi))).bind fun h S => slW x l h S := rfl
@[simp] theorem ev_call (f : Str) (es : E) : ev cl (.call f es) σ S = (ev cl es σ S).bind fun x S => match x with | .tup ws => cl f ws S | _ => .bad := rfl
@[simp] theorem ev_bi (b : BI) (es : E) : ev cl (.bi b es) σ S = (ev cl es σ S).bind fun x S => match x with | .tup ws => biW b ws S | _ => .bad := rfl
@[simp] theorem ev_mi (m : MI) (a es : E) : ev cl (.mi m a es) σ S = (ev cl a σ S).bind fun x S => if isStr x = true then (ev cl es σ S).bind fun y S => match y with | .tup ws => miW m x ws S | _ => .bad else .bad := rfl
@[simp] theorem ev_rng1 (a : E) : ev cl (.rng1 a) σ S = (ev cl a σ S).bind rng1W := rfl
@[simp] theorem ev_rng2 (a b : E) : ev cl (.rng2 a b) σ S = (ev cl a σ S).bind fun x S => (ev cl b σ S).bind fun y S => rng2W x y S := rfl
@[simp] theorem ev_fmt (e : E) : ev cl (.fmt e) σ S = (ev cl e σ S).bind fun x S => match fmtW x with | some y => .ok (.str y) S | none => .bad := rfl
@[simp] theorem ev_fs (es : E) : ev cl (.fs es) σ S = match ev cl es σ S with | .ok (.tup ws) S => (match joinF ws Str.empty with | some y => .ok (.str y) S | none => .bad) | _ => .bad := rfl
@[simp] theorem ev_told (f x : Str) (e : E) : ev cl (.told f x e) σ S = toldW x (ev cl e σ S) := rfl
@[simp] theorem ex_set (g : Tg) (e : E) : ex cl (.set g e) σ S = (ev cl e σ S).bs σ fun w S => match asg g w σ with | some σ' => .nx σ' S | none => .bad := rfl
@[simp] theorem ex_par2 (i j : Nat) (a b : E) : ex cl (.par2 i j a b) σ S = (ev cl a σ S).bs σ fun x S => (ev cl b σ S).bs σ fun y S => .nx ((σ.set i (some x)).set j (some y)) S := rfl
@[simp] theorem ex_par3 (i j l : Nat) (a b c : E) : ex cl (.par3 i j l a b c) σ S = (ev cl a σ S).bs σ fun x S => (ev cl b σ S).bs σ fun y S => (ev cl c σ S).bs σ fun z S => .nx (((σ.set i (some x)).set j (some y)).set l (some z)) S := rfl
@[simp] theorem ex_setIx (o i v : E) : ex cl (.setIx o i v) σ S = (ev cl v σ S).bs σ fun w S => (ev cl o σ S).bs σ fun x S => (ev cl i σ S).bs σ fun y S => match setIxW x y w S with | some S' => .nx σ S' | none => .bad := rfl
@[simp] theorem ex_aug (i : Nat) (o : Bop) (e : E) : ex cl (.aug i o e) σ S = match σ[i]? with | some (some x) => (ev cl e σ S).bs σ fun y S => (augW o x y S).bs σ fun z S => .nx (σ.set i (some z)) S | _ => .bad := rfl
@[simp] theorem ex_expr (e : E) : ex cl (.expr e) σ S = (ev cl e σ S).bs σ fun _ S => .nx σ S := rfl
@[simp] theorem ex_ifs (c : E) (a b : Sm) : ex cl (.ifs c a b) σ S = (ev cl c σ S).bs σ fun t S => iteS t (ex cl a σ S) (ex cl b σ S) := rfl
theorem ex_whl (c : E) (b : Sm) : ex cl (.whl c b) σ S = wLoop (ev cl c) (ex cl b) fuelW σ S := rfl
theorem ex_forr (g : Tg) (it : E) (b : Sm) : ex cl (.forr g it b) σ S = (ev cl it σ S).bs σ fun x S => match itW x with | some items => fLoop g (ex cl b) items σ S | none => .bad := rfl
@[simp] theorem ex_ret (e : E) : ex cl (.ret e) σ S = (ev cl e σ S).bs σ fun w S => .rt w S := rfl
@[simp] theorem ex_rais (c : Str) : ex cl (.rais c) σ S = .xc c σ S := rfl
@[simp] theorem ex_nil : ex cl .nil σ S = .nx σ S := rfl
theorem ex_seq (a b : Sm) : ex cl (.seq a b) σ S = match ex cl a σ S with | .nx σ S => ex cl b σ S | r => r := rfl
def SR.then (r : SR) (k : Sl → Sto → SR) : SR := match r with
  | .nx σ S => k σ S
  | r => r
@[simp] theorem ex_seq' (a b : Sm) : ex cl (.seq a b) σ S = (ex cl a σ S).then (fun σ S => ex cl b σ S) := rfl
@[simp] theorem then_nx (σ : Sl) (S : Sto) (k : Sl → Sto → SR) : (SR.nx σ S).then k = k σ S := rfl
@[simp] theorem then_rt (w : Wv) (S : Sto) (k : Sl → Sto → SR) : (SR.rt w S).then k = .rt w S := rfl
@[simp] theorem then_xc (c : Str) (σ : Sl) (S : Sto) (k : Sl → Sto → SR) : (SR.xc c σ S).then k = .xc c σ S := rfl
@[simp] theorem leave_rt (w : Wv) : leave (.rt w S) = .ok w S := rfl
@[simp] theorem leave_nx : leave (.nx σ S) = .ok .non S := rfl
@[simp] theorem leave_xc (c : Str) : leave (.xc c σ S) = .exc c S := rfl
@[simp] theorem iteS_bl (b : Bool) (x y : SR) : iteS (.bl b) x y = if b = true then x else y := by cases b <;> rfl
@[simp] theorem iteK_bl (b : Bool) (x y : Res) : iteK (.bl b) x y = if b = true then x else y := by cases b <;> rfl
@[simp] theorem andK_bl (b c : Bool) : andK (.bl b) (.ok (.bl c) S) S = .ok (.bl (b && c)) S := by cases b <;> rfl
@[simp] theorem orK_bl (b c : Bool) : orK (.bl b) (.ok (.bl c) S) S = .ok (.bl (b || c)) S := by cases b <;> rfl
theorem andK_b (b : Bool) (r : Res) : andK (.bl b) r S = if b = true then r else .ok (.bl false) S := by cases b <;> rfl
theorem orK_b (b : Bool) (r : Res) : orK (.bl b) r S = if b = true then .ok (.bl true) S else r := by cases b <;> rfl
theorem eqD_int (a b : Int) : eqD (.int a) (.int b) = some (decide (a = b)) := by
  show (if (PyData.int a).depth ≤ 64 ∧ (PyData.int b).depth ≤ 64 then some (PyData.eqv (.int a) (.int b)) else none) = _
  rw [if_pos ⟨by simp [PyData.depth], by simp [PyData.depth]⟩]
  congr 1
@[simp] theorem w_add (i j : Int) : binW .add (.int i) (.int j) S = .ok (.int (i + j)) S := rfl
@[simp] theorem w_sub (i j : Int) : binW .sub (.int i) (.int j) S = .ok (.int (i - j)) S := rfl
theorem w_mul (i j : Int) (h : CMul i j) : binW .mul (.int i) (.int j) S = .ok (.int (i * j)) S := if_pos h
theorem cm_l {i j : Int} (h : -(2 ^ 64) < i ∧ i < 2 ^ 64) : CMul i j := .inl h
theorem cm_r {i j : Int} (h : -(2 ^ 64) < j ∧ j < 2 ^ 64) : CMul i j := .inr h
theorem w_fdiv (i j : Int) (h : 0 < j) (h2 : j < 1073741824) : binW .fdiv (.int i) (.int j) S = .ok (.int (i / j)) S := by
  show (if CDivN i j then Res.ok (.int (i.fdiv j)) S else .bad) = _
  rw [if_pos (show CDivN i j from ⟨by omega, by omega⟩), Int.fdiv_eq_ediv_of_nonneg i (Int.le_of_lt h)]
theorem w_mod (i j : Int) (h : 0 < j) : binW .mod (.int i) (.int j) S = .ok (.int (i % j)) S := by
  show (if j ≠ 0 then Res.ok (.int (i.fmod j)) S else .bad) = _
  rw [if_pos (by omega), Int.fmod_eq_emod_of_nonneg i (Int.le_of_lt h)]
@[simp] theorem w_lt (i j : Int) : cmpW .lt (.int i) (.int j) S = .ok (.bl (decide (i < j))) S := rfl
@[simp] theorem w_le (i j : Int) : cmpW .le (.int i) (.int j) S = .ok (.bl (decide (i ≤ j))) S := rfl
@[simp] theorem w_gt (i j : Int) : cmpW .gt (.int i) (.int j) S = .ok (.bl (decide (j < i))) S := rfl
@[simp] theorem w_ge (i j : Int) : cmpW .ge (.int i) (.int j) S = .ok (.bl (decide (j ≤ i))) S := rfl
@[simp] theorem w_eq (i j : Int) : cmpW .eq (.int i) (.int j) S = .ok (.bl (decide (i = j))) S := by
  show ofB (eqD (.int i) (.int j)) false S = _
  rw [eqD_int]; rfl
@[simp] theorem w_ne (i j : Int) : cmpW .ne (.int i) (.int j) S = .ok (.bl (!decide (i = j))) S := by
  show ofB (eqD (.int i) (.int j)) true S = _
  rw [eqD_int]; rfl
@[simp] theorem asg_nm (i : Nat) (w : Wv) : asg (.nm i) w σ = some (σ.set i (some w)) := rfl
@[simp] theorem asg_tup (ts : Tg) (ws : List Wv) : asg (.tup ts) (.tup ws) σ = asgs ts ws σ := rfl
@[simp] theorem asgs_nil : asgs .nil [] σ = some σ := rfl
@[simp] theorem asgs_cons (t ts : Tg) (w : Wv) (ws : List Wv) : asgs (.cons t ts) (w :: ws) σ = (asg t w σ).bind fun σ' => asgs ts ws σ' := rfl
@[simp] theorem aug_add (i j : Int) : augW .add (.int i) (.int j) S = .ok (.int (i + j)) S := rfl
@[simp] theorem aug_sub (i j : Int) : augW .sub (.int i) (.int j) S = .ok (.int (i - j)) S := rfl
end
/-! ### loops -/
theorem fLoop_list {α : Type} (it : α → Wv) (g : Tg) (b : Sl → Sto → SR) (P : Nat → Sl → Sto → Prop) (l : List α) (hs : ∀ i x σ S, l[i]? = some x → P i σ S → ∃ σ1 σ2 S2, asg g (it x) σ = some σ1 ∧ (b σ1 S = .nx σ2 S2 ∨ b σ1 S = .ct σ2 S2) ∧ P (i + 1) σ2 S2) :
    ∀ (n : Nat) (σ : Sl) (S : Sto), n ≤ l.length → P n σ S → ∃ σ' S', fLoop g b ((l.drop n).map it) σ S = .nx σ' S' ∧ P l.length σ' S' := by
  intro n
  induction h : l.length - n generalizing n with
  | zero =>
    intro σ S hn p
    have e : n = l.length := by omega
    subst e
    exact ⟨σ, S, by rw [List.drop_length]; rfl, p⟩
  | succ m ih =>
    intro σ S hn p
    have hlt : n < l.length := by omega
    obtain ⟨σ1, σ2, S2, h1, h2, h3⟩ := hs n l[n] σ S (List.getElem?_eq_getElem hlt) p
    obtain ⟨σ', S', q1, q2⟩ := ih (n + 1) (by omega) σ2 S2 (by omega) h3
    refine ⟨σ', S', ?_, q2⟩
    rw [List.drop_eq_getElem_cons hlt, List.map_cons]
    show (match asg g (it l[n]) σ with
      | some σ' => (match b σ' S with
        | .nx σ S => fLoop g b ((l.drop (n + 1)).map it) σ S
        | .ct σ S => fLoop g b ((l.drop (n + 1)).map it) σ S
        | .bk σ S => .nx σ S
        | r => r)
      | none => .bad) = _
    rw [h1]
    rcases h2 with h2 | h2
    · show (match b σ1 S with
        | .nx σ S => fLoop g b ((l.drop (n + 1)).map it) σ S
        | .ct σ S => fLoop g b ((l.drop (n + 1)).map it) σ S
        | .bk σ S => .nx σ S
        | r => r) = _
      rw [h2]; exact q1
    · show (match b σ1 S with
        | .nx σ S => fLoop g b ((l.drop (n + 1)).map it) σ S
        | .ct σ S => fLoop g b ((l.drop (n + 1)).map it) σ S
        | .bk σ S => .nx σ S
        | r => r) = _
      rw [h2]; exact q1
theorem fLoop_range (lo : Int) (g : Tg) (b : Sl → Sto → SR) (n : Nat) (P : Nat → Sl → Sto → Prop) (σ : Sl) (S : Sto) (h0 : P 0 σ S) (hs : ∀ i σ S, i < n → P i σ S → ∃ σ1 σ2 S2, asg g (.int (lo + (i : Nat))) σ = some σ1 ∧ (b σ1 S = .nx σ2 S2 ∨ b σ1 S = .ct σ2 S2) ∧ P (i + 1) σ2 S2) :
    ∃ σ' S', fLoop g b ((List.range n).map fun i => .int (lo + (i : Nat))) σ S = .nx σ' S' ∧ P n σ' S' := by
  have := fLoop_list (fun i : Nat => Wv.int (lo + (i : Nat))) g b P (List.range n) (fun i x σ S hx p => by
    have hi : i < n := by
      have := (List.getElem?_eq_some_iff.mp hx).1
      rwa [List.length_range] at this
    rw [List.getElem?_range hi] at hx
    cases hx
    exact hs i σ S hi p) 0 σ S (Nat.zero_le _) h0
  rw [List.length_range, List.drop_zero] at this
  exact this
theorem wLoop_inv (c : Sl → Sto → Res) (b : Sl → Sto → SR) (P : Nat → Sl → Sto → Prop) (h0 : ∀ σ S, P 0 σ S → c σ S = .ok (.bl false) S) (hs : ∀ m σ S, P (m + 1) σ S → c σ S = .ok (.bl true) S ∧ ∃ σ' S', b σ S = .nx σ' S' ∧ P m σ' S') :
    ∀ (m f : Nat) (σ : Sl) (S : Sto), m < f → P m σ S → ∃ σ' S', wLoop c b f σ S = .nx σ' S' ∧ P 0 σ' S' := by
  intro m
  induction m with
  | zero =>
    intro f σ S hf p
    obtain ⟨f, rfl⟩ : ∃ k, f = k + 1 := ⟨f - 1, by omega⟩
    refine ⟨σ, S, ?_, p⟩
    show (c σ S).bs σ _ = _
    rw [h0 σ S p]; rfl
  | succ m ih =>
    intro f σ S hf p
    obtain ⟨f, rfl⟩ : ∃ k, f = k + 1 := ⟨f - 1, by omega⟩
    obtain ⟨h1, σ1, S1, h2, h3⟩ := hs m σ S p
    obtain ⟨σ', S', q1, q2⟩ := ih f σ1 S1 (by omega) h3
    refine ⟨σ', S', ?_, q2⟩
    show (c σ S).bs σ (fun t S => iteS t (match b σ S with
      | .nx σ S => wLoop c b f σ S
      | .ct σ S => wLoop c b f σ S
      | .bk σ S => .nx σ S
      | r => r) (.nx σ S)) = _
    rw [h1]
    show (match b σ S with
      | .nx σ S => wLoop c b f σ S
      | .ct σ S => wLoop c b f σ S
      | .bk σ S => .nx σ S
      | r => r) = _
    rw [h2]; exact q1
/-- a comprehension whose turns leave the store -/
theorem lcLoop_eq (f : Wv → Sto → Res) (S : Sto) (h : Wv → List Wv) : ∀ (items acc : List Wv), (∀ x ∈ items, f x S = .ok (.lst (h x)) S) → lcLoop f items acc S = .ok (.lst (acc ++ items.flatMap h)) S
  | [], acc, _ => by
    show Res.ok (.lst acc) S = _
    simp
  | x :: xs, acc, hx => by
    show (match f x S with | .ok (.lst ys) S' => lcLoop f xs (acc ++ ys) S' | _ => .bad) = _
    rw [hx x List.mem_cons_self]
    show lcLoop f xs (acc ++ h x) S = _
    rw [lcLoop_eq f S h xs (acc ++ h x) fun y hy => hx y (List.mem_cons_of_mem _ hy)]
    simp
/-- a for over a range of two ints, by an invariant -/
theorem for_rng2 {cl : Clr} {g : Tg} {a b : E} {body : Sm} {σ : Sl} {S : Sto} {lo hi : Int} (ha : ev cl a σ S = .ok (.int lo) S) (hb : ev cl b σ S = .ok (.int hi) S) (h1 : -1000000000 ≤ lo ∧ lo ≤ 1000000000) (h2 : -1000000000 ≤ hi ∧ hi ≤ 1000000000) (h3 : hi - lo ≤ 10000000)
    (P : Nat → Sl → Sto → Prop) (h0 : P 0 σ S) (hs : ∀ i σ S, i < (hi - lo).toNat → P i σ S → ∃ σ1 σ2 S2, asg g (.int (lo + (i : Nat))) σ = some σ1 ∧ (ex cl body σ1 S = .nx σ2 S2 ∨ ex cl body σ1 S = .ct σ2 S2) ∧ P (i + 1) σ2 S2) :
    ∃ σ' S', ex cl (.forr g (.rng2 a b) body) σ S = .nx σ' S' ∧ P (hi - lo).toNat σ' S' := by
  obtain ⟨σ', S', q1, q2⟩ := fLoop_range lo g (ex cl body) (hi - lo).toNat P σ S h0 hs
  refine ⟨σ', S', ?_, q2⟩
  have hr : -(2 ^ 62) ≤ lo ∧ lo < 2 ^ 62 ∧ -(2 ^ 62) ≤ hi ∧ hi < 2 ^ 62 := by omega
  have hl : ((List.range (hi - lo).toNat).map fun k => Wv.int (lo + (k : Nat))).length ≤ sizeLine := by
    rw [List.length_map, List.length_range, sizeLine_eq]; omega
  rw [ex_forr, ev_rng2, ha]
  simp only [bind_ok]
  rw [hb]
  simp only [bind_ok, rng2W]
  rw [if_pos hr]
  simp only [bs_ok, itW]
  rw [if_pos hl]
  exact q1
/-! ### comprehensions that leave the store -/
theorem ev_lc {cl : Clr} {σ : Sl} {S : Sto} (g : Tg) (it c e : E) (own : List (Str × Nat)) : ev cl (.lc g it c e own) σ S = (ev cl it σ S).bind fun x S => match itW x with | some items => lcLoop (lcF g (ev cl c) (ev cl e) (wipeW σ (own.map (·.2)))) items [] S | none => .bad := rfl
theorem lc_list {cl : Clr} {σ : Sl} {S : Sto} {g : Tg} {it c e : E} {own : List (Str × Nat)} {items : List Wv} (hi : ev cl it σ S = .ok (.lst items) S) (hl : items.length ≤ 16777216) (h : Wv → List Wv) (hs : ∀ x ∈ items, lcF g (ev cl c) (ev cl e) (wipeW σ (own.map (·.2))) x S = .ok (.lst (h x)) S) :
    ev cl (.lc g it c e own) σ S = .ok (.lst (items.flatMap h)) S := by
  rw [ev_lc, hi]
  simp only [bind_ok, itW]
  rw [if_pos (by rw [sizeLine_eq]; exact hl)]
  show lcLoop _ items [] S = _
  rw [lcLoop_eq _ S h items [] hs]
  rfl
theorem lc_rng2 {cl : Clr} {σ : Sl} {S : Sto} {g : Tg} {a b c e : E} {own : List (Str × Nat)} {lo hi : Int} (ha : ev cl a σ S = .ok (.int lo) S) (hb : ev cl b σ S = .ok (.int hi) S) (h1 : -1000000000 ≤ lo ∧ lo ≤ 1000000000) (h2 : -1000000000 ≤ hi ∧ hi ≤ 1000000000) (h3 : hi - lo ≤ 10000000)
    (h : Int → List Wv) (hs : ∀ x : Int, lo ≤ x → x < hi → lcF g (ev cl c) (ev cl e) (wipeW σ (own.map (·.2))) (.int x) S = .ok (.lst (h x)) S) :
    ev cl (.lc g (.rng2 a b) c e own) σ S = .ok (.lst ((List.range (hi - lo).toNat).flatMap fun i => h (lo + (i : Nat)))) S := by
  have hr : -(2 ^ 62) ≤ lo ∧ lo < 2 ^ 62 ∧ -(2 ^ 62) ≤ hi ∧ hi < 2 ^ 62 := by omega
  have e0 : ev cl (.rng2 a b) σ S = .ok (.lst ((List.range (hi - lo).toNat).map fun k => .int (lo + (k : Nat)))) S := by
    rw [ev_rng2, ha]
    simp only [bind_ok]
    rw [hb]
    simp only [bind_ok, rng2W]
    rw [if_pos hr]
  rw [lc_list e0 (by rw [List.length_map, List.length_range]; omega) (fun w => match w with | .int x => h x | _ => []) fun x hx => ?_]
  · rw [List.flatMap_map]
  · obtain ⟨i, hi', rfl⟩ := List.mem_map.mp hx
    have := List.mem_range.mp hi'
    exact hs _ (by omega) (by omega)
theorem lcF_nm {j : Nat} {fc fe : Sl → Sto → Res} {σw : Sl} {x y : Wv} {S : Sto} {b : Bool} (hc : fc (σw.set j (some x)) S = .ok (.bl b) S) (he : b = true → fe (σw.set j (some x)) S = .ok y S) : lcF (.nm j) fc fe σw x S = .ok (.lst (if b = true then [y] else [])) S := by
  unfold lcF
  simp only [asg_nm]
  rw [hc]
  simp only [bind_ok]
  cases b with
  | true => simp [he rfl]
  | false => simp
theorem intsW_of : ∀ l : List Int, intsW (l.map .int) = some l
  | [] => rfl
  | i :: l => by
    show (intsW (l.map .int)).map (i :: ·) = _
    rw [intsW_of l]; rfl
theorem sum_tel (f F : Nat → Int) (h0 : F 0 = 0) (hs : ∀ n, F (n + 1) = F n + f n) : ∀ n, ((List.range n).map f).sum = F n
  | 0 => by simp [h0]
  | n + 1 => by
    rw [List.range_succ, List.map_append, List.sum_append, sum_tel f F h0 hs n, hs n]
    simp
theorem flat_one {α β : Type} (l : List α) (f : α → β) : (l.flatMap fun a => [f a]) = l.map f := by
  induction l with
  | nil => rfl
  | cons a l ih => rw [List.flatMap_cons, ih]; rfl
@[simp] theorem w_sum (l : List Int) (S : Sto) : biW .sum [.lst (l.map .int)] S = .ok (.int l.sum) S := by
  show (match intsW (l.map .int) with | some ns => Res.ok (.int ns.sum) S | none => .bad) = _
  rw [intsW_of]
end Dy

end
section
set_option Elab.async false
set_option linter.all false
set_option maxRecDepth 100000
set_option maxHeartbeats 400000
/-! Dz, part Q: values of Lean's types as values of the small language; equality, order, sorting; loops by what has come. -/
namespace Dy
open PySem L2

section
variable {cl : Clr} {σ : Sl} {S : Sto}
@[simp] theorem ev_rng3 (a b c : E) : ev cl (.rng3 a b c) σ S = (ev cl a σ S).bind fun x S => (ev cl b σ S).bind fun y S => (ev cl c σ S).bind fun z S => rng3W x y z S := rfl
@[simp] theorem ev_enum (a : E) : ev cl (.enum a) σ S = (ev cl a σ S).bind enumW := rfl
@[simp] theorem ev_obj (a : E) : ev cl (.obj a) σ S = (ev cl a σ S).bind objK := rfl
@[simp] theorem ev_dd0 : ev cl (.dd .nil) σ S = .ok (.dct []) S := rfl
@[simp] theorem ev_bn (b : BN) (es : E) : ev cl (.bn b es) σ S = (ev cl es σ S).bind fun x S => match x with | .tup ws => bnW b ws S | _ => .bad := rfl
@[simp] theorem ev_mt (m : MT) (a es : E) : ev cl (.mt m a es) σ S = (ev cl a σ S).bind fun x S => if isMtW m x S = true then (ev cl es σ S).bind fun y S => match y with | .tup ws => mtW m x ws S | _ => .bad else .bad := rfl
theorem ev_gx (u : GU) (g : Tg) (it c e : E) (own : List (Str × Nat)) : ev cl (.gx u g it c e own) σ S = (ev cl it σ S).bind fun x S => match itW x with | some items => gxK u (lcF g (ev cl c) (ev cl e) (wipeW σ (own.map (·.2)))) items S | none => .bad := rfl
theorem ev_gn (u : GN) (g : Tg) (it c e : E) (own : List (Str × Nat)) : ev cl (.gn u g it c e own) σ S = (ev cl it σ S).bind fun x S => match itW x with | some items => gnK u (lcF g (ev cl c) (ev cl e) (wipeW σ (own.map (·.2)))) items S | none => .bad := rfl
@[simp] theorem ex_blk (vs : List Nat) (b : Sm) : ex cl (.blk vs b) σ S = blkR S vs (ex cl b σ S) := rfl
@[simp] theorem objK_lst (ws : List Wv) : objK (.lst ws) S = .ok (.ref S.length) (S ++ [.lst ws]) := rfl
@[simp] theorem objK_dct (ws : List (Key × Wv)) : objK (.dct ws) S = .ok (.ref S.length) (S ++ [.dct ws]) := rfl
theorem ev_dc {g : Tg} {it c k e : E} {own : List (Str × Nat)} : ev cl (.dc g it c k e own) σ S = (ev cl it σ S).bind fun x S => match itW x with | some items => dcLoop (dcF g (ev cl c) (ev cl k) (ev cl e) (wipeW σ (own.map (·.2)))) items [] S | none => .bad := rfl
end
theorem itW_lst {ws : List Wv} (h : ws.length ≤ 16777216) : itW (.lst ws) = some ws := if_pos (by rw [sizeLine_eq]; exact h)
theorem itW_tup {ws : List Wv} (h : ws.length ≤ 16777216) : itW (.tup ws) = some ws := if_pos (by rw [sizeLine_eq]; exact h)

/-! ### loops, by what has come -/
theorem fLoop_pre {α : Type} (it : α → Wv) (g : Tg) (b : Sl → Sto → SR) (R : List α → Sl → Sto → Prop) (l : List α)
    (hs : ∀ pre x rest σ S, l = pre ++ x :: rest → R pre σ S → ∃ σ1 σ2 S2, asg g (it x) σ = some σ1 ∧ (b σ1 S = .nx σ2 S2 ∨ b σ1 S = .ct σ2 S2) ∧ R (pre ++ [x]) σ2 S2) {σ : Sl} {S : Sto} (h0 : R [] σ S) :
    ∃ σ' S', fLoop g b (l.map it) σ S = .nx σ' S' ∧ R l σ' S' := by
  have := fLoop_list it g b (fun n σ S => R (l.take n) σ S) l (fun i x σ S hx p => by
    have hi := (List.getElem?_eq_some_iff.mp hx).1
    have e : l = l.take i ++ x :: l.drop (i + 1) := by
      have h2 := List.drop_eq_getElem_cons hi
      rw [List.getElem?_eq_getElem hi] at hx
      cases hx
      rw [← h2, List.take_append_drop]
    obtain ⟨σ1, σ2, S2, a1, a2, a3⟩ := hs _ _ _ σ S e p
    refine ⟨σ1, σ2, S2, a1, a2, ?_⟩
    have : l.take (i + 1) = l.take i ++ [x] := by
      rw [List.take_add_one, hx]; rfl
    rw [this]; exact a3) 0 σ S (Nat.zero_le _) h0
  rw [List.take_length, List.drop_zero] at this
  exact this
theorem ex_for {cl : Clr} {g : Tg} {it : E} {b : Sm} {σ σ' : Sl} {S S1 S' : Sto} {w : Wv} {items : List Wv} (h : ev cl it σ S = .ok w S1) (hi : itW w = some items) (hf : fLoop g (ex cl b) items σ S1 = .nx σ' S') : ex cl (.forr g it b) σ S = .nx σ' S' := by
  rw [ex_forr, h]
  simp only [bs_ok, hi]
  exact hf
/-- a for over a list of values of one kind -/
theorem for_pre {α : Type} {cl : Clr} {g : Tg} {e : E} {b : Sm} {σ : Sl} {S S1 : Sto} {w : Wv} (it : α → Wv) (l : List α) (R : List α → Sl → Sto → Prop) (h : ev cl e σ S = .ok w S1) (hw : itW w = some (l.map it)) (h0 : R [] σ S1)
    (hs : ∀ pre x rest σ S, l = pre ++ x :: rest → R pre σ S → ∃ σ1 σ2 S2, asg g (it x) σ = some σ1 ∧ (ex cl b σ1 S = .nx σ2 S2 ∨ ex cl b σ1 S = .ct σ2 S2) ∧ R (pre ++ [x]) σ2 S2) :
    ∃ σ' S', ex cl (.forr g e b) σ S = .nx σ' S' ∧ R l σ' S' := by
  obtain ⟨σ', S', a, r⟩ := fLoop_pre it g (ex cl b) R l hs h0
  exact ⟨σ', S', ex_for h hw a, r⟩
/-! ### comprehensions of values of one kind -/
theorem lcLoop_map {α : Type} (it : α → Wv) (f : Wv → Sto → Res) (S : Sto) (h : α → List Wv) (l : List α) (hs : ∀ x ∈ l, f (it x) S = .ok (.lst (h x)) S) : lcLoop f (l.map it) [] S = .ok (.lst (l.flatMap h)) S := by
  have key : ∀ (l : List α) (acc : List Wv), (∀ x ∈ l, f (it x) S = .ok (.lst (h x)) S) → lcLoop f (l.map it) acc S = .ok (.lst (acc ++ l.flatMap h)) S := by
    intro l
    induction l with
    | nil => intro acc _; show Res.ok (.lst acc) S = _; simp
    | cons x xs ih =>
      intro acc hx
      show (match f (it x) S with | .ok (.lst ys) S' => lcLoop f (xs.map it) (acc ++ ys) S' | _ => .bad) = _
      rw [hx x List.mem_cons_self]
      show lcLoop f (xs.map it) (acc ++ h x) S = _
      rw [ih (acc ++ h x) fun y hy => hx y (List.mem_cons_of_mem _ hy)]
      simp
  exact key l [] hs
theorem lc_map {α : Type} {cl : Clr} {σ : Sl} {S S1 : Sto} {g : Tg} {it c e : E} {own : List (Str × Nat)} {w : Wv} (enc : α → Wv) (l : List α) (hi : ev cl it σ S = .ok w S1) (hw : itW w = some (l.map enc)) (h : α → List Wv)
    (hs : ∀ x ∈ l, lcF g (ev cl c) (ev cl e) (wipeW σ (own.map (·.2))) (enc x) S1 = .ok (.lst (h x)) S1) : ev cl (.lc g it c e own) σ S = .ok (.lst (l.flatMap h)) S1 := by
  rw [ev_lc, hi]
  simp only [bind_ok, hw]
  exact lcLoop_map enc _ S1 h l hs
theorem gx_map {α : Type} {cl : Clr} {σ : Sl} {S S1 : Sto} {g : Tg} {it c e : E} {own : List (Str × Nat)} {w : Wv} (u : GU) (enc : α → Wv) (l : List α) (hi : ev cl it σ S = .ok w S1) (hw : itW w = some (l.map enc)) (h : α → List Wv) (hu : u = .tup ∨ u = .sum)
    (hs : ∀ x ∈ l, lcF g (ev cl c) (ev cl e) (wipeW σ (own.map (·.2))) (enc x) S1 = .ok (.lst (h x)) S1) : ev cl (.gx u g it c e own) σ S = match u with
      | .tup => .ok (.tup (l.flatMap h)) S1
      | .sum => (match intsW (l.flatMap h) with | some ns => .ok (.int ns.sum) S1 | none => .bad)
      | _ => .bad := by
  rw [ev_gx, hi]
  simp only [bind_ok, hw]
  rcases hu with rfl | rfl
  · show ((lcLoop _ (l.map enc) [] S1).bind _) = _
    rw [lcLoop_map enc _ S1 h l hs]; rfl
  · show ((lcLoop _ (l.map enc) [] S1).bind _) = _
    rw [lcLoop_map enc _ S1 h l hs]; rfl
theorem gn_map {α : Type} {cl : Clr} {σ : Sl} {S S1 : Sto} {g : Tg} {it c e : E} {own : List (Str × Nat)} {w : Wv} (u : GN) (enc : α → Wv) (l : List α) (hi : ev cl it σ S = .ok w S1) (hw : itW w = some (l.map enc)) (h : α → List Wv)
    (hs : ∀ x ∈ l, lcF g (ev cl c) (ev cl e) (wipeW σ (own.map (·.2))) (enc x) S1 = .ok (.lst (h x)) S1) : ev cl (.gn u g it c e own) σ S = match u with
      | .lst => .ok (.lst (l.flatMap h)) S1
      | .srt => sortW (l.flatMap h) S1 := by
  rw [ev_gn, hi]
  simp only [bind_ok, hw]
  cases u with
  | lst => exact lcLoop_map enc _ S1 h l hs
  | srt =>
    show ((lcLoop _ (l.map enc) [] S1).bind _) = _
    rw [lcLoop_map enc _ S1 h l hs]; rfl

/-! ### values of Lean's types -/
class Enc (α : Type) [DecidableEq α] where
  enc : α → Wv
  d : α → PyData
  dp : Nat
  toD : ∀ a, toD (enc a) = some (d a)
  dep : ∀ a, (d a).depth ≤ dp
  eqv : ∀ a b, PyData.eqv (d a) (d b) = decide (a = b)
open Enc (enc)
section
variable {α β : Type} [DecidableEq α] [DecidableEq β] [Enc α] [Enc β]
theorem toDs_enc : ∀ l : List α, toDs (l.map enc) = some (l.map Enc.d)
  | [] => rfl
  | a :: l => by
    show (match toD (enc a), toDs (l.map enc) with | some d, some ds => some (d :: ds) | _, _ => none) = _
    rw [Enc.toD, toDs_enc l]; rfl
theorem depAll : ∀ l : List α, PyData.depthAll (l.map Enc.d) ≤ Enc.dp α
  | [] => by simp [PyData.depthAll]
  | a :: l => by
    have h1 := Enc.dep a
    have h2 := depAll l
    simp only [List.map_cons, PyData.depthAll]
    omega
theorem eqvAll_enc : ∀ a b : List α, PyData.eqvAll (a.map Enc.d) (b.map Enc.d) = decide (a = b)
  | [], [] => by simp [PyData.eqvAll]
  | [], b :: bs => by simp [PyData.eqvAll]
  | a :: as, [] => by simp [PyData.eqvAll]
  | a :: as, b :: bs => by
    simp only [List.map_cons, PyData.eqvAll, Enc.eqv, eqvAll_enc as bs]
    by_cases h : a = b <;> by_cases h2 : as = bs <;> simp [h, h2]
instance : Enc Int where
  enc := .int
  d := .int
  dp := 0
  toD _ := rfl
  dep _ := by simp [PyData.depth]
  eqv a b := by
    show (a == b) = decide (a = b)
    by_cases h : a = b
    · subst h; simp
    · rw [decide_eq_false h]; exact beq_false_of_ne h
instance : Enc Bool where
  enc := .bl
  d := .bool
  dp := 0
  toD _ := rfl
  dep _ := by simp [PyData.depth]
  eqv a b := by cases a <;> cases b <;> rfl
instance : Enc Str where
  enc := .str
  d := .str
  dp := 0
  toD _ := rfl
  dep _ := by simp [PyData.depth]
  eqv a b := by
    show (a == b) = decide (a = b)
    by_cases h : a = b
    · subst h; simp
    · rw [decide_eq_false h]; exact beq_false_of_ne h
instance : Enc (α × β) where
  enc p := .tup [enc p.1, enc p.2]
  d p := .tuple [Enc.d p.1, Enc.d p.2]
  dp := Enc.dp α + Enc.dp β + 1
  toD p := by
    show (toDs [enc p.1, enc p.2]).map PyData.tuple = _
    have : toDs [enc p.1, enc p.2] = some [Enc.d p.1, Enc.d p.2] := by
      simp only [toDs, Enc.toD]
    rw [this]; rfl
  dep p := by
    have h1 := Enc.dep p.1
    have h2 := Enc.dep p.2
    simp only [PyData.depth, PyData.depthAll]
    omega
  eqv p q := by
    obtain ⟨a, b⟩ := p
    obtain ⟨c, d⟩ := q
    simp only [PyData.eqv, PyData.eqvAll, Enc.eqv, Bool.and_true]
    by_cases h : a = c <;> by_cases h2 : b = d <;> simp [h, h2]
instance : Enc (List α) where
  enc l := .lst (l.map enc)
  d l := .list (l.map Enc.d)
  dp := Enc.dp α + 1
  toD l := by
    show (toDs (l.map enc)).map PyData.list = _
    rw [toDs_enc]; rfl
  dep l := by
    have h := depAll l
    simp only [PyData.depth]
    omega
  eqv a b := by simp only [PyData.eqv]; exact eqvAll_enc a b
/-- a row that is a tuple -/
structure Row (α : Type) where
  l : List α
  deriving DecidableEq
instance : Enc (Row α) where
  enc r := .tup (r.l.map enc)
  d r := .tuple (r.l.map Enc.d)
  dp := Enc.dp α + 1
  toD r := by
    show (toDs (r.l.map enc)).map PyData.tuple = _
    rw [toDs_enc]; rfl
  dep r := by
    have h := depAll r.l
    simp only [PyData.depth]
    omega
  eqv a b := by
    obtain ⟨a⟩ := a
    obtain ⟨b⟩ := b
    simp only [PyData.eqv, eqvAll_enc, Row.mk.injEq]
/-- three in a tuple -/
structure T3 (α β γ : Type) where
  a : α
  b : β
  c : γ
  deriving DecidableEq
instance {γ : Type} [DecidableEq γ] [Enc γ] : Enc (T3 α β γ) where
  enc p := .tup [enc p.a, enc p.b, enc p.c]
  d p := .tuple [Enc.d p.a, Enc.d p.b, Enc.d p.c]
  dp := Enc.dp α + Enc.dp β + Enc.dp γ + 1
  toD p := by
    show (toDs [enc p.a, enc p.b, enc p.c]).map PyData.tuple = _
    have : toDs [enc p.a, enc p.b, enc p.c] = some [Enc.d p.a, Enc.d p.b, Enc.d p.c] := by
      simp only [toDs, Enc.toD]
    rw [this]; rfl
  dep p := by
    have h1 := Enc.dep p.a
    have h2 := Enc.dep p.b
    have h3 := Enc.dep p.c
    simp only [PyData.depth, PyData.depthAll]
    omega
  eqv p q := by
    obtain ⟨a, b, c⟩ := p
    obtain ⟨a', b', c'⟩ := q
    simp only [PyData.eqv, PyData.eqvAll, Enc.eqv, Bool.and_true, T3.mk.injEq]
    by_cases h : a = a' <;> by_cases h2 : b = b' <;> by_cases h3 : c = c' <;> simp [h, h2, h3]
theorem eq_enc (a b : α) (h : Enc.dp α ≤ 64 := by decide) : eqD (enc a) (enc b) = some (decide (a = b)) := by
  unfold eqD
  rw [Enc.toD, Enc.toD]
  simp only []
  have h1 := Enc.dep a
  have h2 := Enc.dep b
  rw [if_pos ⟨by omega, by omega⟩, Enc.eqv]
end
end Dy

end
section
set_option Elab.async false
set_option linter.all false
set_option maxRecDepth 100000
set_option maxHeartbeats 400000
/-! Dz, part R: order and sorting of values of Lean's types. -/
namespace Dy
open PySem L2
open Enc (enc)

class EncOrd (α : Type) [DecidableEq α] extends Enc α where
  lt : α → α → Bool
  alk : ∀ a b, PySem.W.alike (d a) (d b) = true
  dlt : ∀ a b, PySem.W.dataLt (d a) (d b) = lt a b
  kind : (∀ a, isTupC (d a) = true) ∨ (∀ a, (!isTupD (d a) && !isNonD (d a)) = true)
  irr : ∀ a, lt a a = false
  tr : ∀ a b c, lt a b = true → lt b c = true → lt a c = true
  tot : ∀ a b, lt a b = false → lt b a = false → a = b
section
variable {α β : Type} [DecidableEq α] [DecidableEq β]
def insA (lt : α → α → Bool) (x : α) : List α → List α
  | [] => [x]
  | y :: ys => if lt y x then y :: insA lt x ys else x :: y :: ys
def isortA (lt : α → α → Bool) : List α → List α
  | [] => []
  | x :: xs => insA lt x (isortA lt xs)
instance : EncOrd Int where
  lt a b := decide (a < b)
  alk _ _ := rfl
  dlt := PySem.W.dataLt_int
  kind := .inr fun _ => rfl
  irr a := by simp
  tr a b c h1 h2 := by simp at h1 h2 ⊢; omega
  tot a b h1 h2 := by simp at h1 h2; omega
instance [EncOrd α] [EncOrd β] : EncOrd (α × β) where
  lt p q := EncOrd.lt p.1 q.1 || (decide (p.1 = q.1) && EncOrd.lt p.2 q.2)
  alk p q := by
    show PySem.W.alikeAll [Enc.d p.1, Enc.d p.2] [Enc.d q.1, Enc.d q.2] = true
    simp [PySem.W.alikeAll, EncOrd.alk]
  dlt p q := by
    show PySem.W.dataLt (.tuple [Enc.d p.1, Enc.d p.2]) (.tuple [Enc.d q.1, Enc.d q.2]) = _
    rw [PySem.W.dataLt_pair (EncOrd.alk _ _) (EncOrd.alk _ _), Enc.eqv, Enc.eqv, EncOrd.dlt, EncOrd.dlt]
    by_cases h : p.1 = q.1
    · rw [h]
      simp only [decide_true, if_true, EncOrd.irr, Bool.false_or, Bool.true_and]
      by_cases h2 : p.2 = q.2
      · rw [h2]; simp [EncOrd.irr]
      · simp [h2]
    · simp [h]
  kind := .inl fun _ => rfl
  irr p := by simp [EncOrd.irr]
  tr p q r h1 h2 := by
    simp only [Bool.or_eq_true, Bool.and_eq_true, decide_eq_true_eq] at h1 h2 ⊢
    rcases h1 with h1 | ⟨e1, h1⟩ <;> rcases h2 with h2 | ⟨e2, h2⟩
    · exact .inl (EncOrd.tr _ _ _ h1 h2)
    · rw [← e2]; exact .inl h1
    · rw [e1]; exact .inl h2
    · exact .inr ⟨e1.trans e2, EncOrd.tr _ _ _ h1 h2⟩
  tot p q h1 h2 := by
    simp only [Bool.or_eq_false_iff, Bool.and_eq_false_iff, decide_eq_false_iff_not] at h1 h2
    have e1 := EncOrd.tot _ _ h1.1 h2.1
    have e2 : p.2 = q.2 := by
      refine EncOrd.tot _ _ ?_ ?_
      · rcases h1.2 with h | h
        · exact absurd e1 h
        · exact h
      · rcases h2.2 with h | h
        · exact absurd e1.symm h
        · exact h
    exact Prod.ext e1 e2
variable [EncOrd α]
theorem insP_enc (x : α) : ∀ l : List α, insP (enc x, Enc.d x) (l.map fun a => (enc a, Enc.d a)) = (insA EncOrd.lt x l).map fun a => (enc a, Enc.d a)
  | [] => rfl
  | y :: l => by
    show (if PySem.W.dataLt (Enc.d y) (Enc.d x) then _ else _) = _
    rw [EncOrd.dlt]
    unfold insA
    by_cases h : EncOrd.lt y x = true
    · rw [if_pos h, if_pos h, insP_enc x l]; rfl
    · rw [if_neg h, if_neg h]; rfl
theorem isortP_enc : ∀ l : List α, isortP (l.map fun a => (enc a, Enc.d a)) = (isortA EncOrd.lt l).map fun a => (enc a, Enc.d a)
  | [] => rfl
  | x :: l => by
    show insP (enc x, Enc.d x) (isortP (l.map fun a => (enc a, Enc.d a))) = _
    rw [isortP_enc l, insP_enc]; rfl
theorem zip_enc : ∀ l : List α, (l.map enc).zip (l.map Enc.d) = l.map fun a => (enc a, Enc.d a)
  | [] => rfl
  | x :: l => by simp [zip_enc l]
theorem alikeB_enc (l : List α) : alikeB (l.map Enc.d) = true := by
  unfold alikeB
  simp only [List.all_map, List.all_eq_true, Function.comp_apply]
  intro a _ b _
  exact EncOrd.alk a b
theorem sortB_enc (l : List α) (h : Enc.dp α ≤ 60) : sortB (l.map Enc.d) = true := by
  unfold sortB
  rw [alikeB_enc, Bool.true_and, Bool.and_eq_true, Bool.or_eq_true]
  refine ⟨?_, ?_⟩
  · rcases (EncOrd.kind (α := α)) with k | k
    · exact .inl (by simp only [List.all_map, List.all_eq_true, Function.comp_apply]; exact fun a _ => k a)
    · exact .inr (by simp only [List.all_map, List.all_eq_true, Function.comp_apply]; exact fun a _ => k a)
  · simp only [List.all_map, List.all_eq_true, Function.comp_apply, decide_eq_true_eq]
    exact fun a _ => Nat.le_trans (Enc.dep a) h
theorem sort_enc (l : List α) (S : Sto) (h : Enc.dp α ≤ 60 := by decide) : sortW (l.map enc) S = .ok (.lst ((isortA EncOrd.lt l).map enc)) S := by
  unfold sortW
  rw [toDs_enc]
  simp only [sortB_enc l h, if_true, zip_enc, isortP_enc, List.map_map]
  rfl
theorem bestP_enc (f : PyData → PyData → Bool) (g : α → α → Bool) (hg : ∀ a b, f (Enc.d a) (Enc.d b) = g a b) : ∀ (l : List α) (x : α), bestP f (enc x, Enc.d x) (l.map fun a => (enc a, Enc.d a)) = (enc (l.foldl (fun a y => if g y a then y else a) x), Enc.d (l.foldl (fun a y => if g y a then y else a) x))
  | [], x => rfl
  | y :: l, x => by
    unfold bestP
    rw [List.map_cons, List.foldl_cons, List.foldl_cons]
    have : (if f (enc y, Enc.d y).2 (enc x, Enc.d x).2 then (enc y, Enc.d y) else (enc x, Enc.d x)) = (enc (if g y x then y else x), Enc.d (if g y x then y else x)) := by
      show (if f (Enc.d y) (Enc.d x) then _ else _) = _
      rw [hg]
      by_cases h : g y x = true
      · rw [if_pos h, if_pos h]
      · rw [if_neg h, if_neg h]
    rw [this]
    exact bestP_enc f g hg l _
end
/-! ### what sorting does -/
section
variable {α : Type} [DecidableEq α] [EncOrd α]
theorem ins_perm (x : α) : ∀ l : List α, (insA EncOrd.lt x l).Perm (x :: l)
  | [] => List.Perm.refl _
  | y :: l => by
    unfold insA
    by_cases h : EncOrd.lt y x = true
    · rw [if_pos h]
      exact ((ins_perm x l).cons y).trans (List.Perm.swap x y l)
    · rw [if_neg h]
theorem sort_perm : ∀ l : List α, (isortA EncOrd.lt l).Perm l
  | [] => List.Perm.refl _
  | x :: l => (ins_perm x _).trans ((sort_perm l).cons x)
/-- not before -/
def Le (a b : α) : Prop := EncOrd.lt b a = false
theorem Le.tr {a b c : α} (h1 : Le a b) (h2 : Le b c) : Le a c := by
  unfold Le at *
  cases h : EncOrd.lt c a with
  | false => rfl
  | true =>
    cases h3 : EncOrd.lt b c with
    | true => rw [EncOrd.tr _ _ _ h3 h] at h1; cases h1
    | false => cases EncOrd.tot _ _ h2 h3; rw [h1] at h; cases h
theorem Le.of_lt {a b : α} (h : EncOrd.lt a b = true) : Le a b := by
  unfold Le
  cases h2 : EncOrd.lt b a with
  | false => rfl
  | true => have := EncOrd.tr _ _ _ h h2; rw [EncOrd.irr] at this; cases this
theorem ins_sorted (x : α) : ∀ l : List α, l.Pairwise Le → (insA EncOrd.lt x l).Pairwise Le
  | [], _ => List.pairwise_singleton _ _
  | y :: l, h => by
    unfold insA
    by_cases hc : EncOrd.lt y x = true
    · rw [if_pos hc]
      refine List.Pairwise.cons (fun z hz => ?_) (ins_sorted x l h.of_cons)
      rcases List.mem_cons.mp ((ins_perm x l).mem_iff.mp hz) with rfl | hz
      · exact Le.of_lt hc
      · exact (List.pairwise_cons.mp h).1 z hz
    · rw [if_neg hc]
      have hxy : Le x y := by unfold Le; simpa using hc
      refine List.Pairwise.cons (fun z hz => ?_) h
      rcases List.mem_cons.mp hz with rfl | hz
      · exact hxy
      · exact hxy.tr ((List.pairwise_cons.mp h).1 z hz)
theorem sort_sorted : ∀ l : List α, (isortA EncOrd.lt l).Pairwise Le
  | [] => List.Pairwise.nil
  | x :: l => ins_sorted x _ (sort_sorted l)
end
theorem le_int {a b : Int} : Le a b ↔ a ≤ b := by
  unfold Le
  show decide (b < a) = false ↔ _
  rw [decide_eq_false_iff_not]; omega
theorem le_pair {p q : Int × Int} : Le p q ↔ (p.1 < q.1 ∨ p.1 = q.1 ∧ p.2 ≤ q.2) := by
  unfold Le
  show (decide (q.1 < p.1) || (decide (q.1 = p.1) && decide (q.2 < p.2))) = false ↔ _
  simp only [Bool.or_eq_false_iff, Bool.and_eq_false_iff, decide_eq_false_iff_not]
  omega
/-- strictly rising rows with the same members are one -/
theorem rise_eq : ∀ {a b : List Int}, a.Pairwise (· < ·) → b.Pairwise (· < ·) → (∀ x, x ∈ a ↔ x ∈ b) → a = b
  | [], [], _, _, _ => rfl
  | [], y :: b, _, _, h => absurd ((h y).mpr List.mem_cons_self) (by simp)
  | x :: a, [], _, _, h => absurd ((h x).mp List.mem_cons_self) (by simp)
  | x :: a, y :: b, ha, hb, h => by
    obtain ⟨ha1, ha2⟩ := List.pairwise_cons.mp ha
    obtain ⟨hb1, hb2⟩ := List.pairwise_cons.mp hb
    have e : x = y := by
      have h1 := (h x).mp List.mem_cons_self
      have h2 := (h y).mpr List.mem_cons_self
      rcases List.mem_cons.mp h1 with r | r
      · exact r
      · rcases List.mem_cons.mp h2 with q | q
        · exact q.symm
        · have := hb1 x r; have := ha1 y q; omega
    subst e
    rw [rise_eq ha2 hb2 fun z => ?_]
    constructor
    · intro hz
      rcases List.mem_cons.mp ((h z).mp (List.mem_cons_of_mem _ hz)) with r | r
      · have := ha1 z hz; omega
      · exact r
    · intro hz
      rcases List.mem_cons.mp ((h z).mpr (List.mem_cons_of_mem _ hz)) with r | r
      · have := hb1 z hz; omega
      · exact r
end Dy

end
section
set_option Elab.async false
set_option linter.all false
set_option maxRecDepth 100000
set_option maxHeartbeats 400000
/-! Dz, part S: rows by place, what leaves a def. -/
namespace Dy
open PySem L2
open Enc (enc)
/-! ### by place -/
theorem ixN_neg1 (n : Nat) : ixN n (-1) = if n = 0 then none else some (n - 1) := by
  unfold ixN
  by_cases h : n = 0
  · subst h; decide
  · rw [if_neg h]
    have h1 : ¬ (0 : Int) ≤ -1 := by decide
    have h2 : -(n : Int) ≤ -1 := by omega
    rw [if_neg h1, if_pos h2]
    congr 1
    omega
theorem atI_nat {ws : List Wv} (i : Nat) : atI ws (i : Int) = ws[i]? := by
  unfold atI ixN
  by_cases h : i < ws.length
  · simp [h]
  · simp [h]
theorem atI_lastW (ws : List Wv) : atI ws (-1) = ws.getLast? := by
  unfold atI
  rw [ixN_neg1]
  by_cases h : ws.length = 0
  · rw [if_pos h]
    have : ws = [] := List.eq_nil_of_length_eq_zero h
    subst this; rfl
  · rw [if_neg h, List.getLast?_eq_getElem?]; rfl
theorem set_last {α : Type} (l : List α) (x : α) (h : l ≠ []) : l.set (l.length - 1) x = l.dropLast ++ [x] := by
  obtain ⟨l', y, rfl⟩ : ∃ l' y, l = l' ++ [y] := ⟨l.dropLast, l.getLast h, (List.dropLast_concat_getLast h).symm⟩
  simp
/-! ### what leaves -/
mutual
theorem toD_closed (n : Nat) : ∀ (w : Wv) (d : PyData), toD w = some d → closedW n w = true
  | .non, _, _ => rfl
  | .bl _, _, _ => rfl
  | .int _, _, _ => rfl
  | .str _, _, _ => rfl
  | .tup xs, d, h => by
    have h : (toDs xs).map PyData.tuple = some d := h
    cases e : toDs xs with
    | none => rw [e] at h; cases h
    | some ds => exact toDs_closed n xs ds e
  | .lst xs, d, h => by
    have h : (toDs xs).map PyData.list = some d := h
    cases e : toDs xs with
    | none => rw [e] at h; cases h
    | some ds => exact toDs_closed n xs ds e
  | .dct _, _, h => by cases h
  | .ref _, _, h => by cases h
  | .arg _, _, h => by cases h
theorem toDs_closed (n : Nat) : ∀ (ws : List Wv) (ds : List PyData), toDs ws = some ds → closedL n ws = true
  | [], _, _ => rfl
  | x :: xs, ds, h => by
    have h : (match toD x, toDs xs with | some d, some ds => some (d :: ds) | _, _ => none) = some ds := h
    cases e1 : toD x with
    | none => rw [e1] at h; cases h
    | some d =>
      cases e2 : toDs xs with
      | none => rw [e1, e2] at h; cases h
      | some es =>
        show (closedW n x && closedL n xs) = true
        rw [toD_closed n x d e1, toDs_closed n xs es e2]; rfl
end
theorem cut_data {w : Wv} {d : PyData} (h : toD w = some d) (S T : Sto) : cutR S (.ok w (S ++ T)) = .ok w S := by
  have hf : frzW S.length (S ++ T) w = w := by cases w <;> first | rfl | cases h
  have hc := toD_closed S.length w d h
  unfold cutR
  simp only [hf, hc, List.take_left, Bool.and_true]
  rw [if_pos]
  unfold keepS
  simp
section
variable {α : Type} [DecidableEq α] [Enc α]
theorem cut_enc (a : α) (S T : Sto) : cutR S (.ok (enc a) (S ++ T)) = .ok (enc a) S := cut_data (Enc.toD a) S T
theorem cut_row (l : List α) (S T : Sto) : cutR S (.ok (.tup (l.map enc)) (S ++ T)) = .ok (.tup (l.map enc)) S := cut_enc (Row.mk l) S T
theorem cut_lst (l : List α) (S T : Sto) : cutR S (.ok (.lst (l.map enc)) (S ++ T)) = .ok (.lst (l.map enc)) S := cut_enc l S T
theorem eq_lst (a b : List α) (h : Enc.dp α ≤ 60 := by decide) : eqD (.lst (a.map enc)) (.lst (b.map enc)) = some (decide (a = b)) := eq_enc a b (by show Enc.dp α + 1 ≤ 64; omega)
theorem eq_lst0 (a : List α) (h : Enc.dp α ≤ 60 := by decide) : eqD (.lst (a.map enc)) (.lst []) = some (decide (a = [])) := eq_lst a [] h
theorem eq_row (a b : List α) (h : Enc.dp α ≤ 60 := by decide) : eqD (.tup (a.map enc)) (.tup (b.map enc)) = some (decide (a = b)) := by
  have := eq_enc (Row.mk a) (Row.mk b) (by show Enc.dp α + 1 ≤ 64; omega)
  simp only [Row.mk.injEq] at this
  exact this
theorem getLast_enc (l : List α) : (l.map enc).getLast? = l.getLast?.map enc := by
  rw [List.getLast?_map]
end
theorem run_at' {FT : Str → Option FD} {k : Nat} {x : Str} {d : FD} {ws : List Wv} {S : Sto} (h : FT x = some d) (hl : ws.length = d.np) (hc : d.cut = false) : run FT (k + 1) x ws S = leave (ex (run FT k) d.body (startW d.ns ws) S) := by
  show (match FT x with | none => Res.bad | some d => if ws.length = d.np then (if d.cut then cutR S (leave (ex (run FT k) d.body (startW d.ns ws) S)) else leave (ex (run FT k) d.body (startW d.ns ws) S)) else .bad) = _
  rw [h]
  simp only [hl, if_true, hc]
  rfl
theorem run_cut' {FT : Str → Option FD} {k : Nat} {x : Str} {d : FD} {ws : List Wv} {S : Sto} (h : FT x = some d) (hl : ws.length = d.np) (hc : d.cut = true) : run FT (k + 1) x ws S = cutR S (leave (ex (run FT k) d.body (startW d.ns ws) S)) := by
  show (match FT x with | none => Res.bad | some d => if ws.length = d.np then (if d.cut then cutR S (leave (ex (run FT k) d.body (startW d.ns ws) S)) else leave (ex (run FT k) d.body (startW d.ns ws) S)) else .bad) = _
  rw [h]
  simp only [hl, if_true, hc]
/-! ### objects at the store's end -/
theorem sto_at (S : Sto) (o : SO) : (S ++ [o])[S.length]? = some o := by simp
theorem sto_set (S : Sto) (o o' : SO) : (S ++ [o]).set S.length o' = S ++ [o'] := by simp
theorem rd_end (S : Sto) (ws : List Wv) : rd (S ++ [.lst ws]) (.ref S.length) = .lst ws := by
  show (match (S ++ [SO.lst ws])[S.length]? with | some (.lst ws) => Wv.lst ws | some (.dct ws) => Wv.dct ws | _ => Wv.ref S.length) = _
  rw [sto_at]
theorem rd_endD (S : Sto) (ws : List (Key × Wv)) : rd (S ++ [.dct ws]) (.ref S.length) = .dct ws := by
  show (match (S ++ [SO.dct ws])[S.length]? with | some (.lst ws) => Wv.lst ws | some (.dct ws) => Wv.dct ws | _ => Wv.ref S.length) = _
  rw [sto_at]
theorem app_end (S : Sto) (ws : List Wv) (w : Wv) (h : ws.length < 16777216) : mtW .app (.ref S.length) [w] (S ++ [.lst ws]) = .ok .non (S ++ [.lst (ws ++ [w])]) := by
  show (match (S ++ [SO.lst ws])[S.length]? with | some (.lst xs) => if xs.length < sizeLine then Res.ok .non ((S ++ [SO.lst ws]).set S.length (.lst (xs ++ [w]))) else .bad | _ => .bad) = _
  rw [sto_at]
  simp only []
  rw [if_pos (by rw [sizeLine_eq]; exact h), sto_set]
theorem isMt_end (S : Sto) (ws : List Wv) : isMtW .app (.ref S.length) (S ++ [.lst ws]) = true := by
  show (match rd (S ++ [SO.lst ws]) (.ref S.length) with | .lst _ => true | _ => false) = true
  rw [rd_end]
theorem ext_end (S : Sto) (a b : List Wv) (h : a.length + b.length ≤ 16777216) : augW .add (.ref S.length) (.lst b) (S ++ [.lst a]) = .ok (.ref S.length) (S ++ [.lst (a ++ b)]) := by
  show (match (S ++ [SO.lst a])[S.length]? with | some (.lst x) => if x.length + b.length ≤ sizeLine then Res.ok (.ref S.length) ((S ++ [SO.lst a]).set S.length (.lst (x ++ b))) else .bad | _ => .bad) = _
  rw [sto_at]
  simp only []
  rw [if_pos (by rw [sizeLine_eq]; exact h), sto_set]
theorem setLast_end (S : Sto) (ws : List Wv) (w : Wv) (h : ws ≠ []) : setIxW (.ref S.length) (.int (-1)) w (S ++ [.lst ws]) = some (S ++ [.lst (ws.dropLast ++ [w])]) := by
  show (match (S ++ [SO.lst ws])[S.length]? with
    | some (.lst ws') => (match ixN ws'.length (-1) with | some j => some ((S ++ [SO.lst ws]).set S.length (.lst (ws'.set j w))) | none => none)
    | some (.dct ws') => if ws'.length < sizeLine then some ((S ++ [SO.lst ws]).set S.length (.dct (putW ws' (.inl (-1)) w))) else none
    | _ => none) = _
  rw [sto_at]
  simp only [ixN_neg1]
  have : ws.length ≠ 0 := fun z => h (List.eq_nil_of_length_eq_zero z)
  simp only [if_neg this, sto_set, set_last ws w h]
theorem setKey_end (S : Sto) (ws : List (Key × Wv)) (i : Int) (w : Wv) (h : ws.length < 16777216) : setIxW (.ref S.length) (.int i) w (S ++ [.dct ws]) = some (S ++ [.dct (putW ws (.inl i) w)]) := by
  show (match (S ++ [SO.dct ws])[S.length]? with
    | some (.lst ws') => (match ixN ws'.length i with | some j => some ((S ++ [SO.dct ws]).set S.length (.lst (ws'.set j w))) | none => none)
    | some (.dct ws') => if ws'.length < sizeLine then some ((S ++ [SO.dct ws]).set S.length (.dct (putW ws' (.inl i) w))) else none
    | _ => none) = _
  rw [sto_at]
  simp only []
  rw [if_pos (by rw [sizeLine_eq]; exact h), sto_set]
/-! ### pieces of operations -/
@[simp] theorem w_idxL (xs : List Wv) (i : Int) (S : Sto) : idxW (.lst xs) (.int i) S = match atI xs i with | some w => .ok w S | none => .bad := rfl
@[simp] theorem w_idxT (xs : List Wv) (i : Int) (S : Sto) : idxW (.tup xs) (.int i) S = match atI xs i with | some w => .ok w S | none => .bad := rfl
theorem w_idxR {xs : List Wv} {i : Int} {S : Sto} {n : Nat} (h : rd S (.ref n) = .lst xs) : idxW (.ref n) (.int i) S = match atI xs i with | some w => .ok w S | none => .bad := by
  have e : idxW (.ref n) (.int i) S = (match rd S (.ref n), Wv.int i with
    | .dct kvs, w => (match keyW w with | some k => (match valW kvs k with | some v => Res.ok v S | none => .bad) | none => .bad)
    | .lst xs, .int i => (match atI xs i with | some w => .ok w S | none => .bad)
    | .tup xs, .int i => (match atI xs i with | some w => .ok w S | none => .bad)
    | .str z, .int i => if z.length ≤ sizeLine then (match atI z.cps.toList i with | some c => .ok (.str ⟨#[c]⟩) S | none => .bad) else .bad
    | _, _ => .bad) := rfl
  rw [e, h]
@[simp] theorem w_max2 (i j : Int) (S : Sto) : biW .max2 [.int i, .int j] S = .ok (.int (max i j)) S := by
  show Res.ok (.int (if j > i then j else i)) S = _
  have : (if j > i then j else i) = max i j := by omega
  rw [this]
@[simp] theorem w_min2 (i j : Int) (S : Sto) : biW .min2 [.int i, .int j] S = .ok (.int (min i j)) S := by
  show Res.ok (.int (if j < i then j else i)) S = _
  have : (if j < i then j else i) = min i j := by omega
  rw [this]
@[simp] theorem at0 (a : Wv) (l : List Wv) : atI (a :: l) 0 = some a := by
  have := atI_nat (ws := a :: l) 0
  simpa using this
@[simp] theorem at1 (a b : Wv) (l : List Wv) : atI (a :: b :: l) 1 = some b := by
  have := atI_nat (ws := a :: b :: l) 1
  simpa using this
@[simp] theorem at2 (a b c : Wv) (l : List Wv) : atI (a :: b :: c :: l) 2 = some c := by
  have := atI_nat (ws := a :: b :: c :: l) 2
  simpa using this
theorem enc_sp (p : Int × Int) : enc p = .tup [.int p.1, .int p.2] := rfl
theorem enc_int (i : Int) : enc i = .int i := rfl
theorem lit_of (i : Int) (w : Wv) (S : Sto) : intO false (.int i) S = .ok (.int i) S := rfl
@[simp] theorem w_eqS (a b : Wv) (S : Sto) : cmpW .eq a b S = ofB (eqD (rd S a) (rd S b)) false S := by
  cases a <;> cases b <;> rfl
@[simp] theorem w_neS (a b : Wv) (S : Sto) : cmpW .ne a b S = ofB (eqD (rd S a) (rd S b)) true S := by
  cases a <;> cases b <;> rfl
@[simp] theorem w_inS (a b : Wv) (S : Sto) : cmpW .isin a b S = ofB (memW a (rd S b)) false S := by
  cases a <;> cases b <;> rfl
@[simp] theorem w_ninS (a b : Wv) (S : Sto) : cmpW .notin a b S = ofB (memW a (rd S b)) true S := by
  cases a <;> cases b <;> rfl
@[simp] theorem ofB_someF (b : Bool) (S : Sto) : ofB (some b) false S = .ok (.bl b) S := rfl
@[simp] theorem ofB_someT (b : Bool) (S : Sto) : ofB (some b) true S = .ok (.bl (!b)) S := rfl
@[simp] theorem rd_non (S : Sto) : rd S .non = .non := rfl
@[simp] theorem rd_bl (S : Sto) (b : Bool) : rd S (.bl b) = .bl b := rfl
@[simp] theorem rd_int (S : Sto) (b : Int) : rd S (.int b) = .int b := rfl
@[simp] theorem rd_strS (S : Sto) (b : Str) : rd S (.str b) = .str b := rfl
@[simp] theorem rd_tupS (S : Sto) (b : List Wv) : rd S (.tup b) = .tup b := rfl
@[simp] theorem rd_lstS (S : Sto) (b : List Wv) : rd S (.lst b) = .lst b := rfl
@[simp] theorem rd_dctS (S : Sto) (b : List (Key × Wv)) : rd S (.dct b) = .dct b := rfl
@[simp] theorem eqD_nil : eqD (.lst []) (.lst []) = some true := eq_lst0 (α := Int) []
@[simp] theorem eqD_nilT : eqD (.tup []) (.tup []) = some true := eq_row (α := Int) [] []
@[simp] theorem eqD_intS (a b : Int) : eqD (.int a) (.int b) = some (decide (a = b)) := eqD_int a b
theorem mem_ints (m : Int) (ms : List Int) : memW (.int m) (.lst (ms.map Wv.int)) = some (decide (m ∈ ms)) := by
  show (if flatW (.int m) = true ∧ (ms.map Wv.int).all flatW = true then some (inW (.int m) (ms.map Wv.int)) else _) = _
  have h : (ms.map Wv.int).all flatW = true := by
    rw [List.all_map, List.all_eq_true]; intro x _; rfl
  rw [if_pos ⟨rfl, h⟩]
  congr 1
  unfold inW
  rw [List.any_map]
  induction ms with
  | nil => rfl
  | cons x xs ih =>
    have h2 : (xs.map Wv.int).all flatW = true := by
      rw [List.all_map, List.all_eq_true]; intro x _; rfl
    rw [List.any_cons, ih h2]
    show ((x == m) || _) = _
    by_cases e : x = m
    · subst e; simp
    · have : (x == m) = false := beq_false_of_ne e
      rw [this, Bool.false_or]
      have e' : ¬ m = x := fun z => e z.symm
      simp [e']
@[simp] theorem w_len (xs : List Wv) (S : Sto) : biW .len [.lst xs] S = .ok (.int xs.length) S := rfl
@[simp] theorem w_lenT (xs : List Wv) (S : Sto) : biW .len [.tup xs] S = .ok (.int xs.length) S := rfl
@[simp] theorem w_tup1L (xs : List Wv) (S : Sto) : biW .tup1 [.lst xs] S = .ok (.tup xs) S := rfl
@[simp] theorem w_tup1T (xs : List Wv) (S : Sto) : biW .tup1 [.tup xs] S = .ok (.tup xs) S := rfl
theorem w_tup1R {xs : List Wv} {S : Sto} {n : Nat} (h : rd S (.ref n) = .lst xs) : biW .tup1 [.ref n] S = .ok (.tup xs) S := by
  show (match rd S (.ref n) with | .lst xs => Res.ok (.tup xs) S | .tup xs => .ok (.tup xs) S | _ => .bad) = _
  rw [h]
@[simp] theorem w_lst1L (xs : List Wv) (S : Sto) : bnW .lst1 [.lst xs] S = .ok (.lst xs) S := rfl
@[simp] theorem w_lst1T (xs : List Wv) (S : Sto) : bnW .lst1 [.tup xs] S = .ok (.lst xs) S := rfl
@[simp] theorem w_srtL (xs : List Wv) (S : Sto) : bnW .srt [.lst xs] S = sortW xs S := rfl
/-- how a loop goes on -/
def SR.loop (r : SR) (k : Sl → Sto → SR) : SR := match r with
  | .nx σ S => k σ S
  | .ct σ S => k σ S
  | .bk σ S => .nx σ S
  | r => r
@[simp] theorem loop_nx (σ : Sl) (S : Sto) (k : Sl → Sto → SR) : (SR.nx σ S).loop k = k σ S := rfl
@[simp] theorem loop_ct (σ : Sl) (S : Sto) (k : Sl → Sto → SR) : (SR.ct σ S).loop k = k σ S := rfl
@[simp] theorem loop_bk (σ : Sl) (S : Sto) (k : Sl → Sto → SR) : (SR.bk σ S).loop k = .nx σ S := rfl
@[simp] theorem loop_rt (w : Wv) (S : Sto) (k : Sl → Sto → SR) : (SR.rt w S).loop k = .rt w S := rfl
@[simp] theorem loop_xc (c : Str) (σ : Sl) (S : Sto) (k : Sl → Sto → SR) : (SR.xc c σ S).loop k = .xc c σ S := rfl
theorem fLoop_cons (g : Tg) (b : Sl → Sto → SR) (x : Wv) (xs : List Wv) (σ : Sl) (S : Sto) : fLoop g b (x :: xs) σ S = match asg g x σ with
  | some σ' => (b σ' S).loop fun σ S => fLoop g b xs σ S
  | none => .bad := rfl
theorem sl_init (xs : List Wv) (S : Sto) (h : xs ≠ []) : slW (.lst xs) .non (.int (-1)) S = .ok (.lst xs.dropLast) S := by
  show Res.ok (.lst (cutW xs none (some (-1)))) S = _
  have hl : xs.length ≠ 0 := fun z => h (List.eq_nil_of_length_eq_zero z)
  have e : cutW xs none (some (-1)) = xs.dropLast := by
    unfold cutW HT.sIx
    simp only [List.drop_zero]
    rw [if_pos (by decide), List.dropLast_eq_take]
    congr 1
    omega
  rw [e]
theorem w_addL (a b : List Wv) (S : Sto) (h : a.length + b.length ≤ 16777216) : binW .add (.lst a) (.lst b) S = .ok (.lst (a ++ b)) S := if_pos (by rw [sizeLine_eq]; exact h)
/-- a name's value -/
theorem ev_v {cl : Clr} {σ : Sl} {S : Sto} {i : Nat} {w : Wv} (h : σ[i]? = some (some w)) : ev cl (.var i) σ S = .ok w S := by rw [ev_var, h]
end Dy

end
section
set_option Elab.async false
set_option linter.all false
set_option maxRecDepth 100000
set_option maxHeartbeats 0
/-! The small texts of diarystack_k02_spans_of_time; printed by gen.py. -/
namespace K02
open PySem Dy L2 PyProof.Rows
def top (i : Nat) : Stmt := PySem.Challenge.pw_diarystack_k02_spans_of_time.main.body.getD i (.Pass ⟨0, 0, 0, 0⟩)
def d_check_span : FD := ⟨1, 1, (.seq (.ifs (.or (.cmp .ne (.bi .len (.cons (.var 0) .nil)) (.lit (.int 2))) (.cmp .le (.idx (.var 0) (.lit (.int 1))) (.idx (.var 0) (.lit (.int 0)))))
    (.seq (.rais "SpanError")
    .nil)
    .nil)
    .nil), false⟩
def d_long_of : FD := ⟨1, 1, (.seq (.expr (.call "check_span" (.cons (.var 0) .nil)))
    (.seq (.ret (.bin .sub (.idx (.var 0) (.lit (.int 1))) (.idx (.var 0) (.lit (.int 0)))))
    .nil)), false⟩
def d_spans_meet : FD := ⟨2, 2, (.seq (.expr (.call "check_span" (.cons (.var 0) .nil)))
    (.seq (.expr (.call "check_span" (.cons (.var 1) .nil)))
    (.seq (.ret (.and (.cmp .lt (.idx (.var 0) (.lit (.int 0))) (.idx (.var 1) (.lit (.int 1)))) (.cmp .lt (.idx (.var 1) (.lit (.int 0))) (.idx (.var 0) (.lit (.int 1))))))
    .nil))), false⟩
def d_shared_span : FD := ⟨2, 2, (.seq (.ret (.ite (.call "spans_meet" (.cons (.var 0) (.cons (.var 1) .nil))) (.tup (.cons (.bi .max2 (.cons (.idx (.var 0) (.lit (.int 0))) (.cons (.idx (.var 1) (.lit (.int 0))) .nil))) (.cons (.bi .min2 (.cons (.idx (.var 0) (.lit (.int 1))) (.cons (.idx (.var 1) (.lit (.int 1))) .nil))) .nil))) (.lit .non)))
    .nil), false⟩
def d_joined_spans : FD := ⟨1, 5, (.seq (.forr (.nm 1) (.var 0)
    (.seq (.expr (.call "check_span" (.cons (.var 1) .nil)))
    .nil))
    (.seq (.set (.nm 2) (.obj (.lst .nil)))
    (.seq (.forr (.tup (.cons (.nm 3) (.cons (.nm 4) .nil))) (.gn .srt (.nm 1) (.var 0) (.lit (.bl true)) (.tup (.cons (.idx (.var 1) (.lit (.int 0))) (.cons (.idx (.var 1) (.lit (.int 1))) .nil))) [("span", 1)])
    (.seq (.ifs (.and (.cmp .ne (.var 2) (.lst .nil)) (.cmp .le (.var 3) (.idx (.idx (.var 2) (.neg (.lit (.int 1)))) (.lit (.int 1)))))
    (.seq (.setIx (.var 2) (.neg (.lit (.int 1))) (.tup (.cons (.idx (.idx (.var 2) (.neg (.lit (.int 1)))) (.lit (.int 0))) (.cons (.bi .max2 (.cons (.idx (.idx (.var 2) (.neg (.lit (.int 1)))) (.lit (.int 1))) (.cons (.var 4) .nil))) .nil))))
    .nil)
    (.seq (.expr (.mt .app (.var 2) (.cons (.tup (.cons (.var 3) (.cons (.var 4) .nil))) .nil)))
    .nil))
    .nil))
    (.seq (.ret (.bi .tup1 (.cons (.var 2) .nil)))
    .nil)))), true⟩
def d_without_spans : FD := ⟨2, 8, (.seq (.set (.nm 2) (.obj (.lst .nil)))
    (.seq (.forr (.tup (.cons (.nm 3) (.cons (.nm 4) .nil))) (.call "joined_spans" (.cons (.var 0) .nil))
    (.seq (.set (.nm 5) (.var 3))
    (.seq (.forr (.tup (.cons (.nm 6) (.cons (.nm 7) .nil))) (.call "joined_spans" (.cons (.var 1) .nil))
    (.seq (.ifs (.and (.cmp .lt (.var 6) (.var 4)) (.cmp .gt (.var 7) (.var 5)))
    (.seq (.aug 2 .add (.ite (.cmp .gt (.var 6) (.var 5)) (.lst (.cons (.tup (.cons (.var 5) (.cons (.var 6) .nil))) .nil)) (.lst .nil)))
    (.seq (.set (.nm 5) (.bi .max2 (.cons (.var 5) (.cons (.var 7) .nil))))
    .nil))
    .nil)
    .nil))
    (.seq (.aug 2 .add (.ite (.cmp .lt (.var 5) (.var 4)) (.lst (.cons (.tup (.cons (.var 5) (.cons (.var 4) .nil))) .nil)) (.lst .nil)))
    .nil))))
    (.seq (.ret (.bi .tup1 (.cons (.var 2) .nil)))
    .nil))), true⟩
def d_both_spans : FD := ⟨2, 6, (.seq (.set (.nm 2) (.obj (.lst .nil)))
    (.seq (.forr (.nm 3) (.call "joined_spans" (.cons (.var 0) .nil))
    (.seq (.forr (.nm 4) (.call "joined_spans" (.cons (.var 1) .nil))
    (.seq (.set (.nm 5) (.call "shared_span" (.cons (.var 3) (.cons (.var 4) .nil))))
    (.seq (.aug 2 .add (.ite (.notN (.var 5)) (.lst (.cons (.var 5) .nil)) (.lst .nil)))
    .nil)))
    .nil))
    (.seq (.ret (.bi .tup1 (.cons (.var 2) .nil)))
    .nil))), true⟩
def d_all_long : FD := ⟨1, 3, (.seq (.ret (.gx .sum (.tup (.cons (.nm 1) (.cons (.nm 2) .nil))) (.call "joined_spans" (.cons (.var 0) .nil)) (.lit (.bl true)) (.bin .sub (.var 2) (.var 1)) [("begin", 1), ("end", 2)]))
    .nil), false⟩
def d_span_parts : FD := ⟨2, 3, (.seq (.expr (.call "check_span" (.cons (.var 0) .nil)))
    (.seq (.ifs (.or (.cmp .lt (.var 1) (.lit (.int 1))) (.cmp .gt (.bin .fdiv (.bin .sub (.bin .add (.bin .sub (.idx (.var 0) (.lit (.int 1))) (.idx (.var 0) (.lit (.int 0)))) (.var 1)) (.lit (.int 1))) (.var 1)) (.glob "MOST_SPANS" (.int 400))))
    (.seq (.rais "SpanError")
    .nil)
    .nil)
    (.seq (.ret (.gx .tup (.nm 2) (.rng3 (.idx (.var 0) (.lit (.int 0))) (.idx (.var 0) (.lit (.int 1))) (.var 1)) (.lit (.bl true)) (.tup (.cons (.var 2) (.cons (.bi .min2 (.cons (.bin .add (.var 2) (.var 1)) (.cons (.idx (.var 0) (.lit (.int 1))) .nil))) .nil))) [("begin", 2)]))
    .nil))), false⟩
def d_span_days : FD := ⟨1, 5, (.seq (.expr (.call "check_span" (.cons (.var 0) .nil)))
    (.seq (.par2 1 2 (.bin .fdiv (.idx (.var 0) (.lit (.int 0))) (.lit (.int 1440))) (.bin .fdiv (.bin .sub (.idx (.var 0) (.lit (.int 1))) (.lit (.int 1))) (.lit (.int 1440))))
    (.seq (.ifs (.cmp .ge (.bin .sub (.var 2) (.var 1)) (.glob "MOST_SPANS" (.int 400)))
    (.seq (.rais "SpanError")
    .nil)
    .nil)
    (.seq (.set (.nm 3) (.obj (.lst .nil)))
    (.seq (.forr (.nm 4) (.rng2 (.var 1) (.bin .add (.var 2) (.lit (.int 1))))
    (.seq (.expr (.mt .app (.var 3) (.cons (.tup (.cons (.var 4) (.cons (.bi .max2 (.cons (.lit (.int 0)) (.cons (.bin .sub (.idx (.var 0) (.lit (.int 0))) (.bin .mul (.lit (.int 1440)) (.var 4))) .nil))) (.cons (.bi .min2 (.cons (.lit (.int 1440)) (.cons (.bin .sub (.idx (.var 0) (.lit (.int 1))) (.bin .mul (.lit (.int 1440)) (.var 4))) .nil))) .nil)))) .nil)))
    .nil))
    (.seq (.ret (.bi .tup1 (.cons (.var 3) .nil)))
    .nil)))))), true⟩
def d_most_at_once : FD := ⟨1, 8, (.seq (.forr (.nm 1) (.var 0)
    (.seq (.expr (.call "check_span" (.cons (.var 1) .nil)))
    .nil))
    (.seq (.set (.nm 2) (.bn .srt (.cons (.bin .add (.lc (.nm 1) (.var 0) (.lit (.bl true)) (.tup (.cons (.idx (.var 1) (.lit (.int 0))) (.cons (.lit (.int 1)) .nil))) [("span", 1)]) (.lc (.nm 1) (.var 0) (.lit (.bl true)) (.tup (.cons (.idx (.var 1) (.lit (.int 1))) (.cons (.bin .sub (.lit (.int 0)) (.lit (.int 1))) .nil))) [("span", 1)])) .nil)))
    (.seq (.set (.tup (.cons (.nm 3) (.cons (.nm 4) (.cons (.nm 5) .nil)))) (.tup (.cons (.lit (.int 0)) (.cons (.lit (.int 0)) (.cons (.lit .non) .nil)))))
    (.seq (.forr (.tup (.cons (.nm 6) (.cons (.nm 7) .nil))) (.var 2)
    (.seq (.aug 4 .add (.var 7))
    (.seq (.set (.tup (.cons (.nm 3) (.cons (.nm 5) .nil))) (.ite (.cmp .gt (.var 4) (.var 3)) (.tup (.cons (.var 4) (.cons (.var 6) .nil))) (.tup (.cons (.var 3) (.cons (.var 5) .nil)))))
    .nil)))
    (.seq (.ret (.tup (.cons (.var 3) (.cons (.var 5) .nil))))
    .nil))))), false⟩
def d_columns_for : FD := ⟨1, 9, (.seq (.forr (.nm 1) (.var 0)
    (.seq (.expr (.call "check_span" (.cons (.var 1) .nil)))
    .nil))
    (.seq (.set (.tup (.cons (.nm 2) (.cons (.nm 3) .nil))) (.tup (.cons (.obj (.dd .nil)) (.cons (.lst .nil) .nil))))
    (.seq (.forr (.tup (.cons (.nm 4) (.cons (.nm 5) .nil))) (.gn .srt (.tup (.cons (.nm 5) (.cons (.nm 1) .nil))) (.enum (.var 0)) (.lit (.bl true)) (.tup (.cons (.idx (.var 1) (.lit (.int 0))) (.cons (.var 5) .nil))) [("place", 5), ("span", 1)])
    (.seq (.set (.nm 6) (.lc (.tup (.cons (.nm 7) (.cons (.nm 8) .nil))) (.enum (.var 3)) (.cmp .le (.var 8) (.var 4)) (.var 7) [("column", 7), ("end", 8)]))
    (.seq (.set (.nm 7) (.ite (.cmp .ne (.var 6) (.lst .nil)) (.idx (.var 6) (.lit (.int 0))) (.bi .len (.cons (.var 3) .nil))))
    (.seq (.set (.nm 3) (.bin .add (.bin .add (.sl (.var 3) (.lit .non) (.var 7)) (.lst (.cons (.idx (.idx (.var 0) (.var 5)) (.lit (.int 1))) .nil))) (.sl (.var 3) (.bin .add (.var 7) (.lit (.int 1))) (.lit .non))))
    (.seq (.setIx (.var 2) (.var 5) (.var 7))
    .nil)))))
    (.seq (.ret (.gx .tup (.nm 5) (.rng1 (.bi .len (.cons (.var 0) .nil))) (.lit (.bl true)) (.idx (.var 2) (.var 5)) [("place", 5)]))
    .nil)))), true⟩
def d_first_gap : FD := ⟨4, 6, (.seq (.expr (.call "check_span" (.cons (.tup (.cons (.var 1) (.cons (.var 2) .nil))) .nil)))
    (.seq (.ifs (.cmp .lt (.var 3) (.lit (.int 1)))
    (.seq (.rais "SpanError")
    .nil)
    .nil)
    (.seq (.forr (.tup (.cons (.nm 4) (.cons (.nm 5) .nil))) (.call "without_spans" (.cons (.tup (.cons (.tup (.cons (.var 1) (.cons (.var 2) .nil))) .nil)) (.cons (.var 0) .nil)))
    (.seq (.ifs (.cmp .ge (.bin .sub (.var 5) (.var 4)) (.var 3))
    (.seq (.ret (.tup (.cons (.var 4) (.cons (.bin .add (.var 4) (.var 3)) .nil))))
    .nil)
    .nil)
    .nil))
    (.seq (.ret (.lit .non))
    .nil)))), false⟩
def d_padded_span : FD := ⟨3, 3, (.seq (.expr (.call "check_span" (.cons (.var 0) .nil)))
    (.seq (.ifs (.cmp .lt (.bi .min2 (.cons (.var 1) (.cons (.var 2) .nil))) (.lit (.int 0)))
    (.seq (.rais "SpanError")
    .nil)
    .nil)
    (.seq (.ret (.tup (.cons (.bin .sub (.idx (.var 0) (.lit (.int 0))) (.var 1)) (.cons (.bin .add (.idx (.var 0) (.lit (.int 1))) (.var 2)) .nil))))
    .nil))), false⟩
def d_moved_span : FD := ⟨2, 2, (.seq (.expr (.call "check_span" (.cons (.var 0) .nil)))
    (.seq (.ret (.tup (.cons (.bin .add (.idx (.var 0) (.lit (.int 0))) (.var 1)) (.cons (.bin .add (.idx (.var 0) (.lit (.int 1))) (.var 1)) .nil))))
    .nil)), false⟩
def d_how_spans_lie : FD := ⟨2, 2, (.seq (.expr (.call "check_span" (.cons (.var 0) .nil)))
    (.seq (.expr (.call "check_span" (.cons (.var 1) .nil)))
    (.seq (.ifs (.cmp .eq (.bi .tup1 (.cons (.var 0) .nil)) (.bi .tup1 (.cons (.var 1) .nil)))
    (.seq (.ret (.lit (.str "same")))
    .nil)
    .nil)
    (.seq (.ifs (.cmp .lt (.idx (.var 0) (.lit (.int 1))) (.idx (.var 1) (.lit (.int 0))))
    (.seq (.ret (.lit (.str "before")))
    .nil)
    .nil)
    (.seq (.ifs (.cmp .gt (.idx (.var 0) (.lit (.int 0))) (.idx (.var 1) (.lit (.int 1))))
    (.seq (.ret (.lit (.str "behind")))
    .nil)
    .nil)
    (.seq (.ifs (.or (.cmp .eq (.idx (.var 0) (.lit (.int 1))) (.idx (.var 1) (.lit (.int 0)))) (.cmp .eq (.idx (.var 0) (.lit (.int 0))) (.idx (.var 1) (.lit (.int 1)))))
    (.seq (.ret (.lit (.str "touches")))
    .nil)
    .nil)
    (.seq (.ifs (.and (.cmp .le (.idx (.var 0) (.lit (.int 0))) (.idx (.var 1) (.lit (.int 0)))) (.cmp .ge (.idx (.var 0) (.lit (.int 1))) (.idx (.var 1) (.lit (.int 1)))))
    (.seq (.ret (.lit (.str "holds")))
    .nil)
    .nil)
    (.seq (.ret (.ite (.and (.cmp .ge (.idx (.var 0) (.lit (.int 0))) (.idx (.var 1) (.lit (.int 0)))) (.cmp .le (.idx (.var 0) (.lit (.int 1))) (.idx (.var 1) (.lit (.int 1))))) (.lit (.str "within")) (.lit (.str "meets"))))
    .nil)))))))), false⟩
def d__law_dice : FD := ⟨1, 1, (.seq (.ifs (.chain .lt .lt (.bin .sub (.lit (.int 0)) (.lit (.int 10))) (.var 0) (.lit (.int 10)))
    (.seq (.ret (.new (.cons (.bi .abs (.cons (.var 0) .nil)) (.cons (.lit (.int 0)) (.cons (.lit (.int 2)) .nil)))))
    .nil)
    .nil)
    (.seq (.ret (.new (.cons (.var 0) (.cons (.bin .add (.lit (.int 1)) (.bin .mod (.bi .int (.cons (.var 0) .nil)) (.lit (.int 1009)))) (.cons (.bi .int (.cons (.cmp .ge (.var 0) (.bin .pow (.lit (.int 10)) (.lit (.int 18)))) .nil)) .nil)))))
    .nil)), false⟩
def d__law_roll : FD := ⟨2, 3, (.seq (.ifs (.or (.cmp .eq (.idx (.var 0) (.lit (.int 2))) (.lit (.int 2))) (.and (.cmp .eq (.idx (.var 0) (.lit (.int 2))) (.lit (.int 1))) (.cmp .gt (.idx (.var 0) (.lit (.int 0))) (.lit (.int 0)))))
    (.seq (.set (.nm 2) (.bin .mod (.bi .int (.cons (.idx (.var 0) (.lit (.int 0))) .nil)) (.var 1)))
    (.seq (.setIx (.var 0) (.lit (.int 0)) (.bin .fdiv (.idx (.var 0) (.lit (.int 0))) (.var 1)))
    (.seq (.ret (.var 2))
    .nil)))
    .nil)
    (.seq (.setIx (.var 0) (.lit (.int 2)) (.lit (.int 0)))
    (.seq (.ifs (.cmp .gt (.var 1) (.lit (.int 100000000)))
    (.seq (.ret (.bin .mod (.bi .int (.cons (.bin .add (.bin .mul (.call "_law_roll" (.cons (.var 0) (.cons (.bin .add (.bin .fdiv (.var 1) (.lit (.int 100000000))) (.lit (.int 1))) .nil))) (.lit (.int 100000000))) (.call "_law_roll" (.cons (.var 0) (.cons (.lit (.int 100000000)) .nil)))) .nil)) (.var 1)))
    .nil)
    .nil)
    (.seq (.setIx (.var 0) (.lit (.int 0)) (.bin .mod (.bi .int (.cons (.bin .add (.bin .add (.bin .mul (.idx (.var 0) (.lit (.int 0))) (.lit (.int 48271))) (.bin .mul (.idx (.var 0) (.lit (.int 1))) (.lit (.int 69621)))) (.lit (.int 11))) .nil)) (.lit (.int 2147483647))))
    (.seq (.setIx (.var 0) (.lit (.int 1)) (.bin .add (.idx (.var 0) (.lit (.int 1))) (.lit (.int 1))))
    (.seq (.ret (.bin .mod (.bi .int (.cons (.bin .fdiv (.idx (.var 0) (.lit (.int 0))) (.lit (.int 7))) .nil)) (.var 1)))
    .nil)))))), false⟩
def d__law_rounds : FD := ⟨2, 4, (.seq (.set (.nm 2) (.sl (.var 0) (.lit .non) (.var 1)))
    (.seq (.ifs (.cmp .eq (.var 2) (.lst .nil))
    (.seq (.set (.nm 2) (.lst (.cons (.lit (.int 0)) .nil)))
    .nil)
    .nil)
    (.seq (.ret (.lc (.nm 3) (.var 2) (.lit (.bl true)) (.call "_law_dice" (.cons (.var 3) .nil)) [("cell", 3)]))
    .nil))), false⟩
def d__law_minutes : FD := ⟨1, 5, (.seq (.set (.nm 1) (.obj (.dd .nil)))
    (.seq (.forr (.tup (.cons (.nm 2) (.cons (.nm 3) .nil))) (.var 0)
    (.seq (.expr (.mt .updD (.var 1) (.cons (.bn .dct1 (.cons (.lc (.nm 4) (.rng2 (.var 2) (.var 3)) (.lit (.bl true)) (.tup (.cons (.var 4) (.cons (.lit (.int 1)) .nil))) [("minute", 4)]) .nil)) .nil)))
    .nil))
    (.seq (.ret (.bn .srt (.cons (.var 1) .nil)))
    .nil))), true⟩
def d__law_runs : FD := ⟨1, 3, (.seq (.set (.nm 1) (.lst .nil))
    (.seq (.forr (.nm 2) (.var 0)
    (.seq (.set (.nm 1) (.ite (.and (.cmp .ne (.var 1) (.lst .nil)) (.cmp .eq (.idx (.idx (.var 1) (.neg (.lit (.int 1)))) (.lit (.int 1))) (.var 2))) (.bin .add (.sl (.var 1) (.lit .non) (.neg (.lit (.int 1)))) (.lst (.cons (.tup (.cons (.idx (.idx (.var 1) (.neg (.lit (.int 1)))) (.lit (.int 0))) (.cons (.bin .add (.var 2) (.lit (.int 1))) .nil))) .nil))) (.bin .add (.var 1) (.lst (.cons (.tup (.cons (.var 2) (.cons (.bin .add (.var 2) (.lit (.int 1))) .nil))) .nil)))))
    .nil))
    (.seq (.ret (.var 1))
    .nil))), false⟩
def d__law_spans : FD := ⟨2, 5, (.seq (.set (.nm 2) (.lst .nil))
    (.seq (.forr (.nm 3) (.rng1 (.call "_law_roll" (.cons (.var 0) (.cons (.var 1) .nil))))
    (.seq (.set (.nm 4) (.call "_law_roll" (.cons (.var 0) (.cons (.lit (.int 24)) .nil))))
    (.seq (.set (.nm 2) (.bin .add (.var 2) (.lst (.cons (.tup (.cons (.var 4) (.cons (.bin .add (.bin .add (.var 4) (.lit (.int 1))) (.call "_law_roll" (.cons (.var 0) (.cons (.lit (.int 8)) .nil)))) .nil))) .nil))))
    .nil)))
    (.seq (.ret (.var 2))
    .nil))), false⟩
def d__law_plain : FD := ⟨0, 5, (.seq (.set (.nm 0) (.lst (.cons (.lam 18) (.cons (.lam 17) (.cons (.lam 16) (.cons (.lam 15) .nil))))))
    (.seq (.set (.nm 0) (.bin .add (.var 0) (.lst (.cons (.lam 14) (.cons (.lam 13) (.cons (.lam 12) .nil))))))
    (.seq (.set (.nm 0) (.bin .add (.var 0) (.lst (.cons (.lam 11) (.cons (.lam 10) (.cons (.lam 9) (.cons (.lam 8) .nil)))))))
    (.seq (.set (.nm 0) (.bin .add (.var 0) (.lst (.cons (.lam 7) (.cons (.lam 6) (.cons (.lam 5) (.cons (.lam 4) .nil)))))))
    (.seq (.set (.nm 0) (.bin .add (.var 0) (.lst (.cons (.lam 3) (.cons (.lam 2) (.cons (.lam 1) (.cons (.lam 0) .nil)))))))
    (.seq (.ifs (.or (.cmp .ne (.lc (.nm 3) (.var 0) (.cmp .ne (.toldV "_law_told" "SpanError" (.var 3)) (.lit (.str "SpanError"))) (.lit (.int 1)) [("f", 3)]) (.lst .nil)) (.cmp .ne (.glob "MOST_SPANS" (.int 400)) (.lit (.int 400))))
    (.seq (.ret (.lit (.bl false)))
    .nil)
    .nil)
    (.seq (.set (.nm 1) (.lst (.cons (.call "joined_spans" (.cons (.tup (.cons (.tup (.cons (.lit (.int 5)) (.cons (.lit (.int 8)) .nil))) (.cons (.tup (.cons (.lit (.int 1)) (.cons (.lit (.int 3)) .nil))) (.cons (.tup (.cons (.lit (.int 3)) (.cons (.lit (.int 5)) .nil))) .nil)))) .nil)) (.cons (.call "without_spans" (.cons (.tup (.cons (.tup (.cons (.lit (.int 0)) (.cons (.lit (.int 10)) .nil))) .nil)) (.cons (.tup (.cons (.tup (.cons (.lit (.int 2)) (.cons (.lit (.int 3)) .nil))) (.cons (.tup (.cons (.lit (.int 8)) (.cons (.lit (.int 12)) .nil))) .nil))) .nil))) (.cons (.call "both_spans" (.cons (.tup (.cons (.tup (.cons (.lit (.int 0)) (.cons (.lit (.int 10)) .nil))) .nil)) (.cons (.tup (.cons (.tup (.cons (.lit (.int 2)) (.cons (.lit (.int 3)) .nil))) (.cons (.tup (.cons (.lit (.int 8)) (.cons (.lit (.int 12)) .nil))) .nil))) .nil))) .nil)))))
    (.seq (.set (.nm 1) (.bin .add (.var 1) (.lst (.cons (.call "all_long" (.cons (.tup (.cons (.tup (.cons (.lit (.int 0)) (.cons (.lit (.int 5)) .nil))) (.cons (.tup (.cons (.lit (.int 3)) (.cons (.lit (.int 8)) .nil))) .nil))) .nil)) (.cons (.call "span_parts" (.cons (.tup (.cons (.lit (.int 0)) (.cons (.lit (.int 10)) .nil))) (.cons (.lit (.int 4)) .nil))) (.cons (.call "span_days" (.cons (.tup (.cons (.lit (.int 1400)) (.cons (.lit (.int 2900)) .nil))) .nil)) (.cons (.call "most_at_once" (.cons (.tup (.cons (.tup (.cons (.lit (.int 0)) (.cons (.lit (.int 5)) .nil))) (.cons (.tup (.cons (.lit (.int 3)) (.cons (.lit (.int 8)) .nil))) (.cons (.tup (.cons (.lit (.int 4)) (.cons (.lit (.int 6)) .nil))) .nil)))) .nil)) .nil)))))))
    (.seq (.set (.nm 1) (.bin .add (.var 1) (.lst (.cons (.call "columns_for" (.cons (.tup (.cons (.tup (.cons (.lit (.int 0)) (.cons (.lit (.int 5)) .nil))) (.cons (.tup (.cons (.lit (.int 3)) (.cons (.lit (.int 8)) .nil))) (.cons (.tup (.cons (.lit (.int 5)) (.cons (.lit (.int 6)) .nil))) .nil)))) .nil)) (.cons (.call "first_gap" (.cons (.tup (.cons (.tup (.cons (.lit (.int 2)) (.cons (.lit (.int 4)) .nil))) .nil)) (.cons (.lit (.int 0)) (.cons (.lit (.int 10)) (.cons (.lit (.int 3)) .nil))))) .nil)))))
    (.seq (.set (.nm 1) (.bin .add (.var 1) (.lst (.cons (.lc (.nm 4) (.tup (.cons (.tup (.cons (.lit (.int 2)) (.cons (.lit (.int 5)) .nil))) (.cons (.tup (.cons (.lit (.int 6)) (.cons (.lit (.int 7)) .nil))) (.cons (.tup (.cons (.lit (.int 5)) (.cons (.lit (.int 6)) .nil))) (.cons (.tup (.cons (.lit (.int 4)) (.cons (.lit (.int 7)) .nil))) (.cons (.tup (.cons (.lit (.int 3)) (.cons (.lit (.int 4)) .nil))) (.cons (.tup (.cons (.lit (.int 1)) (.cons (.lit (.int 9)) .nil))) (.cons (.tup (.cons (.lit (.int 0)) (.cons (.lit (.int 1)) .nil))) .nil)))))))) (.lit (.bl true)) (.call "how_spans_lie" (.cons (.tup (.cons (.lit (.int 2)) (.cons (.lit (.int 5)) .nil))) (.cons (.var 4) .nil))) [("span", 4)]) (.cons (.call "shared_span" (.cons (.tup (.cons (.lit (.int 0)) (.cons (.lit (.int 5)) .nil))) (.cons (.tup (.cons (.lit (.int 3)) (.cons (.lit (.int 9)) .nil))) .nil))) .nil)))))
    (.seq (.set (.nm 2) (.lst (.cons (.tup (.cons (.tup (.cons (.lit (.int 1)) (.cons (.lit (.int 8)) .nil))) .nil)) (.cons (.tup (.cons (.tup (.cons (.lit (.int 0)) (.cons (.lit (.int 2)) .nil))) (.cons (.tup (.cons (.lit (.int 3)) (.cons (.lit (.int 8)) .nil))) .nil))) (.cons (.tup (.cons (.tup (.cons (.lit (.int 2)) (.cons (.lit (.int 3)) .nil))) (.cons (.tup (.cons (.lit (.int 8)) (.cons (.lit (.int 10)) .nil))) .nil))) (.cons (.lit (.int 8)) (.cons (.tup (.cons (.tup (.cons (.lit (.int 0)) (.cons (.lit (.int 4)) .nil))) (.cons (.tup (.cons (.lit (.int 4)) (.cons (.lit (.int 8)) .nil))) (.cons (.tup (.cons (.lit (.int 8)) (.cons (.lit (.int 10)) .nil))) .nil)))) (.cons (.tup (.cons (.tup (.cons (.lit (.int 0)) (.cons (.lit (.int 1400)) (.cons (.lit (.int 1440)) .nil)))) (.cons (.tup (.cons (.lit (.int 1)) (.cons (.lit (.int 0)) (.cons (.lit (.int 1440)) .nil)))) (.cons (.tup (.cons (.lit (.int 2)) (.cons (.lit (.int 0)) (.cons (.lit (.int 20)) .nil)))) .nil)))) (.cons (.tup (.cons (.lit (.int 3)) (.cons (.lit (.int 4)) .nil))) (.cons (.tup (.cons (.lit (.int 0)) (.cons (.lit (.int 1)) (.cons (.lit (.int 0)) .nil)))) .nil))))))))))
    (.seq (.set (.nm 2) (.bin .add (.var 2) (.lst (.cons (.tup (.cons (.lit (.int 4)) (.cons (.lit (.int 7)) .nil))) (.cons (.lst (.cons (.lit (.str "same")) (.cons (.lit (.str "before")) (.cons (.lit (.str "touches")) (.cons (.lit (.str "meets")) (.cons (.lit (.str "holds")) (.cons (.lit (.str "within")) (.cons (.lit (.str "behind")) .nil)))))))) (.cons (.tup (.cons (.lit (.int 3)) (.cons (.lit (.int 5)) .nil))) .nil))))))
    (.seq (.ret (.cmp .eq (.var 1) (.var 2)))
    .nil))))))))))))), false⟩
def d_law : FD := ⟨1, 32, (.seq (.forr (.nm 1) (.call "_law_rounds" (.cons (.var 0) (.cons (.lit (.int 1)) .nil)))
    (.blk [2, 3, 4, 5, 6, 7, 8, 9, 10, 11, 12, 13, 14, 15, 16, 17, 18, 19, 20, 21, 22, 23, 24] (.seq (.set (.tup (.cons (.nm 2) (.cons (.nm 3) .nil))) (.tup (.cons (.call "_law_spans" (.cons (.var 1) (.cons (.lit (.int 6)) .nil))) (.cons (.call "_law_spans" (.cons (.var 1) (.cons (.lit (.int 5)) .nil))) .nil))))
    (.seq (.set (.tup (.cons (.nm 4) (.cons (.nm 5) .nil))) (.tup (.cons (.call "_law_minutes" (.cons (.var 2) .nil)) (.cons (.call "_law_minutes" (.cons (.var 3) .nil)) .nil))))
    (.seq (.ifs (.cmp .ne (.bn .lst1 (.cons (.call "joined_spans" (.cons (.var 2) .nil)) .nil)) (.call "_law_runs" (.cons (.var 4) .nil)))
    (.seq (.ret (.lit (.bl false)))
    .nil)
    .nil)
    (.seq (.ifs (.cmp .ne (.bn .lst1 (.cons (.call "without_spans" (.cons (.var 2) (.cons (.var 3) .nil))) .nil)) (.call "_law_runs" (.cons (.lc (.nm 25) (.var 4) (.cmp .notin (.var 25) (.var 5)) (.var 25) [("minute", 25)]) .nil)))
    (.seq (.ret (.lit (.bl false)))
    .nil)
    .nil)
    (.seq (.ifs (.cmp .ne (.call "all_long" (.cons (.var 2) .nil)) (.bi .len (.cons (.var 4) .nil)))
    (.seq (.ret (.lit (.bl false)))
    .nil)
    .nil)
    (.seq (.ifs (.cmp .ne (.call "_law_minutes" (.cons (.call "both_spans" (.cons (.var 2) (.cons (.var 3) .nil))) .nil)) (.lc (.nm 25) (.var 4) (.cmp .isin (.var 25) (.var 5)) (.var 25) [("minute", 25)]))
    (.seq (.ret (.lit (.bl false)))
    .nil)
    .nil)
    (.seq (.set (.nm 6) (.lc (.nm 25) (.rng1 (.lit (.int 40))) (.lit (.bl true)) (.bi .len (.cons (.lc (.tup (.cons (.nm 11) (.cons (.nm 28) .nil))) (.var 2) (.chain .le .lt (.var 11) (.var 25) (.var 28)) (.lit (.int 1)) [("begin", 11), ("end", 28)]) .nil)) [("minute", 25)]))
    (.seq (.set (.nm 7) (.bi .max1 (.cons (.var 6) .nil)))
    (.seq (.ifs (.cmp .ne (.call "most_at_once" (.cons (.var 2) .nil)) (.tup (.cons (.var 7) (.cons (.ite (.cmp .gt (.var 7) (.lit (.int 0))) (.mt .idxL (.var 6) (.cons (.var 7) .nil)) (.lit .non)) .nil))))
    (.seq (.ret (.lit (.bl false)))
    .nil)
    .nil)
    (.seq (.set (.tup (.cons (.nm 8) (.cons (.nm 9) (.cons (.nm 10) .nil)))) (.tup (.cons (.bn .lst1 (.cons (.call "columns_for" (.cons (.var 2) .nil)) .nil)) (.cons (.obj (.dd .nil)) (.cons (.lst .nil) .nil)))))
    (.seq (.forr (.tup (.cons (.nm 11) (.cons (.nm 12) .nil))) (.bn .srt (.cons (.lc (.tup (.cons (.nm 12) (.cons (.nm 27) .nil))) (.enum (.var 2)) (.lit (.bl true)) (.tup (.cons (.idx (.var 27) (.lit (.int 0))) (.cons (.var 12) .nil))) [("k", 12), ("row", 27)]) .nil))
    (.seq (.set (.nm 13) (.bin .add (.lc (.tup (.cons (.nm 29) (.cons (.nm 28) .nil))) (.enum (.var 10)) (.cmp .le (.var 28) (.var 11)) (.var 29) [("j", 29), ("end", 28)]) (.lst (.cons (.bi .len (.cons (.var 10) .nil)) .nil))))
    (.seq (.set (.nm 10) (.bin .add (.bin .add (.sl (.var 10) (.lit .non) (.idx (.var 13) (.lit (.int 0)))) (.lst (.cons (.idx (.idx (.var 2) (.var 12)) (.lit (.int 1))) .nil))) (.sl (.var 10) (.bin .add (.idx (.var 13) (.lit (.int 0))) (.lit (.int 1))) (.lit .non))))
    (.seq (.setIx (.var 9) (.var 12) (.idx (.var 13) (.lit (.int 0))))
    .nil))))
    (.seq (.ifs (.or (.cmp .ne (.var 8) (.lc (.nm 12) (.rng1 (.bi .len (.cons (.var 2) .nil))) (.lit (.bl true)) (.idx (.var 9) (.var 12)) [("k", 12)])) (.and (.cmp .ne (.var 2) (.lst .nil)) (.cmp .ne (.bin .add (.bi .max1 (.cons (.var 8) .nil)) (.lit (.int 1))) (.var 7))))
    (.seq (.ret (.lit (.bl false)))
    .nil)
    .nil)
    (.seq (.set (.tup (.cons (.nm 14) (.cons (.nm 15) .nil))) (.tup (.cons (.tup (.cons (.bin .add (.lit (.int 5)) (.call "_law_roll" (.cons (.var 1) (.cons (.lit (.int 8)) .nil)))) (.cons (.bin .add (.lit (.int 14)) (.call "_law_roll" (.cons (.var 1) (.cons (.lit (.int 8)) .nil)))) .nil))) (.cons (.idx (.bin .add (.lst (.cons (.tup (.cons (.lit (.int 9)) (.cons (.lit (.int 12)) .nil))) .nil)) (.var 2)) (.neg (.lit (.int 1)))) .nil))))
    (.seq (.set (.nm 16) (.lc (.nm 25) (.call "_law_minutes" (.cons (.lst (.cons (.var 14) .nil)) .nil)) (.cmp .isin (.var 25) (.call "_law_minutes" (.cons (.lst (.cons (.var 15) .nil)) .nil))) (.var 25) [("minute", 25)]))
    (.seq (.set (.nm 17) (.ite (.cmp .eq (.var 14) (.var 15)) (.lit (.str "same")) (.ite (.cmp .lt (.idx (.var 14) (.lit (.int 1))) (.idx (.var 15) (.lit (.int 0)))) (.lit (.str "before")) (.ite (.cmp .gt (.idx (.var 14) (.lit (.int 0))) (.idx (.var 15) (.lit (.int 1)))) (.lit (.str "behind")) (.ite (.cmp .eq (.var 16) (.lst .nil)) (.lit (.str "touches")) (.lit (.str "")))))))
    (.seq (.ifs (.cmp .eq (.var 17) (.lit (.str "")))
    (.seq (.set (.nm 17) (.ite (.cmp .eq (.var 16) (.call "_law_minutes" (.cons (.lst (.cons (.var 15) .nil)) .nil))) (.lit (.str "holds")) (.ite (.cmp .eq (.var 16) (.call "_law_minutes" (.cons (.lst (.cons (.var 14) .nil)) .nil))) (.lit (.str "within")) (.lit (.str "meets")))))
    .nil)
    .nil)
    (.seq (.ifs (.cmp .ne (.call "spans_meet" (.cons (.var 14) (.cons (.var 15) .nil))) (.cmp .ne (.var 16) (.lst .nil)))
    (.seq (.ret (.lit (.bl false)))
    .nil)
    .nil)
    (.seq (.ifs (.cmp .ne (.call "shared_span" (.cons (.var 14) (.cons (.var 15) .nil))) (.ite (.cmp .ne (.var 16) (.lst .nil)) (.tup (.cons (.idx (.var 16) (.lit (.int 0))) (.cons (.bin .add (.idx (.var 16) (.neg (.lit (.int 1)))) (.lit (.int 1))) .nil))) (.lit .non)))
    (.seq (.ret (.lit (.bl false)))
    .nil)
    .nil)
    (.seq (.ifs (.or (.cmp .ne (.call "how_spans_lie" (.cons (.var 14) (.cons (.var 15) .nil))) (.var 17)) (.cmp .ne (.call "long_of" (.cons (.var 14) .nil)) (.bin .sub (.idx (.var 14) (.lit (.int 1))) (.idx (.var 14) (.lit (.int 0))))))
    (.seq (.ret (.lit (.bl false)))
    .nil)
    .nil)
    (.seq (.set (.tup (.cons (.nm 18) (.cons (.nm 19) (.cons (.nm 20) (.cons (.nm 21) .nil))))) (.tup (.cons (.bin .add (.lit (.int 1)) (.call "_law_roll" (.cons (.var 1) (.cons (.lit (.int 5)) .nil)))) (.cons (.bin .add (.lit (.int 1)) (.call "_law_roll" (.cons (.var 1) (.cons (.lit (.int 6)) .nil)))) (.cons (.call "_law_roll" (.cons (.var 1) (.cons (.lit (.int 4)) .nil))) (.cons (.call "_law_roll" (.cons (.var 1) (.cons (.lit (.int 4)) .nil))) .nil))))))
    (.seq (.set (.nm 22) (.lc (.nm 25) (.rng2 (.idx (.var 14) (.lit (.int 0))) (.bin .add (.bin .sub (.idx (.var 14) (.lit (.int 1))) (.var 19)) (.lit (.int 1)))) (.cmp .eq (.lc (.nm 2) (.rng2 (.var 25) (.bin .add (.var 25) (.var 19))) (.cmp .isin (.var 2) (.var 4)) (.var 2) [("one", 2)]) (.lst .nil)) (.var 25) [("minute", 25)]))
    (.seq (.ifs (.cmp .ne (.call "first_gap" (.cons (.var 2) (.cons (.idx (.var 14) (.lit (.int 0))) (.cons (.idx (.var 14) (.lit (.int 1))) (.cons (.var 19) .nil))))) (.ite (.cmp .ne (.var 22) (.lst .nil)) (.tup (.cons (.idx (.var 22) (.lit (.int 0))) (.cons (.bin .add (.idx (.var 22) (.lit (.int 0))) (.var 19)) .nil))) (.lit .non)))
    (.seq (.ret (.lit (.bl false)))
    .nil)
    .nil)
    (.seq (.ifs (.cmp .ne (.bn .lst1 (.cons (.call "span_parts" (.cons (.var 14) (.cons (.var 18) .nil))) .nil)) (.lc (.nm 11) (.rng3 (.idx (.var 14) (.lit (.int 0))) (.idx (.var 14) (.lit (.int 1))) (.var 18)) (.lit (.bl true)) (.tup (.cons (.var 11) (.cons (.bi .min2 (.cons (.bin .add (.var 11) (.var 18)) (.cons (.idx (.var 14) (.lit (.int 1))) .nil))) .nil))) [("begin", 11)]))
    (.seq (.ret (.lit (.bl false)))
    .nil)
    .nil)
    (.seq (.ifs (.cmp .ne (.call "padded_span" (.cons (.var 14) (.cons (.var 20) (.cons (.var 21) .nil)))) (.tup (.cons (.bin .sub (.idx (.var 14) (.lit (.int 0))) (.var 20)) (.cons (.bin .add (.idx (.var 14) (.lit (.int 1))) (.var 21)) .nil))))
    (.seq (.ret (.lit (.bl false)))
    .nil)
    .nil)
    (.seq (.ifs (.cmp .ne (.call "moved_span" (.cons (.var 14) (.cons (.bin .sub (.var 20) (.var 21)) .nil))) (.tup (.cons (.bin .sub (.bin .add (.idx (.var 14) (.lit (.int 0))) (.var 20)) (.var 21)) (.cons (.bin .sub (.bin .add (.idx (.var 14) (.lit (.int 1))) (.var 20)) (.var 21)) .nil))))
    (.seq (.ret (.lit (.bl false)))
    .nil)
    .nil)
    (.seq (.set (.nm 23) (.tup (.cons (.call "_law_roll" (.cons (.var 1) (.cons (.lit (.int 4000)) .nil))) (.cons (.bin .add (.lit (.int 4001)) (.call "_law_roll" (.cons (.var 1) (.cons (.lit (.int 4000)) .nil)))) .nil))))
    (.seq (.set (.nm 24) (.lc (.nm 26) (.rng1 (.lit (.int 6))) (.and (.cmp .lt (.bin .mul (.lit (.int 1440)) (.var 26)) (.idx (.var 23) (.lit (.int 1)))) (.cmp .gt (.bin .add (.bin .mul (.lit (.int 1440)) (.var 26)) (.lit (.int 1440))) (.idx (.var 23) (.lit (.int 0))))) (.tup (.cons (.var 26) (.cons (.bin .sub (.bi .max2 (.cons (.idx (.var 23) (.lit (.int 0))) (.cons (.bin .mul (.lit (.int 1440)) (.var 26)) .nil))) (.bin .mul (.lit (.int 1440)) (.var 26))) (.cons (.bin .sub (.bi .min2 (.cons (.idx (.var 23) (.lit (.int 1))) (.cons (.bin .add (.bin .mul (.lit (.int 1440)) (.var 26)) (.lit (.int 1440))) .nil))) (.bin .mul (.lit (.int 1440)) (.var 26))) .nil)))) [("day", 26)]))
    (.seq (.ifs (.or (.cmp .ne (.bn .lst1 (.cons (.call "span_days" (.cons (.var 23) .nil)) .nil)) (.var 24)) (.cmp .ne (.bi .sum (.cons (.lc (.tup (.cons (.nm 26) (.cons (.nm 30) (.cons (.nm 31) .nil)))) (.var 24) (.lit (.bl true)) (.bin .sub (.var 31) (.var 30)) [("day", 26), ("first", 30), ("last", 31)]) .nil)) (.bin .sub (.idx (.var 23) (.lit (.int 1))) (.idx (.var 23) (.lit (.int 0))))))
    (.seq (.ret (.lit (.bl false)))
    .nil)
    .nil)
    .nil))))))))))))))))))))))))))))))
    (.seq (.ret (.call "_law_plain" .nil))
    .nil)), false⟩
def l_0 : E := (.call "how_spans_lie" (.cons (.tup (.cons (.lit (.int 1)) (.cons (.lit (.int 1)) .nil))) (.cons (.tup (.cons (.lit (.int 1)) (.cons (.lit (.int 2)) .nil))) .nil)))
def l_1 : E := (.call "moved_span" (.cons (.tup (.cons (.lit (.int 1)) (.cons (.lit (.int 1)) .nil))) (.cons (.lit (.int 1)) .nil)))
def l_2 : E := (.call "padded_span" (.cons (.tup (.cons (.lit (.int 1)) (.cons (.lit (.int 2)) .nil))) (.cons (.lit (.int 0)) (.cons (.neg (.lit (.int 1))) .nil))))
def l_3 : E := (.call "padded_span" (.cons (.tup (.cons (.lit (.int 1)) (.cons (.lit (.int 2)) .nil))) (.cons (.neg (.lit (.int 1))) (.cons (.lit (.int 0)) .nil))))
def l_4 : E := (.call "first_gap" (.cons (.tup .nil) (.cons (.lit (.int 1)) (.cons (.lit (.int 1)) (.cons (.lit (.int 1)) .nil)))))
def l_5 : E := (.call "first_gap" (.cons (.tup .nil) (.cons (.lit (.int 0)) (.cons (.lit (.int 1)) (.cons (.lit (.int 0)) .nil)))))
def l_6 : E := (.call "columns_for" (.cons (.tup (.cons (.tup (.cons (.lit (.int 1)) (.cons (.lit (.int 1)) .nil))) .nil)) .nil))
def l_7 : E := (.call "most_at_once" (.cons (.tup (.cons (.tup (.cons (.lit (.int 1)) (.cons (.lit (.int 1)) .nil))) .nil)) .nil))
def l_8 : E := (.call "span_days" (.cons (.tup (.cons (.lit (.int 0)) (.cons (.bin .mul (.lit (.int 1440)) (.lit (.int 401))) .nil))) .nil))
def l_9 : E := (.call "span_parts" (.cons (.tup (.cons (.lit (.int 0)) (.cons (.lit (.int 401)) .nil))) (.cons (.lit (.int 1)) .nil)))
def l_10 : E := (.call "span_parts" (.cons (.tup (.cons (.lit (.int 0)) (.cons (.lit (.int 10)) .nil))) (.cons (.lit (.int 0)) .nil)))
def l_11 : E := (.call "both_spans" (.cons (.tup (.cons (.tup (.cons (.lit (.int 1)) (.cons (.lit (.int 1)) .nil))) .nil)) (.cons (.tup .nil) .nil)))
def l_12 : E := (.call "without_spans" (.cons (.tup (.cons (.tup (.cons (.lit (.int 1)) (.cons (.lit (.int 2)) .nil))) .nil)) (.cons (.tup (.cons (.tup (.cons (.lit (.int 1)) (.cons (.lit (.int 1)) .nil))) .nil)) .nil)))
def l_13 : E := (.call "joined_spans" (.cons (.tup (.cons (.tup (.cons (.lit (.int 1)) (.cons (.lit (.int 1)) .nil))) .nil)) .nil))
def l_14 : E := (.call "spans_meet" (.cons (.tup (.cons (.lit (.int 1)) (.cons (.lit (.int 1)) .nil))) (.cons (.tup (.cons (.lit (.int 1)) (.cons (.lit (.int 2)) .nil))) .nil)))
def l_15 : E := (.call "long_of" (.cons (.tup (.cons (.lit (.int 1)) (.cons (.lit (.int 1)) .nil))) .nil))
def l_16 : E := (.call "check_span" (.cons (.tup (.cons (.lit (.int 1)) (.cons (.lit (.int 2)) (.cons (.lit (.int 3)) .nil)))) .nil))
def l_17 : E := (.call "check_span" (.cons (.tup (.cons (.lit (.int 2)) (.cons (.lit (.int 1)) .nil))) .nil))
def l_18 : E := (.call "check_span" (.cons (.tup (.cons (.lit (.int 1)) (.cons (.lit (.int 1)) .nil))) .nil))
def f_check_span : FnDat := ⟨"check_span", d_check_span, top 5, ["span"], ["span"], .no⟩
def f_long_of : FnDat := ⟨"long_of", d_long_of, top 6, ["span"], ["span"], .no⟩
def f_spans_meet : FnDat := ⟨"spans_meet", d_spans_meet, top 7, ["one", "other"], ["one", "other"], .no⟩
def f_shared_span : FnDat := ⟨"shared_span", d_shared_span, top 8, ["one", "other"], ["one", "other"], .no⟩
def f_joined_spans : FnDat := ⟨"joined_spans", d_joined_spans, top 9, ["spans", "span", "found", "begin", "end"], ["spans"], .gen⟩
def f_without_spans : FnDat := ⟨"without_spans", d_without_spans, top 10, ["spans", "others", "found", "begin", "end", "here", "first", "last"], ["spans", "others"], .no⟩
def f_both_spans : FnDat := ⟨"both_spans", d_both_spans, top 11, ["spans", "others", "found", "one", "other", "part"], ["spans", "others"], .no⟩
def f_all_long : FnDat := ⟨"all_long", d_all_long, top 12, ["spans", "begin", "end"], ["spans"], .gen⟩
def f_span_parts : FnDat := ⟨"span_parts", d_span_parts, top 13, ["span", "step", "begin"], ["span", "step"], .gen⟩
def f_span_days : FnDat := ⟨"span_days", d_span_days, top 14, ["span", "first", "last", "found", "day"], ["span"], .no⟩
def f_most_at_once : FnDat := ⟨"most_at_once", d_most_at_once, top 15, ["spans", "span", "rows", "best", "here", "when", "stamp", "step"], ["spans"], .no⟩
def f_columns_for : FnDat := ⟨"columns_for", d_columns_for, top 16, ["spans", "span", "found", "ends", "begin", "place", "able", "column", "end"], ["spans"], .gen⟩
def f_first_gap : FnDat := ⟨"first_gap", d_first_gap, top 17, ["spans", "begin", "end", "long", "first", "last"], ["spans", "begin", "end", "long"], .no⟩
def f_padded_span : FnDat := ⟨"padded_span", d_padded_span, top 18, ["span", "ahead", "behind"], ["span", "ahead", "behind"], .no⟩
def f_moved_span : FnDat := ⟨"moved_span", d_moved_span, top 19, ["span", "step"], ["span", "step"], .no⟩
def f_how_spans_lie : FnDat := ⟨"how_spans_lie", d_how_spans_lie, top 20, ["one", "other"], ["one", "other"], .no⟩
def f__law_dice : FnDat := ⟨"_law_dice", d__law_dice, top 22, ["cell"], ["cell"], .no⟩
def f__law_roll : FnDat := ⟨"_law_roll", d__law_roll, top 23, ["dice", "many", "found"], ["dice", "many"], .no⟩
def f__law_rounds : FnDat := ⟨"_law_rounds", d__law_rounds, top 24, ["script", "most", "cells", "cell"], ["script", "most"], .no⟩
def f__law_minutes : FnDat := ⟨"_law_minutes", d__law_minutes, top 26, ["spans", "found", "begin", "end", "minute"], ["spans"], .no⟩
def f__law_runs : FnDat := ⟨"_law_runs", d__law_runs, top 27, ["minutes", "rows", "minute"], ["minutes"], .no⟩
def f__law_spans : FnDat := ⟨"_law_spans", d__law_spans, top 28, ["dice", "many", "found", "k", "begin"], ["dice", "many"], .no⟩
def f__law_plain : FnDat := ⟨"_law_plain", d__law_plain, top 29, ["bad", "told", "due", "f", "span"], [], .lam⟩
def f_law : FnDat := ⟨"law", d_law, top 30, ["script", "dice", "one", "two", "mine", "theirs", "counts", "most", "columns", "own", "ends", "begin", "k", "able", "span", "other", "shared", "lie", "step", "long", "ahead", "behind", "gaps", "far", "days", "minute", "day", "row", "end", "j", "first", "last"], ["script"], .no⟩
def D : Dat where
  fl := [f_check_span, f_long_of, f_spans_meet, f_shared_span, f_joined_spans, f_without_spans, f_both_spans, f_all_long, f_span_parts, f_span_days, f_most_at_once, f_columns_for, f_first_gap, f_padded_span, f_moved_span, f_how_spans_lie, f__law_dice, f__law_roll, f__law_rounds, f__law_minutes, f__law_runs, f__law_spans, f__law_plain, f_law]
  cons := [("MOST_SPANS", (.int 400))]
  bis := ["abs", "dict", "enumerate", "int", "len", "list", "max", "min", "range", "sorted", "sum", "tuple"]
  excs := ["SpanError"]
  tolds := [("_law_told", "SpanError", top 25)]
  lams := [l_0, l_1, l_2, l_3, l_4, l_5, l_6, l_7, l_8, l_9, l_10, l_11, l_12, l_13, l_14, l_15, l_16, l_17, l_18]
theorem okF : D.fl.all (fnB D.T) = true := by decide +kernel
theorem okN : (D.fl.all fun d => noLamN d.name) = true := by decide +kernel
theorem b_check_span : f_check_span.Bind := fun _ _ _ _ _ _ us hl => match us, hl with | [_], _ => rfl
theorem b_long_of : f_long_of.Bind := fun _ _ _ _ _ _ us hl => match us, hl with | [_], _ => rfl
theorem b_spans_meet : f_spans_meet.Bind := fun _ _ _ _ _ _ us hl => match us, hl with | [_, _], _ => rfl
theorem b_shared_span : f_shared_span.Bind := fun _ _ _ _ _ _ us hl => match us, hl with | [_, _], _ => rfl
theorem b_joined_spans : f_joined_spans.Bind := fun _ _ _ _ _ _ us hl => match us, hl with | [_], _ => rfl
theorem b_without_spans : f_without_spans.Bind := fun _ _ _ _ _ _ us hl => match us, hl with | [_, _], _ => rfl
theorem b_both_spans : f_both_spans.Bind := fun _ _ _ _ _ _ us hl => match us, hl with | [_, _], _ => rfl
theorem b_all_long : f_all_long.Bind := fun _ _ _ _ _ _ us hl => match us, hl with | [_], _ => rfl
theorem b_span_parts : f_span_parts.Bind := fun _ _ _ _ _ _ us hl => match us, hl with | [_, _], _ => rfl
theorem b_span_days : f_span_days.Bind := fun _ _ _ _ _ _ us hl => match us, hl with | [_], _ => rfl
theorem b_most_at_once : f_most_at_once.Bind := fun _ _ _ _ _ _ us hl => match us, hl with | [_], _ => rfl
theorem b_columns_for : f_columns_for.Bind := fun _ _ _ _ _ _ us hl => match us, hl with | [_], _ => rfl
theorem b_first_gap : f_first_gap.Bind := fun _ _ _ _ _ _ us hl => match us, hl with | [_, _, _, _], _ => rfl
theorem b_padded_span : f_padded_span.Bind := fun _ _ _ _ _ _ us hl => match us, hl with | [_, _, _], _ => rfl
theorem b_moved_span : f_moved_span.Bind := fun _ _ _ _ _ _ us hl => match us, hl with | [_, _], _ => rfl
theorem b_how_spans_lie : f_how_spans_lie.Bind := fun _ _ _ _ _ _ us hl => match us, hl with | [_, _], _ => rfl
theorem b__law_dice : f__law_dice.Bind := fun _ _ _ _ _ _ us hl => match us, hl with | [_], _ => rfl
theorem b__law_roll : f__law_roll.Bind := fun _ _ _ _ _ _ us hl => match us, hl with | [_, _], _ => rfl
theorem b__law_rounds : f__law_rounds.Bind := fun _ _ _ _ _ _ us hl => match us, hl with | [_, _], _ => rfl
theorem b__law_minutes : f__law_minutes.Bind := fun _ _ _ _ _ _ us hl => match us, hl with | [_], _ => rfl
theorem b__law_runs : f__law_runs.Bind := fun _ _ _ _ _ _ us hl => match us, hl with | [_], _ => rfl
theorem b__law_spans : f__law_spans.Bind := fun _ _ _ _ _ _ us hl => match us, hl with | [_, _], _ => rfl
theorem b__law_plain : f__law_plain.Bind := fun _ _ _ _ _ _ us hl => match us, hl with | [], _ => rfl
theorem b_law : f_law.Bind := fun _ _ _ _ _ _ us hl => match us, hl with | [_], _ => rfl
theorem okB : ∀ d ∈ D.fl, d.Bind := List.forall_mem_cons.mpr ⟨b_check_span, List.forall_mem_cons.mpr ⟨b_long_of, List.forall_mem_cons.mpr ⟨b_spans_meet, List.forall_mem_cons.mpr ⟨b_shared_span, List.forall_mem_cons.mpr ⟨b_joined_spans, List.forall_mem_cons.mpr ⟨b_without_spans, List.forall_mem_cons.mpr ⟨b_both_spans, List.forall_mem_cons.mpr ⟨b_all_long, List.forall_mem_cons.mpr ⟨b_span_parts, List.forall_mem_cons.mpr ⟨b_span_days, List.forall_mem_cons.mpr ⟨b_most_at_once, List.forall_mem_cons.mpr ⟨b_columns_for, List.forall_mem_cons.mpr ⟨b_first_gap, List.forall_mem_cons.mpr ⟨b_padded_span, List.forall_mem_cons.mpr ⟨b_moved_span, List.forall_mem_cons.mpr ⟨b_how_spans_lie, List.forall_mem_cons.mpr ⟨b__law_dice, List.forall_mem_cons.mpr ⟨b__law_roll, List.forall_mem_cons.mpr ⟨b__law_rounds, List.forall_mem_cons.mpr ⟨b__law_minutes, List.forall_mem_cons.mpr ⟨b__law_runs, List.forall_mem_cons.mpr ⟨b__law_spans, List.forall_mem_cons.mpr ⟨b__law_plain, List.forall_mem_cons.mpr ⟨b_law, fun _ h => absurd h List.not_mem_nil⟩⟩⟩⟩⟩⟩⟩⟩⟩⟩⟩⟩⟩⟩⟩⟩⟩⟩⟩⟩⟩⟩⟩⟩
theorem t__law_told : Told ("_law_told", "SpanError", top 25) := ⟨"what", ["what"], _, _, _, _, _, _, _, _, _, scB_ok (by decide +kernel), rfl, .inl rfl, by decide, by decide, rfl, rfl, by decide, fun _ _ _ _ _ _ us hl => match us, hl with | [_], _ => rfl⟩
theorem okT : ∀ t ∈ D.tolds, Told t ∧ t.2.1 ∈ D.excs := List.forall_mem_cons.mpr ⟨⟨t__law_told, by decide +kernel⟩, fun _ h => absurd h List.not_mem_nil⟩
theorem okL : D.FT "law" = some d_law := by rfl
end K02

end
section
set_option Elab.async false
set_option linter.all false
set_option maxRecDepth 100000
set_option maxHeartbeats 0
namespace K02
open PySem PySem.Spec PyProof.Rows L2 Dy
abbrev R : PySem.W.OpenRow := PySem.W.OpenLaw.row PySem.Challenge.rw_diarystack_k02_spans_of_time
abbrev hk : PySem.W.Hook := D.hk 5
def ob (s : PySem.W.SharedT) : He.AlX := He.obsX 5 D.fa D.fn [] D.tf D.ex (HandSHeadRun.getT s)
theorem ob_eq (s : PySem.W.SharedT) : ob s = hk.obs s.abs := He.obsX_eq (HandSHeadRun.getT_eq s)
def loose : List PySem.Str := ([("__name__" : PySem.Str), ("DiaryFault" : PySem.Str), ("SpanError" : PySem.Str), ("MOST_SPANS" : PySem.Str), ("check_span" : PySem.Str), ("long_of" : PySem.Str), ("spans_meet" : PySem.Str), ("shared_span" : PySem.Str), ("joined_spans" : PySem.Str), ("without_spans" : PySem.Str), ("both_spans" : PySem.Str), ("all_long" : PySem.Str)] : List PySem.Str) ++ ([("span_parts" : PySem.Str), ("span_days" : PySem.Str), ("most_at_once" : PySem.Str), ("columns_for" : PySem.Str), ("first_gap" : PySem.Str), ("padded_span" : PySem.Str), ("moved_span" : PySem.Str), ("how_spans_lie" : PySem.Str), ("_law_dice" : PySem.Str), ("_law_roll" : PySem.Str), ("_law_rounds" : PySem.Str), ("_law_told" : PySem.Str)] : List PySem.Str) ++ ([("_law_minutes" : PySem.Str), ("_law_runs" : PySem.Str), ("_law_spans" : PySem.Str), ("_law_plain" : PySem.Str)] : List PySem.Str)
theorem head (w : World) : HandSHeadRun.RunEq R (PySem.W.view R.prog [30]) hk ob 4000 loose w := by
  intro os
  kernel_rfl
end K02

end
section
set_option Elab.async false
set_option linter.all false
set_option maxRecDepth 100000
set_option maxHeartbeats 0
/-! K02: the law from the plain law. -/
namespace K02
open PySem PySem.Spec PyProof.Rows L2 Dy
/-- the plain law -/
def Plain : Prop := ∀ ns : List Int, ns.length ≤ 63 → (∀ z ∈ ns, Builtin.Int.intBits z ≤ 1048576) → ∃ S', run D.FT (11 + 1) "law" [.arg ns] [] = .ok (.bl true) S'
theorem at_law (P : Plain) {w : World} {K : PySem.W.Frag} {mg : Str → Option Value} {fa : Addr} {h : Heap} (X : K.In h) (Gn : h.Ns mainGlobals mg) (hfa : mg "law" = some (.ref fa)) (c : He.SaysX D.fa D.fn [] D.tf D.ex w h K) :
    LamX.LawAtS PySem.Challenge.rw_diarystack_k02_spans_of_time w K (CX PySem.Challenge.rw_diarystack_k02_spans_of_time.prog w) (12 * (11 + 1)) 63 "script" mg fa h :=
  law_of (dl := f_law) X Gn hfa c okF okB okN okT (List.mem_iff_getElem?.mpr ⟨23, rfl⟩) rfl rfl okL P
end K02
open PySem PySem.W PySem.Calls PyProof.Rows
theorem K02.holds (P : K02.Plain) : PySem.Challenge.rw_diarystack_k02_spans_of_time.Holds := by
  w_on; o_law
  refine HandSHeadRun.head_any (r := OpenLaw.row PySem.Challenge.rw_diarystack_k02_spans_of_time) (q := view (OpenLaw.row PySem.Challenge.rw_diarystack_k02_spans_of_time).prog [30]) (H := K02.hk) (ob := K02.ob) (M := 4000) (loose := K02.loose) (d := HandSHeadRun.topDef (OpenLaw.row PySem.Challenge.rw_diarystack_k02_spans_of_time).prog 30) (kwd := []) K02.ob_eq
    (by kernel_rfl) (fun s => by kernel_rfl) K02.head (by kernel_rfl) (by kernel_rfl) (by kernel_rfl) (by rfl) (by first | assumption | decide +kernel) (by decide +kernel) ⟨rfl, rfl, rfl, rfl, rfl, by decide +kernel⟩ ?hw ?hc
  case hw => w_witness2
  case hc =>
    refine LamX.walk_ofTsE (l := PySem.Challenge.rw_diarystack_k02_spans_of_time) (n := 63) (k := 12 * (11 + 1)) (x := "script") (CX := fun w => L2.CX PySem.Challenge.rw_diarystack_k02_spans_of_time.prog w) rfl (by decide) (by kernel_rfl) ⟨rfl, by decide, by decide⟩ ?F (fun w H s e s' z => by obtain ⟨_, _, _, _, _, _, _, _, _, _, _, _, z⟩ := z; exact z)
    intro w mg fa h Y G hmg0
    obtain ⟨K, KX, c⟩ := Y
    have hmg : mg ("law" : PySem.Str) = some (.ref fa) := by
      have e : (HandSHeadRun.topDef (OpenLaw.row PySem.Challenge.rw_diarystack_k02_spans_of_time).prog 30).name = ("law" : PySem.Str) := by kernel_rfl
      rw [← e]
      exact hmg0
    exact ⟨K, KX, K02.at_law P KX G hmg c⟩

end
section
set_option Elab.async false
set_option linter.all false
set_option maxRecDepth 100000
set_option maxHeartbeats 0
namespace K02
open PySem Dy L2
open Enc (enc)
/-- the store while the law runs: the dice -/
def dT (p : Int × Int × Int) (T : Sto) : Sto := .lst [.int p.1, .int p.2.1, .int p.2.2] :: T
abbrev dS (p : Int × Int × Int) : Sto := dT p []
def isT : Res → Bool
  | .ok (.bl true) _ => true
  | _ => false
theorem isT_ok {r : Res} (h : isT r = true) : ∃ S, r = .ok (.bl true) S := by
  unfold isT at h
  split at h
  · exact ⟨_, rfl⟩
  · cases h
theorem plain_T (p : Int × Int × Int) : isT (run D.FT 11 "_law_plain" [] (dS p)) = true := by kernel_rfl
theorem plain_ok (p : Int × Int × Int) : ∃ S, run D.FT 11 "_law_plain" [] (dS p) = .ok (.bl true) S := isT_ok (plain_T p)
end K02

end
section
set_option Elab.async false
set_option linter.all false
set_option maxRecDepth 100000
set_option maxHeartbeats 400000
namespace K02
open PySem Dy L2
open Enc (enc)
abbrev Sp := Int × Int
/-- spans that are spans -/
def Oks (l : List Sp) : Prop := ∀ p ∈ l, p.1 < p.2
theorem ft_check : D.FT "check_span" = some d_check_span := by rfl
theorem r_check (k : Nat) (S : Sto) (p : Sp) (h : p.1 < p.2) : run D.FT (k + 1) "check_span" [enc p] S = .ok .non S := by
  rw [run_at' ft_check rfl rfl]
  have h2 : ¬ p.2 ≤ p.1 := by omega
  simp [d_check_span, enc_sp, startW, orK_b, h2]
/-! ### joined -/
def jstep (found : List Sp) (p : Sp) : List Sp := match found.getLast? with
  | some q => if p.1 ≤ q.2 then found.dropLast ++ [(q.1, max q.2 p.2)] else found ++ [p]
  | none => [p]
def joined (l : List Sp) : List Sp := (isortA EncOrd.lt l).foldl jstep []
theorem jstep_len (f : List Sp) (p : Sp) : (jstep f p).length ≤ f.length + 1 := by
  unfold jstep
  cases h : f.getLast? with
  | none => simp
  | some q =>
    simp only []
    split <;> simp
theorem fold_len (f : List Sp → Sp → List Sp) (hf : ∀ a p, (f a p).length ≤ a.length + 1) : ∀ (l a : List Sp), (l.foldl f a).length ≤ a.length + l.length
  | [], a => by simp
  | x :: l, a => by
    have h1 := fold_len f hf l (f a x)
    have h2 := hf a x
    simp only [List.foldl_cons, List.length_cons]
    omega
theorem ft_joined : D.FT "joined_spans" = some d_joined_spans := by rfl
/-- the checks ahead of a def's work -/
theorem checks (k : Nat) (S : Sto) {σ : Sl} {w : Wv} {l : List Sp} (hw : itW w = some (l.map enc)) (ok : Oks l) {i j : Nat} (hij : i ≠ j) (hj : j < σ.length) (hi : σ[i]? = some (some w)) :
    ∃ o, ex (run D.FT (k + 1)) (.forr (.nm j) (.var i) (.seq (.expr (.call "check_span" (.cons (.var j) .nil))) .nil)) σ S = .nx (σ.set j o) S := by
  obtain ⟨σ', S', a, r⟩ := for_pre (cl := run D.FT (k + 1)) (g := .nm j) (e := .var i) (b := .seq (.expr (.call "check_span" (.cons (.var j) .nil))) .nil) (σ := σ) (S := S) (S1 := S) (w := w) enc l (fun _ σ' S' => (∃ o, σ' = σ.set j o) ∧ S' = S) (ev_v hi) hw
    ⟨⟨σ[j], (List.set_getElem_self hj).symm⟩, rfl⟩ fun pre x rest σ1 S1 e r => by
    obtain ⟨⟨o, rfl⟩, rfl⟩ := r
    have hc := r_check k S1 x (ok x (by rw [e]; simp))
    refine ⟨_, σ.set j (some (enc x)), S1, rfl, .inl ?_, ⟨⟨_, rfl⟩, rfl⟩⟩
    simp [hj, hc]
  obtain ⟨⟨o, rfl⟩, rfl⟩ := r
  exact ⟨o, a⟩
theorem sortW_sp (l : List Sp) (S : Sto) : sortW (l.map enc) S = .ok (.lst ((isortA EncOrd.lt l).map enc)) S := sort_enc l S (by decide)
theorem flat_enc {α : Type} (l : List α) (f : α → Wv) : (l.flatMap fun a => [f a]) = l.map f := flat_one l f
theorem r_joined (k : Nat) (S : Sto) {w : Wv} {l : List Sp} (hw : itW w = some (l.map enc)) (ok : Oks l) (hz : l.length ≤ 10000) : run D.FT (k + 2) "joined_spans" [w] S = .ok (.tup ((joined l).map enc)) S := by
  rw [run_cut' ft_joined rfl rfl]
  have z := sizeLine_eq
  obtain ⟨o, c1⟩ := checks k S (σ := [some w, none, none, none, none]) (w := w) (i := 0) (j := 1) hw ok (by decide) (by simp) rfl
  simp only [List.set] at c1
  have hs : ev (run D.FT (k + 1)) (.gn .srt (.nm 1) (.var 0) (.lit (.bl true)) (.tup (.cons (.idx (.var 1) (.lit (.int 0))) (.cons (.idx (.var 1) (.lit (.int 1))) .nil))) [("span", 1)]) [some w, o, some (.ref S.length), none, none] (S ++ [.lst []]) = .ok (.lst ((isortA EncOrd.lt l).map enc)) (S ++ [.lst []]) := by
    rw [gn_map .srt enc l (w := w) (S1 := S ++ [.lst []]) rfl hw (fun p : Sp => [enc p]) fun p hp => ?_]
    · simp only []
      rw [flat_enc, sortW_sp]
    · simp [lcF, wipeW, enc_sp, sizeLine_eq]
  have hl : (isortA EncOrd.lt l).length = l.length := (sort_perm l).length_eq
  obtain ⟨σ', S', c2, r⟩ := for_pre (cl := run D.FT (k + 1)) (g := .tup (.cons (.nm 3) (.cons (.nm 4) .nil))) (e := .gn .srt (.nm 1) (.var 0) (.lit (.bl true)) (.tup (.cons (.idx (.var 1) (.lit (.int 0))) (.cons (.idx (.var 1) (.lit (.int 1))) .nil))) [("span", 1)])
    (b := .seq (.ifs (.and (.cmp .ne (.var 2) (.lst .nil)) (.cmp .le (.var 3) (.idx (.idx (.var 2) (.neg (.lit (.int 1)))) (.lit (.int 1)))))
    (.seq (.setIx (.var 2) (.neg (.lit (.int 1))) (.tup (.cons (.idx (.idx (.var 2) (.neg (.lit (.int 1)))) (.lit (.int 0))) (.cons (.bi .max2 (.cons (.idx (.idx (.var 2) (.neg (.lit (.int 1)))) (.lit (.int 1))) (.cons (.var 4) .nil))) .nil))))
    .nil)
    (.seq (.expr (.mt .app (.var 2) (.cons (.tup (.cons (.var 3) (.cons (.var 4) .nil))) .nil)))
    .nil))
    .nil) (σ := [some w, o, some (.ref S.length), none, none]) (S := S ++ [.lst []]) enc (isortA EncOrd.lt l)
    (fun pre σ' S' => (∃ o3 o4, σ' = [some w, o, some (.ref S.length), o3, o4]) ∧ S' = S ++ [.lst ((pre.foldl jstep []).map enc)]) hs (itW_lst (by rw [List.length_map, hl]; omega)) ⟨⟨none, none, rfl⟩, rfl⟩ fun pre p rest σ1 S1 e r => by
    obtain ⟨⟨o3, o4, rfl⟩, rfl⟩ := r
    have hlen : (pre.foldl jstep []).length ≤ 10000 := by
      have h1 := fold_len jstep jstep_len pre []
      have h2 := congrArg List.length e
      simp only [List.length_append, List.length_cons, hl, List.length_nil] at h1 h2
      omega
    refine ⟨[some w, o, some (.ref S.length), some (.int p.1), some (.int p.2)], [some w, o, some (.ref S.length), some (.int p.1), some (.int p.2)], _, rfl, .inl ?_, ⟨⟨_, _, rfl⟩, rfl⟩⟩
    rw [List.foldl_append]
    show _ = SR.nx _ (S ++ [SO.lst ((jstep (pre.foldl jstep []) p).map enc)])
    generalize pre.foldl jstep [] = F at hlen ⊢
    have hrd : ∀ ws, rd (S ++ [.lst ws]) (.ref S.length) = .lst ws := rd_end S
    have hne : ∀ T, rd T (.lst []) = .lst [] := fun _ => rfl
    cases hL : F.getLast? with
    | none =>
      have hF : F = [] := List.getLast?_eq_none_iff.mp hL
      subst hF
      have ap := app_end S [] (.tup [.int p.1, .int p.2]) (by simp)
      have im := isMt_end S []
      simp [hrd, andK_b, sizeLine_eq, im, ap, jstep, enc_sp]
    | some q =>
      have hF : F ≠ [] := fun z => by subst z; cases hL
      have hF2 : F.map enc ≠ [] := fun z => hF (List.map_eq_nil_iff.mp z)
      have e0 := eq_lst0 F
      rw [decide_eq_false hF] at e0
      have eL : atI (F.map enc) (-1) = some (enc q) := by rw [atI_lastW, getLast_enc, hL]; rfl
      have ix : idxW (.ref S.length) (.int (-1)) (S ++ [.lst (F.map enc)]) = .ok (enc q) (S ++ [.lst (F.map enc)]) := by rw [w_idxR (hrd _), eL]
      by_cases hc : p.1 ≤ q.2
      · have sl := setLast_end S (F.map enc) (.tup [.int q.1, .int (max q.2 p.2)]) hF2
        rw [enc_sp] at ix
        have hj : jstep F p = F.dropLast ++ [(q.1, max q.2 p.2)] := by unfold jstep; rw [hL]; simp only [if_pos hc]
        simp [hrd, e0, andK_b, sizeLine_eq, ix, sl, hc, hj, enc_sp]
      · have ap := app_end S (F.map enc) (.tup [.int p.1, .int p.2]) (by rw [List.length_map]; omega)
        have im := isMt_end S (F.map enc)
        rw [enc_sp] at ix
        have hj : jstep F p = F ++ [p] := by unfold jstep; rw [hL]; simp only [if_neg hc]
        simp [hrd, e0, andK_b, sizeLine_eq, ix, im, ap, hc, hj, enc_sp]
  obtain ⟨⟨o3, o4, rfl⟩, rfl⟩ := r
  have hb : biW .tup1 [.ref S.length] (S ++ [.lst ((joined l).map enc)]) = .ok (.tup ((joined l).map enc)) (S ++ [.lst ((joined l).map enc)]) := by
    show (match rd (S ++ [SO.lst ((joined l).map enc)]) (.ref S.length) with | .lst xs => Res.ok (.tup xs) _ | .tup xs => .ok (.tup xs) _ | _ => .bad) = _
    rw [rd_end]
  have c2 : _ = SR.nx _ (S ++ [SO.lst ((joined l).map enc)]) := c2
  have hbody : leave (ex (run D.FT (k + 1)) d_joined_spans.body (startW d_joined_spans.ns [w]) S) = .ok (.tup ((joined l).map enc)) (S ++ [.lst ((joined l).map enc)]) := by
    simp [d_joined_spans, startW, c1, sizeLine_eq, c2, hb]
  rw [hbody]
  exact cut_row (joined l) S _
end K02

end
section
set_option Elab.async false
set_option linter.all false
set_option maxRecDepth 100000
set_option maxHeartbeats 400000
namespace K02
open PySem Dy L2
open Enc (enc)
theorem joined_len (l : List Sp) : (joined l).length ≤ l.length := by
  have h1 := fold_len jstep jstep_len (isortA EncOrd.lt l) []
  have h2 := (sort_perm l).length_eq
  unfold joined
  simp only [List.length_nil] at h1
  omega
/-! ### without -/
def wstep (e : Int) (st : List Sp × Int) (p : Sp) : List Sp × Int := if p.1 < e ∧ p.2 > st.2 then (if p.1 > st.2 then st.1 ++ [(st.2, p.1)] else st.1, max st.2 p.2) else st
def wfold (B : List Sp) (found : List Sp) (p : Sp) : List Sp :=
  if (B.foldl (wstep p.2) (found, p.1)).2 < p.2 then (B.foldl (wstep p.2) (found, p.1)).1 ++ [((B.foldl (wstep p.2) (found, p.1)).2, p.2)] else (B.foldl (wstep p.2) (found, p.1)).1
def without (A B : List Sp) : List Sp := (joined A).foldl (wfold (joined B)) []
theorem wstep_len (e : Int) (st : List Sp × Int) (p : Sp) : (wstep e st p).1.length ≤ st.1.length + 1 := by
  unfold wstep
  split
  · simp only []
    split <;> simp
  · simp
theorem wfold_len1 (e : Int) : ∀ (B : List Sp) (st : List Sp × Int), (B.foldl (wstep e) st).1.length ≤ st.1.length + B.length
  | [], st => by simp
  | p :: B, st => by
    have h1 := wfold_len1 e B (wstep e st p)
    have h2 := wstep_len e st p
    simp only [List.foldl_cons, List.length_cons]
    omega
theorem wfold_len (B : List Sp) (f : List Sp) (p : Sp) : (wfold B f p).length ≤ f.length + (B.length + 1) := by
  have h := wfold_len1 p.2 B (f, p.1)
  unfold wfold
  split
  · simp only [List.length_append, List.length_cons, List.length_nil]
    simp only [] at h
    omega
  · simp only [] at h
    omega
theorem wfolds_len (B : List Sp) : ∀ (A f : List Sp), (A.foldl (wfold B) f).length ≤ f.length + A.length * (B.length + 1)
  | [], f => by simp
  | p :: A, f => by
    have h1 := wfolds_len B A (wfold B f p)
    have h2 := wfold_len B f p
    simp only [List.foldl_cons, List.length_cons]
    rw [Nat.succ_mul]
    omega
theorem ft_without : D.FT "without_spans" = some d_without_spans := by rfl
theorem without_inner (k : Nat) (S : Sto) {wA wB : Wv} {B : List Sp} (hB : itW wB = some (B.map enc)) (okB : Oks B) (hz : B.length ≤ 1000) (b e : Int) (found : List Sp) (hf : found.length ≤ 1000000) (o6 o7 : Option Wv) :
    ∃ o6' o7', ex (run D.FT (k + 2)) (.forr (.tup (.cons (.nm 6) (.cons (.nm 7) .nil))) (.call "joined_spans" (.cons (.var 1) .nil))
    (.seq (.ifs (.and (.cmp .lt (.var 6) (.var 4)) (.cmp .gt (.var 7) (.var 5)))
    (.seq (.aug 2 .add (.ite (.cmp .gt (.var 6) (.var 5)) (.lst (.cons (.tup (.cons (.var 5) (.cons (.var 6) .nil))) .nil)) (.lst .nil)))
    (.seq (.set (.nm 5) (.bi .max2 (.cons (.var 5) (.cons (.var 7) .nil))))
    .nil))
    .nil)
    .nil)) [some wA, some wB, some (.ref S.length), some (.int b), some (.int e), some (.int b), o6, o7] (S ++ [.lst (found.map enc)]) =
      .nx [some wA, some wB, some (.ref S.length), some (.int b), some (.int e), some (.int ((joined B).foldl (wstep e) (found, b)).2), o6', o7'] (S ++ [.lst (((joined B).foldl (wstep e) (found, b)).1.map enc)]) := by
  have z := sizeLine_eq
  have hj := joined_len B
  have rj := r_joined k (S ++ [.lst (found.map enc)]) hB okB (by omega)
  obtain ⟨σ', S', c, r⟩ := for_pre (cl := run D.FT (k + 2)) (g := .tup (.cons (.nm 6) (.cons (.nm 7) .nil))) (e := .call "joined_spans" (.cons (.var 1) .nil)) (b := .seq (.ifs (.and (.cmp .lt (.var 6) (.var 4)) (.cmp .gt (.var 7) (.var 5)))
    (.seq (.aug 2 .add (.ite (.cmp .gt (.var 6) (.var 5)) (.lst (.cons (.tup (.cons (.var 5) (.cons (.var 6) .nil))) .nil)) (.lst .nil)))
    (.seq (.set (.nm 5) (.bi .max2 (.cons (.var 5) (.cons (.var 7) .nil))))
    .nil))
    .nil)
    .nil) (σ := [some wA, some wB, some (.ref S.length), some (.int b), some (.int e), some (.int b), o6, o7]) (S := S ++ [.lst (found.map enc)]) (S1 := S ++ [.lst (found.map enc)]) (w := .tup ((joined B).map enc)) enc (joined B)
    (fun pre σ' S' => (∃ o6 o7, σ' = [some wA, some wB, some (.ref S.length), some (.int b), some (.int e), some (.int (pre.foldl (wstep e) (found, b)).2), o6, o7]) ∧ S' = S ++ [.lst ((pre.foldl (wstep e) (found, b)).1.map enc)])
    (by simp [rj]) (itW_tup (by rw [List.length_map]; omega)) ⟨⟨_, _, rfl⟩, rfl⟩ fun pre p rest σ1 S1 ee r => by
      obtain ⟨⟨o3, o4, rfl⟩, rfl⟩ := r
      have hlen : (pre.foldl (wstep e) (found, b)).1.length ≤ 1001000 := by
        have h1 := wfold_len1 e pre (found, b)
        have h2 := congrArg List.length ee
        simp only [List.length_append, List.length_cons] at h1 h2
        omega
      refine ⟨[some wA, some wB, some (.ref S.length), some (.int b), some (.int e), some (.int (pre.foldl (wstep e) (found, b)).2), some (.int p.1), some (.int p.2)], [some wA, some wB, some (.ref S.length), some (.int b), some (.int e), some (.int ((pre ++ [p]).foldl (wstep e) (found, b)).2), some (.int p.1), some (.int p.2)], _, rfl, .inl ?_, ⟨⟨_, _, rfl⟩, rfl⟩⟩
      rw [List.foldl_append]
      show _ = SR.nx [some wA, some wB, some (.ref S.length), some (.int b), some (.int e), some (.int (wstep e (pre.foldl (wstep e) (found, b)) p).2), some (.int p.1), some (.int p.2)] (S ++ [SO.lst ((wstep e (pre.foldl (wstep e) (found, b)) p).1.map enc)])
      generalize pre.foldl (wstep e) (found, b) = st at hlen ⊢
      obtain ⟨F, here⟩ := st
      simp only [] at hlen
      have x0 := ext_end S (F.map enc) [] (by simp; omega)
      have x1 := ext_end S (F.map enc) [.tup [.int here, .int p.1]] (by simp; omega)
      rw [List.append_nil] at x0
      unfold wstep
      by_cases h1 : p.1 < e <;> by_cases h2 : here < p.2 <;> by_cases h3 : here < p.1 <;> simp [h1, h2, h3, andK_b, sizeLine_eq, x0, x1, enc_sp]
  obtain ⟨⟨o6', o7', rfl⟩, rfl⟩ := r
  exact ⟨o6', o7', c⟩
theorem r_without (k : Nat) (S : Sto) {wA wB : Wv} {A B : List Sp} (hA : itW wA = some (A.map enc)) (okA : Oks A) (hzA : A.length ≤ 900) (hB : itW wB = some (B.map enc)) (okB : Oks B) (hz : B.length ≤ 900) :
    run D.FT (k + 3) "without_spans" [wA, wB] S = .ok (.tup ((without A B).map enc)) S := by
  rw [run_cut' ft_without rfl rfl]
  have z := sizeLine_eq
  have hjA := joined_len A
  have hjB := joined_len B
  have rj := r_joined k (S ++ [.lst []]) hA okA (by omega)
  obtain ⟨σ', S', c, r⟩ := for_pre (cl := run D.FT (k + 2)) (g := .tup (.cons (.nm 3) (.cons (.nm 4) .nil))) (e := .call "joined_spans" (.cons (.var 0) .nil)) (b := .seq (.set (.nm 5) (.var 3))
    (.seq (.forr (.tup (.cons (.nm 6) (.cons (.nm 7) .nil))) (.call "joined_spans" (.cons (.var 1) .nil))
    (.seq (.ifs (.and (.cmp .lt (.var 6) (.var 4)) (.cmp .gt (.var 7) (.var 5)))
    (.seq (.aug 2 .add (.ite (.cmp .gt (.var 6) (.var 5)) (.lst (.cons (.tup (.cons (.var 5) (.cons (.var 6) .nil))) .nil)) (.lst .nil)))
    (.seq (.set (.nm 5) (.bi .max2 (.cons (.var 5) (.cons (.var 7) .nil))))
    .nil))
    .nil)
    .nil))
    (.seq (.aug 2 .add (.ite (.cmp .lt (.var 5) (.var 4)) (.lst (.cons (.tup (.cons (.var 5) (.cons (.var 4) .nil))) .nil)) (.lst .nil)))
    .nil))) (σ := [some wA, some wB, some (.ref S.length), none, none, none, none, none]) (S := S ++ [.lst []]) (S1 := S ++ [.lst []]) (w := .tup ((joined A).map enc)) enc (joined A)
    (fun pre σ' S' => (∃ o3 o4 o5 o6 o7, σ' = [some wA, some wB, some (.ref S.length), o3, o4, o5, o6, o7]) ∧ S' = S ++ [.lst ((pre.foldl (wfold (joined B)) []).map enc)])
    (by simp [rj]) (itW_tup (by rw [List.length_map]; omega)) ⟨⟨_, _, _, _, _, rfl⟩, rfl⟩ fun pre p rest σ1 S1 ee r => by
      obtain ⟨⟨o3, o4, o5, o6, o7, rfl⟩, rfl⟩ := r
      have hlen : (pre.foldl (wfold (joined B)) []).length ≤ 900 * 901 := by
        have h1 := wfolds_len (joined B) pre []
        have h2 := congrArg List.length ee
        simp only [List.length_append, List.length_cons, List.length_nil] at h1 h2
        have h3 : pre.length * ((joined B).length + 1) ≤ 900 * 901 := Nat.mul_le_mul (by omega) (by omega)
        omega
      obtain ⟨o6', o7', ci⟩ := without_inner k S (wA := wA) hB okB (by omega) p.1 p.2 (pre.foldl (wfold (joined B)) []) (by omega) o6 o7
      have hl2 := wfold_len1 p.2 (joined B) (pre.foldl (wfold (joined B)) [], p.1)
      simp only [] at hl2
      refine ⟨[some wA, some wB, some (.ref S.length), some (.int p.1), some (.int p.2), o5, o6, o7], [some wA, some wB, some (.ref S.length), some (.int p.1), some (.int p.2), some (.int ((joined B).foldl (wstep p.2) (pre.foldl (wfold (joined B)) [], p.1)).2), o6', o7'], _, rfl, .inl ?_, ⟨⟨_, _, _, _, _, rfl⟩, rfl⟩⟩
      rw [List.foldl_append]
      show _ = SR.nx _ (S ++ [SO.lst ((wfold (joined B) (pre.foldl (wfold (joined B)) []) p).map enc)])
      generalize pre.foldl (wfold (joined B)) [] = F at hlen hl2 ci ⊢
      unfold wfold
      generalize (joined B).foldl (wstep p.2) (F, p.1) = st at hl2 ci ⊢
      obtain ⟨F2, here⟩ := st
      simp only [] at hl2 ci ⊢
      have x0 := ext_end S (F2.map enc) [] (by simp; omega)
      have x1 := ext_end S (F2.map enc) [.tup [.int here, .int p.2]] (by simp; omega)
      rw [List.append_nil] at x0
      by_cases h : here < p.2 <;> simp [ci, h, sizeLine_eq, x0, x1, enc_sp]
  obtain ⟨⟨o3, o4, o5, o6, o7, rfl⟩, rfl⟩ := r
  have hb : biW .tup1 [.ref S.length] (S ++ [.lst ((without A B).map enc)]) = .ok (.tup ((without A B).map enc)) (S ++ [.lst ((without A B).map enc)]) := w_tup1R (rd_end S _)
  have c : _ = SR.nx _ (S ++ [SO.lst ((without A B).map enc)]) := c
  have hbody : leave (ex (run D.FT (k + 2)) d_without_spans.body (startW d_without_spans.ns [wA, wB]) S) = .ok (.tup ((without A B).map enc)) (S ++ [.lst ((without A B).map enc)]) := by
    simp [d_without_spans, startW, sizeLine_eq, c, hb]
  rw [hbody]
  exact cut_row (without A B) S _
end K02

end
section
set_option Elab.async false
set_option linter.all false
set_option maxRecDepth 100000
set_option maxHeartbeats 400000
namespace K02
open PySem Dy L2
open Enc (enc)
/-! ### small defs -/
theorem ft_long : D.FT "long_of" = some d_long_of := by rfl
theorem ft_meet : D.FT "spans_meet" = some d_spans_meet := by rfl
theorem ft_shared : D.FT "shared_span" = some d_shared_span := by rfl
theorem ft_padded : D.FT "padded_span" = some d_padded_span := by rfl
theorem ft_moved : D.FT "moved_span" = some d_moved_span := by rfl
theorem ft_lie : D.FT "how_spans_lie" = some d_how_spans_lie := by rfl
theorem r_long (k : Nat) (S : Sto) (p : Sp) (h : p.1 < p.2) : run D.FT (k + 2) "long_of" [enc p] S = .ok (.int (p.2 - p.1)) S := by
  rw [run_at' ft_long rfl rfl]
  have c := r_check k S p h
  rw [enc_sp] at c
  simp [d_long_of, enc_sp, startW, c]
theorem r_meet (k : Nat) (S : Sto) (p q : Sp) (h : p.1 < p.2) (h2 : q.1 < q.2) : run D.FT (k + 2) "spans_meet" [enc p, enc q] S = .ok (.bl (decide (p.1 < q.2) && decide (q.1 < p.2))) S := by
  rw [run_at' ft_meet rfl rfl]
  have c := r_check k S p h
  have c2 := r_check k S q h2
  rw [enc_sp] at c c2
  simp [d_spans_meet, enc_sp, startW, c, c2]
def shareW (p q : Sp) : Wv := if p.1 < q.2 ∧ q.1 < p.2 then enc ((max p.1 q.1, min p.2 q.2) : Sp) else .non
theorem r_shared (k : Nat) (S : Sto) (p q : Sp) (h : p.1 < p.2) (h2 : q.1 < q.2) : run D.FT (k + 3) "shared_span" [enc p, enc q] S = .ok (shareW p q) S := by
  rw [run_at' ft_shared rfl rfl]
  have c := r_meet k S p q h h2
  rw [enc_sp, enc_sp] at c
  unfold shareW
  by_cases h3 : p.1 < q.2 <;> by_cases h4 : q.1 < p.2 <;> simp [d_shared_span, enc_sp, startW, c, h3, h4, sizeLine_eq]
theorem r_padded (k : Nat) (S : Sto) (p : Sp) (a b : Int) (h : p.1 < p.2) (ha : 0 ≤ a) (hb : 0 ≤ b) : run D.FT (k + 2) "padded_span" [enc p, .int a, .int b] S = .ok (enc ((p.1 - a, p.2 + b) : Sp)) S := by
  rw [run_at' ft_padded rfl rfl]
  have c := r_check k S p h
  rw [enc_sp] at c
  have h3 : ¬ min a b < 0 := by omega
  simp only [enc_sp]
  simp [d_padded_span, startW, c, h3, sizeLine_eq]
theorem r_moved (k : Nat) (S : Sto) (p : Sp) (a : Int) (h : p.1 < p.2) : run D.FT (k + 2) "moved_span" [enc p, .int a] S = .ok (enc ((p.1 + a, p.2 + a) : Sp)) S := by
  rw [run_at' ft_moved rfl rfl]
  have c := r_check k S p h
  simp only [enc_sp] at c ⊢
  simp [d_moved_span, startW, c, sizeLine_eq]
def lieS (p q : Sp) : Str := if p = q then "same" else if p.2 < q.1 then "before" else if p.1 > q.2 then "behind" else if p.2 = q.1 ∨ p.1 = q.2 then "touches" else if p.1 ≤ q.1 ∧ p.2 ≥ q.2 then "holds" else if p.1 ≥ q.1 ∧ p.2 ≤ q.2 then "within" else "meets"
theorem r_lie (k : Nat) (S : Sto) (p q : Sp) (h : p.1 < p.2) (h2 : q.1 < q.2) : run D.FT (k + 2) "how_spans_lie" [enc p, enc q] S = .ok (.str (lieS p q)) S := by
  rw [run_at' ft_lie rfl rfl]
  have c := r_check k S p h
  have c2 := r_check k S q h2
  have e := eq_enc p q (by decide)
  simp only [enc_sp] at c c2 e ⊢
  unfold lieS
  by_cases e1 : p = q
  · simp [d_how_spans_lie, startW, c, c2, e, e1]
    subst e1
    simp [c, e]
  · by_cases e2 : p.2 < q.1
    · simp [d_how_spans_lie, startW, c, c2, e, e1, e2]
    · by_cases e3 : p.1 > q.2
      · simp [d_how_spans_lie, startW, c, c2, e, e1, e2, e3]
      · by_cases e4 : p.2 = q.1
        · have d4 : decide (p.2 = q.1) = true := decide_eq_true e4
          have h5 : ¬ q.2 < p.1 := e3
          have e4' : p.2 = q.1 ∨ p.1 = q.2 := .inl e4
          rw [if_neg e1, if_neg e2, if_neg e3, if_pos e4']
          simp only [d_how_spans_lie, startW]
          simp [c, c2, e, e1, e2, h5, d4, orK_b]
        · by_cases e5 : p.1 = q.2
          · have d5 : decide (p.1 = q.2) = true := decide_eq_true e5
            have h5 : ¬ q.2 < p.1 := e3
            have e4' : p.2 = q.1 ∨ p.1 = q.2 := .inr e5
            rw [if_neg e1, if_neg e2, if_neg e3, if_pos e4']
            simp only [d_how_spans_lie, startW]
            simp [c, c2, e, e1, e2, h5, e4, d5, orK_b]
          · have h5 : ¬ q.2 < p.1 := e3
            by_cases e6 : p.1 ≤ q.1 <;> by_cases e7 : q.2 ≤ p.2 <;> by_cases e8 : q.1 ≤ p.1 <;> by_cases e9 : p.2 ≤ q.2 <;> simp [d_how_spans_lie, startW, c, c2, e, e1, e2, h5, e4, e5, e6, e7, e8, e9]
/-! ### both -/
def bstep (one : Sp) (found : List Sp) (q : Sp) : List Sp := found ++ (if one.1 < q.2 ∧ q.1 < one.2 then [(max one.1 q.1, min one.2 q.2)] else [])
def both (A B : List Sp) : List Sp := (joined A).foldl (fun found one => (joined B).foldl (bstep one) found) []
theorem bstep_len (one : Sp) (f : List Sp) (q : Sp) : (bstep one f q).length ≤ f.length + 1 := by
  unfold bstep
  split <;> simp
theorem bfolds_len (B : List Sp) : ∀ (A f : List Sp), (A.foldl (fun found one => B.foldl (bstep one) found) f).length ≤ f.length + A.length * B.length
  | [], f => by simp
  | p :: A, f => by
    have h1 := bfolds_len B A (B.foldl (bstep p) f)
    have h2 := fold_len (bstep p) (bstep_len p) B f
    simp only [List.foldl_cons, List.length_cons]
    rw [Nat.succ_mul]
    omega
end K02

end
section
set_option Elab.async false
set_option linter.all false
set_option maxRecDepth 100000
set_option maxHeartbeats 400000
namespace K02
open PySem Dy L2
open Enc (enc)
theorem jstep_ok {f : List Sp} {p : Sp} (hf : Oks f) (hp : p.1 < p.2) : Oks (jstep f p) := by
  unfold jstep
  cases h : f.getLast? with
  | none => intro q hq; simp at hq; subst hq; exact hp
  | some q =>
    have hq : q ∈ f := List.mem_of_getLast? h
    simp only []
    split
    · intro r hr
      rcases List.mem_append.mp hr with hr | hr
      · exact hf r ((List.dropLast_sublist f).subset hr)
      · simp at hr
        subst hr
        have := hf q hq
        show q.1 < max q.2 p.2
        omega
    · intro r hr
      rcases List.mem_append.mp hr with hr | hr
      · exact hf r hr
      · simp at hr; subst hr; exact hp
theorem jfold_ok : ∀ (l f : List Sp), Oks f → Oks l → Oks (l.foldl jstep f)
  | [], f, hf, _ => hf
  | p :: l, f, hf, hl => jfold_ok l _ (jstep_ok hf (hl p List.mem_cons_self)) fun q hq => hl q (List.mem_cons_of_mem _ hq)
theorem joined_ok {l : List Sp} (h : Oks l) : Oks (joined l) := jfold_ok _ [] (fun _ hq => absurd hq (by simp)) fun p hp => h p ((sort_perm l).mem_iff.mp hp)
theorem ft_both : D.FT "both_spans" = some d_both_spans := by rfl
theorem both_inner (k : Nat) (S : Sto) {wA wB : Wv} {B : List Sp} (hB : itW wB = some (B.map enc)) (okB : Oks B) (hz : B.length ≤ 1000) (one : Sp) (h1 : one.1 < one.2) (found : List Sp) (hf : found.length ≤ 1000000) (o4 o5 : Option Wv) :
    ∃ o4' o5', ex (run D.FT (k + 3)) (.forr (.nm 4) (.call "joined_spans" (.cons (.var 1) .nil))
    (.seq (.set (.nm 5) (.call "shared_span" (.cons (.var 3) (.cons (.var 4) .nil))))
    (.seq (.aug 2 .add (.ite (.notN (.var 5)) (.lst (.cons (.var 5) .nil)) (.lst .nil)))
    .nil))) [some wA, some wB, some (.ref S.length), some (enc one), o4, o5] (S ++ [.lst (found.map enc)]) =
      .nx [some wA, some wB, some (.ref S.length), some (enc one), o4', o5'] (S ++ [.lst (((joined B).foldl (bstep one) found).map enc)]) := by
  have z := sizeLine_eq
  have hj := joined_len B
  have rj := r_joined (k + 1) (S ++ [.lst (found.map enc)]) hB okB (by omega)
  have rj : run D.FT (k + 3) "joined_spans" [wB] (S ++ [.lst (found.map enc)]) = _ := rj
  obtain ⟨σ', S', c, r⟩ := for_pre (cl := run D.FT (k + 3)) (g := .nm 4) (e := .call "joined_spans" (.cons (.var 1) .nil)) (b := .seq (.set (.nm 5) (.call "shared_span" (.cons (.var 3) (.cons (.var 4) .nil))))
    (.seq (.aug 2 .add (.ite (.notN (.var 5)) (.lst (.cons (.var 5) .nil)) (.lst .nil)))
    .nil)) (σ := [some wA, some wB, some (.ref S.length), some (enc one), o4, o5]) (S := S ++ [.lst (found.map enc)]) (S1 := S ++ [.lst (found.map enc)]) (w := .tup ((joined B).map enc)) enc (joined B)
    (fun pre σ' S' => (∃ o4 o5, σ' = [some wA, some wB, some (.ref S.length), some (enc one), o4, o5]) ∧ S' = S ++ [.lst ((pre.foldl (bstep one) found).map enc)])
    (by simp [rj]) (itW_tup (by rw [List.length_map]; omega)) ⟨⟨_, _, rfl⟩, rfl⟩ fun pre p rest σ1 S1 ee r => by
      obtain ⟨⟨o3, o4, rfl⟩, rfl⟩ := r
      have hlen : (pre.foldl (bstep one) found).length ≤ 1001000 := by
        have h1 := fold_len (bstep one) (bstep_len one) pre found
        have h2 := congrArg List.length ee
        simp only [List.length_append, List.length_cons] at h1 h2
        omega
      have hp : p.1 < p.2 := joined_ok okB p (by rw [ee]; simp)
      have sh := r_shared k (S ++ [.lst ((pre.foldl (bstep one) found).map enc)]) one p h1 hp
      refine ⟨[some wA, some wB, some (.ref S.length), some (enc one), some (enc p), o4], [some wA, some wB, some (.ref S.length), some (enc one), some (enc p), some (shareW one p)], _, rfl, .inl ?_, ⟨⟨_, _, rfl⟩, rfl⟩⟩
      rw [List.foldl_append]
      show _ = SR.nx _ (S ++ [SO.lst ((bstep one (pre.foldl (bstep one) found) p).map enc)])
      generalize pre.foldl (bstep one) found = F at hlen sh ⊢
      have x0 := ext_end S (F.map enc) [] (by simp; omega)
      have x1 := ext_end S (F.map enc) [enc ((max one.1 p.1, min one.2 p.2) : Sp)] (by simp; omega)
      rw [List.append_nil] at x0
      unfold bstep
      by_cases h : one.1 < p.2 ∧ p.1 < one.2
      · have es : shareW one p = enc ((max one.1 p.1, min one.2 p.2) : Sp) := if_pos h
        rw [es] at sh ⊢
        simp only [enc_sp] at sh x1 ⊢
        simp [sh, isNonW, sizeLine_eq, x1, h, enc_sp]
      · have es : shareW one p = .non := if_neg h
        rw [es] at sh ⊢
        rw [if_neg h]
        simp [sh, isNonW, sizeLine_eq, x0]
  obtain ⟨⟨o4', o5', rfl⟩, rfl⟩ := r
  exact ⟨o4', o5', c⟩
theorem r_both (k : Nat) (S : Sto) {wA wB : Wv} {A B : List Sp} (hA : itW wA = some (A.map enc)) (okA : Oks A) (hzA : A.length ≤ 900) (hB : itW wB = some (B.map enc)) (okB : Oks B) (hz : B.length ≤ 900) :
    run D.FT (k + 4) "both_spans" [wA, wB] S = .ok (.tup ((both A B).map enc)) S := by
  rw [run_cut' ft_both rfl rfl]
  have z := sizeLine_eq
  have hjA := joined_len A
  have hjB := joined_len B
  have rj := r_joined (k + 1) (S ++ [.lst []]) hA okA (by omega)
  have rj : run D.FT (k + 3) "joined_spans" [wA] (S ++ [.lst []]) = _ := rj
  obtain ⟨σ', S', c, r⟩ := for_pre (cl := run D.FT (k + 3)) (g := .nm 3) (e := .call "joined_spans" (.cons (.var 0) .nil)) (b := .seq (.forr (.nm 4) (.call "joined_spans" (.cons (.var 1) .nil))
    (.seq (.set (.nm 5) (.call "shared_span" (.cons (.var 3) (.cons (.var 4) .nil))))
    (.seq (.aug 2 .add (.ite (.notN (.var 5)) (.lst (.cons (.var 5) .nil)) (.lst .nil)))
    .nil)))
    .nil) (σ := [some wA, some wB, some (.ref S.length), none, none, none]) (S := S ++ [.lst []]) (S1 := S ++ [.lst []]) (w := .tup ((joined A).map enc)) enc (joined A)
    (fun pre σ' S' => (∃ o3 o4 o5, σ' = [some wA, some wB, some (.ref S.length), o3, o4, o5]) ∧ S' = S ++ [.lst ((pre.foldl (fun found one => (joined B).foldl (bstep one) found) []).map enc)])
    (by simp [rj]) (itW_tup (by rw [List.length_map]; omega)) ⟨⟨_, _, _, rfl⟩, rfl⟩ fun pre p rest σ1 S1 ee r => by
      obtain ⟨⟨o3, o4, o5, rfl⟩, rfl⟩ := r
      have hlen : (pre.foldl (fun found one => (joined B).foldl (bstep one) found) []).length ≤ 900 * 900 := by
        have h1 := bfolds_len (joined B) pre []
        have h2 := congrArg List.length ee
        simp only [List.length_append, List.length_cons, List.length_nil] at h1 h2
        have h3 : pre.length * (joined B).length ≤ 900 * 900 := Nat.mul_le_mul (by omega) (by omega)
        omega
      have hp : p.1 < p.2 := joined_ok okA p (by rw [ee]; simp)
      obtain ⟨o4', o5', ci⟩ := both_inner k S (wA := wA) hB okB (by omega) p hp (pre.foldl (fun found one => (joined B).foldl (bstep one) found) []) (by omega) o4 o5
      refine ⟨[some wA, some wB, some (.ref S.length), some (enc p), o4, o5], [some wA, some wB, some (.ref S.length), some (enc p), o4', o5'], _, rfl, .inl ?_, ⟨⟨_, _, _, rfl⟩, rfl⟩⟩
      rw [List.foldl_append]
      show _ = SR.nx _ (S ++ [SO.lst (((joined B).foldl (bstep p) (pre.foldl (fun found one => (joined B).foldl (bstep one) found) [])).map enc)])
      rw [ex_seq', ci]
      rfl
  obtain ⟨⟨o3, o4, o5, rfl⟩, rfl⟩ := r
  have hb : biW .tup1 [.ref S.length] (S ++ [.lst ((both A B).map enc)]) = .ok (.tup ((both A B).map enc)) (S ++ [.lst ((both A B).map enc)]) := w_tup1R (rd_end S _)
  have c : _ = SR.nx _ (S ++ [SO.lst ((both A B).map enc)]) := c
  have hbody : leave (ex (run D.FT (k + 3)) d_both_spans.body (startW d_both_spans.ns [wA, wB]) S) = .ok (.tup ((both A B).map enc)) (S ++ [.lst ((both A B).map enc)]) := by
    simp [d_both_spans, startW, sizeLine_eq, c, hb]
  rw [hbody]
  exact cut_row (both A B) S _
/-! ### all_long -/
def longs (l : List Sp) : Int := (l.map fun p => p.2 - p.1).sum
theorem ft_all_long : D.FT "all_long" = some d_all_long := by rfl
theorem r_all_long (k : Nat) (S : Sto) {w : Wv} {l : List Sp} (hw : itW w = some (l.map enc)) (ok : Oks l) (hz : l.length ≤ 900) : run D.FT (k + 3) "all_long" [w] S = .ok (.int (longs (joined l))) S := by
  rw [run_at' ft_all_long rfl rfl]
  have hj := joined_len l
  have rj := r_joined k S hw ok (by omega)
  have e : ev (run D.FT (k + 2)) (.gx .sum (.tup (.cons (.nm 1) (.cons (.nm 2) .nil))) (.call "joined_spans" (.cons (.var 0) .nil)) (.lit (.bl true)) (.bin .sub (.var 2) (.var 1)) [("begin", 1), ("end", 2)]) [some w, none, none] S = .ok (.int (longs (joined l))) S := by
    rw [gx_map .sum enc (joined l) (w := .tup ((joined l).map enc)) (S1 := S) (by simp [rj]) (itW_tup (by rw [List.length_map]; omega)) (fun p : Sp => [.int (p.2 - p.1)]) (.inr rfl) fun p hp => by simp [lcF, wipeW, enc_sp]]
    simp only []
    rw [flat_one]
    have : ((joined l).map fun p : Sp => Wv.int (p.2 - p.1)) = ((joined l).map fun p : Sp => p.2 - p.1).map Wv.int := by rw [List.map_map]; rfl
    rw [this, intsW_of]
    rfl
  simp [d_all_long, startW, e]
end K02

end
section
set_option Elab.async false
set_option linter.all false
set_option maxRecDepth 100000
set_option maxHeartbeats 400000
namespace K02
open PySem Dy L2
open Enc (enc)
/-! ### minutes -/
def one (m : Int) : Key × Wv := (.inl m, .int 1)
def addK (ks : List Int) (m : Int) : List Int := if m ∈ ks then ks else ks ++ [m]
theorem any_one (ks : List Int) (m : Int) : ((ks.map one).any fun kv => decide (kv.1 = Sum.inl m)) = decide (m ∈ ks) := by
  induction ks with
  | nil => rfl
  | cons x xs ih =>
    rw [List.map_cons, List.any_cons, ih]
    by_cases h : x = m
    · subst h; simp [one]
    · have h' : ¬ m = x := fun z => h z.symm
      simp [one, h, h']
theorem put_one (ks : List Int) (m : Int) : putW (ks.map one) (.inl m) (.int 1) = (addK ks m).map one := by
  unfold putW addK
  rw [any_one]
  by_cases h : m ∈ ks
  · rw [if_pos (decide_eq_true h), if_pos h, List.map_map]
    refine List.map_congr_left fun x _ => ?_
    show (if (Sum.inl x : Key) = Sum.inl m then ((Sum.inl x : Key), Wv.int 1) else one x) = one x
    split <;> rfl
  · rw [if_neg (by rw [decide_eq_false h]; exact Bool.false_ne_true), if_neg h, List.map_append]; rfl
theorem merge_one (ms : List Int) : ∀ ks : List Int, mergeW (ks.map one) (ms.map one) = (ms.foldl addK ks).map one := by
  induction ms with
  | nil => intro ks; rfl
  | cons m ms ih =>
    intro ks
    show mergeW (putW (ks.map one) (.inl m) (.int 1)) (ms.map one) = _
    rw [put_one, ih]; rfl
theorem pairs_one : ∀ ms : List Int, pairsW (ms.map fun m => .tup [.int m, .int 1]) = some (ms.map one)
  | [] => rfl
  | m :: ms => by
    show (match keyW (.int m), pairsW (ms.map fun m => .tup [.int m, .int 1]) with | some k, some kvs => some ((k, Wv.int 1) :: kvs) | _, _ => none) = _
    rw [pairs_one ms]; rfl
theorem addK_mem (ks : List Int) (m x : Int) : x ∈ addK ks m ↔ x ∈ ks ∨ x = m := by
  unfold addK
  split
  · rename_i h
    exact ⟨.inl, fun z => z.elim id fun e => e ▸ h⟩
  · simp
theorem addKs_mem : ∀ (ms ks : List Int) (x : Int), x ∈ ms.foldl addK ks ↔ x ∈ ks ∨ x ∈ ms
  | [], ks, x => by simp
  | m :: ms, ks, x => by
    rw [List.foldl_cons, addKs_mem ms, addK_mem, List.mem_cons, or_assoc]
theorem addK_nodup (ks : List Int) (m : Int) (h : ks.Nodup) : (addK ks m).Nodup := by
  unfold addK
  split
  · exact h
  · rename_i hm
    rw [List.nodup_append]
    refine ⟨h, by simp, fun a ha b hb => ?_⟩
    simp at hb
    subst hb
    exact fun z => hm (z ▸ ha)
theorem addKs_nodup : ∀ (ms ks : List Int), ks.Nodup → (ms.foldl addK ks).Nodup
  | [], _, h => h
  | m :: ms, ks, h => addKs_nodup ms _ (addK_nodup ks m h)
theorem addKs_len : ∀ (ms ks : List Int), (ms.foldl addK ks).length ≤ ks.length + ms.length
  | [], ks => by simp
  | m :: ms, ks => by
    have h1 := addKs_len ms (addK ks m)
    have h2 : (addK ks m).length ≤ ks.length + 1 := by unfold addK; split <;> simp
    simp only [List.foldl_cons, List.length_cons]
    omega
/-- a span's minutes -/
def rng (p : Sp) : List Int := (List.range (p.2 - p.1).toNat).map fun i : Nat => p.1 + (i : Int)
theorem rng_mem (p : Sp) (x : Int) : x ∈ rng p ↔ p.1 ≤ x ∧ x < p.2 := by
  unfold rng
  rw [List.mem_map]
  constructor
  · rintro ⟨i, hi, rfl⟩
    rw [List.mem_range] at hi
    omega
  · intro h
    exact ⟨(x - p.1).toNat, by rw [List.mem_range]; omega, by omega⟩
theorem rng_len (p : Sp) : (rng p).length = (p.2 - p.1).toNat := by unfold rng; simp
def madd (acc : List Int) (p : Sp) : List Int := ((rng p).foldl addK []).foldl addK acc
def mins (l : List Sp) : List Int := isortA EncOrd.lt (l.foldl madd [])
theorem madd_mem (acc : List Int) (p : Sp) (x : Int) : x ∈ madd acc p ↔ x ∈ acc ∨ (p.1 ≤ x ∧ x < p.2) := by
  unfold madd
  rw [addKs_mem, addKs_mem, rng_mem]
  simp
theorem madds_mem : ∀ (l : List Sp) (acc : List Int) (x : Int), x ∈ l.foldl madd acc ↔ x ∈ acc ∨ ∃ p ∈ l, p.1 ≤ x ∧ x < p.2
  | [], acc, x => by simp
  | p :: l, acc, x => by
    rw [List.foldl_cons, madds_mem l, madd_mem]
    simp [or_assoc]
theorem madds_nodup : ∀ (l : List Sp) (acc : List Int), acc.Nodup → (l.foldl madd acc).Nodup
  | [], _, h => h
  | p :: l, acc, h => madds_nodup l _ (addKs_nodup _ _ h)
/-- a minute within one of the spans -/
def Cov (l : List Sp) (x : Int) : Prop := ∃ p ∈ l, p.1 ≤ x ∧ x < p.2
instance (l : List Sp) (x : Int) : Decidable (Cov l x) := inferInstanceAs (Decidable (∃ p ∈ l, p.1 ≤ x ∧ x < p.2))
theorem mins_mem (l : List Sp) (x : Int) : x ∈ mins l ↔ Cov l x := by
  unfold mins
  rw [(sort_perm _).mem_iff, madds_mem]
  simp [Cov]
theorem rise_of {l : List Int} (h : l.Nodup) (h2 : l.Pairwise Le) : l.Pairwise (· < ·) := by
  have := List.Pairwise.and h2 h
  refine this.imp fun {a b} z => ?_
  have h1 := le_int.mp z.1
  have h2 := z.2
  omega
theorem mins_rise (l : List Sp) : (mins l).Pairwise (· < ·) := rise_of ((sort_perm _).nodup_iff.mpr (madds_nodup l [] List.nodup_nil)) (sort_sorted _)
theorem ft_minutes : D.FT "_law_minutes" = some d__law_minutes := by rfl
theorem madd_len (acc : List Int) (p : Sp) : (madd acc p).length ≤ acc.length + (p.2 - p.1).toNat := by
  unfold madd
  have h1 := addKs_len ((rng p).foldl addK []) acc
  have h2 := addKs_len (rng p) []
  rw [rng_len] at h2
  simp only [List.length_nil] at h2
  omega
theorem madds_len (l : List Sp) (h : ∀ p ∈ l, p.2 - p.1 ≤ 1000) : ∀ acc : List Int, (l.foldl madd acc).length ≤ acc.length + l.length * 1000 := by
  induction l with
  | nil => intro acc; simp
  | cons p l ih =>
    intro acc
    have h1 := ih (fun q hq => h q (List.mem_cons_of_mem _ hq)) (madd acc p)
    have h2 := madd_len acc p
    have h3 := h p List.mem_cons_self
    simp only [List.foldl_cons, List.length_cons]
    rw [Nat.succ_mul]
    omega
theorem upd_end (S : Sto) (ks ls : List (Key × Wv)) (h : ks.length + ls.length ≤ 16777216) : mtW .updD (.ref S.length) [.dct ls] (S ++ [.dct ks]) = .ok .non (S ++ [.dct (mergeW ks ls)]) := by
  show (match (S ++ [SO.dct ks])[S.length]?, rd (S ++ [SO.dct ks]) (.dct ls) with
    | some (.dct ks'), .dct ls => if ks'.length + ls.length ≤ sizeLine ∧ isRefW S.length (.dct ls) = false then Res.ok .non ((S ++ [SO.dct ks]).set S.length (.dct (mergeW ks' ls))) else .bad
    | _, _ => .bad) = _
  rw [sto_at]
  simp only [rd_dctS]
  rw [if_pos ⟨by rw [sizeLine_eq]; exact h, rfl⟩, sto_set]
theorem isMtD_end (S : Sto) (ks : List (Key × Wv)) : isMtW .updD (.ref S.length) (S ++ [.dct ks]) = true := by
  show (match rd (S ++ [SO.dct ks]) (.ref S.length) with | .dct _ => true | _ => false) = true
  rw [rd_endD]
/-- bounds of the spans that are walked minute by minute -/
def Small (l : List Sp) : Prop := ∀ p ∈ l, -1000000 ≤ p.1 ∧ p.1 ≤ 1000000 ∧ -1000000 ≤ p.2 ∧ p.2 ≤ 1000000 ∧ p.2 - p.1 ≤ 1000
theorem r_minutes (k : Nat) (S : Sto) {w : Wv} {l : List Sp} (hw : itW w = some (l.map enc)) (hs : Small l) (hz : l.length ≤ 1000) : run D.FT (k + 1) "_law_minutes" [w] S = .ok (.lst ((mins l).map .int)) S := by
  rw [run_cut' ft_minutes rfl rfl]
  have z := sizeLine_eq
  obtain ⟨σ', S', c, r⟩ := for_pre (cl := run D.FT k) (g := .tup (.cons (.nm 2) (.cons (.nm 3) .nil))) (e := .var 0) (b := .seq (.expr (.mt .updD (.var 1) (.cons (.bn .dct1 (.cons (.lc (.nm 4) (.rng2 (.var 2) (.var 3)) (.lit (.bl true)) (.tup (.cons (.var 4) (.cons (.lit (.int 1)) .nil))) [("minute", 4)]) .nil)) .nil)))
    .nil) (σ := [some w, some (.ref S.length), none, none, none]) (S := S ++ [.dct []]) (S1 := S ++ [.dct []]) (w := w) enc l
    (fun pre σ' S' => (∃ o2 o3, σ' = [some w, some (.ref S.length), o2, o3, none]) ∧ S' = S ++ [.dct ((pre.foldl madd []).map one)])
    rfl hw ⟨⟨_, _, rfl⟩, rfl⟩ fun pre p rest σ1 S1 ee r => by
      obtain ⟨⟨o2, o3, rfl⟩, rfl⟩ := r
      have hp := hs p (by rw [ee]; simp)
      have hlen : (pre.foldl madd []).length ≤ 1000 * 1000 := by
        have h1 := madds_len pre (fun q hq => (hs q (by rw [ee]; simp [hq])).2.2.2.2) []
        have h2 := congrArg List.length ee
        simp only [List.length_append, List.length_cons, List.length_nil] at h1 h2
        omega
      have hk := addKs_len (rng p) []
      rw [rng_len] at hk
      simp only [List.length_nil] at hk
      refine ⟨[some w, some (.ref S.length), some (.int p.1), some (.int p.2), none], [some w, some (.ref S.length), some (.int p.1), some (.int p.2), none], _, rfl, .inl ?_, ⟨⟨_, _, rfl⟩, rfl⟩⟩
      rw [List.foldl_append]
      show _ = SR.nx _ (S ++ [SO.dct ((madd (pre.foldl madd []) p).map one)])
      generalize pre.foldl madd [] = F at hlen ⊢
      have lc := lc_rng2 (cl := run D.FT k) (σ := [some w, some (.ref S.length), some (.int p.1), some (.int p.2), none]) (S := S ++ [.dct (F.map one)]) (g := .nm 4) (a := .var 2) (b := .var 3) (c := .lit (.bl true)) (e := .tup (.cons (.var 4) (.cons (.lit (.int 1)) .nil))) (own := [("minute", 4)]) (lo := p.1) (hi := p.2) rfl rfl (by omega) (by omega) (by omega) (fun m => [.tup [.int m, .int 1]]) fun x h1 h2 => by
        simp [lcF, wipeW, sizeLine_eq]
      have e1 : ((List.range (p.2 - p.1).toNat).flatMap fun i => [Wv.tup [.int (p.1 + (i : Nat)), .int 1]]) = (rng p).map fun m => Wv.tup [.int m, .int 1] := by
        rw [flat_one, rng, List.map_map]; rfl
      rw [e1] at lc
      have bn : bnW .dct1 [.lst ((rng p).map fun m => Wv.tup [.int m, .int 1])] (S ++ [.dct (F.map one)]) = .ok (.dct (((rng p).foldl addK []).map one)) (S ++ [.dct (F.map one)]) := by
        show (match pairsW ((rng p).map fun m => Wv.tup [.int m, .int 1]) with | some kvs => if ((rng p).map fun m => Wv.tup [.int m, .int 1]).length ≤ sizeLine then Res.ok (.dct (mergeW [] kvs)) (S ++ [SO.dct (F.map one)]) else .bad | none => .bad) = _
        rw [pairs_one]
        simp only []
        rw [if_pos (by rw [List.length_map, rng_len, sizeLine_eq]; omega)]
        have := merge_one (rng p) []
        rw [List.map_nil] at this
        rw [this]
      have up := upd_end S (F.map one) (((rng p).foldl addK []).map one) (by simp; omega)
      rw [merge_one] at up
      have im := isMtD_end S (F.map one)
      simp [lc, bn, up, im, madd]
  obtain ⟨⟨o2, o3, rfl⟩, rfl⟩ := r
  have hb : bnW .srt [.ref S.length] (S ++ [.dct ((l.foldl madd []).map one)]) = .ok (.lst ((mins l).map .int)) (S ++ [.dct ((l.foldl madd []).map one)]) := by
    show (match rd (S ++ [SO.dct ((l.foldl madd []).map one)]) (.ref S.length) with
      | .lst xs => sortW xs _
      | .dct kvs => sortW (kvs.map fun kv : Key × Wv => keyV kv.1) _
      | _ => .bad) = _
    rw [rd_endD]
    simp only []
    have e2 : (((l.foldl madd []).map one).map fun kv : Key × Wv => keyV kv.1) = (l.foldl madd []).map enc := by rw [List.map_map]; rfl
    rw [e2]
    exact sort_enc (l.foldl madd []) _ (by decide)
  have hbody : leave (ex (run D.FT k) d__law_minutes.body (startW d__law_minutes.ns [w]) S) = .ok (.lst ((mins l).map .int)) (S ++ [.dct ((l.foldl madd []).map one)]) := by
    simp [d__law_minutes, startW, c, hb]
  rw [hbody]
  exact cut_lst (mins l) S _
end K02

end
section
set_option Elab.async false
set_option linter.all false
set_option maxRecDepth 100000
set_option maxHeartbeats 400000
namespace K02
open PySem Dy L2
open Enc (enc)
/-! ### runs -/
def rstep (rows : List Sp) (m : Int) : List Sp := match rows.getLast? with
  | some q => if q.2 = m then rows.dropLast ++ [(q.1, m + 1)] else rows ++ [(m, m + 1)]
  | none => [(m, m + 1)]
def runs (ms : List Int) : List Sp := ms.foldl rstep []
theorem rstep_len (f : List Sp) (m : Int) : (rstep f m).length ≤ f.length + 1 := by
  unfold rstep
  cases h : f.getLast? with
  | none => simp
  | some q =>
    simp only []
    split <;> simp
theorem runs_len : ∀ (l : List Int) (a : List Sp), (l.foldl rstep a).length ≤ a.length + l.length
  | [], a => by simp
  | x :: l, a => by
    have h1 := runs_len l (rstep a x)
    have h2 := rstep_len a x
    simp only [List.foldl_cons, List.length_cons]
    omega
theorem ft_runs : D.FT "_law_runs" = some d__law_runs := by rfl
theorem r_runs (k : Nat) (S : Sto) (ms : List Int) (hz : ms.length ≤ 1000000) : run D.FT (k + 1) "_law_runs" [.lst (ms.map .int)] S = .ok (.lst ((runs ms).map enc)) S := by
  rw [run_at' ft_runs rfl rfl]
  have z := sizeLine_eq
  obtain ⟨σ', S', c, r⟩ := for_pre (cl := run D.FT k) (g := .nm 2) (e := .var 0) (b := .seq (.set (.nm 1) (.ite (.and (.cmp .ne (.var 1) (.lst .nil)) (.cmp .eq (.idx (.idx (.var 1) (.neg (.lit (.int 1)))) (.lit (.int 1))) (.var 2))) (.bin .add (.sl (.var 1) (.lit .non) (.neg (.lit (.int 1)))) (.lst (.cons (.tup (.cons (.idx (.idx (.var 1) (.neg (.lit (.int 1)))) (.lit (.int 0))) (.cons (.bin .add (.var 2) (.lit (.int 1))) .nil))) .nil))) (.bin .add (.var 1) (.lst (.cons (.tup (.cons (.var 2) (.cons (.bin .add (.var 2) (.lit (.int 1))) .nil))) .nil)))))
    .nil) (σ := [some (.lst (ms.map .int)), some (.lst []), none]) (S := S) (S1 := S) (w := .lst (ms.map .int)) Wv.int ms
    (fun pre σ' S' => (∃ o2, σ' = [some (.lst (ms.map .int)), some (.lst ((pre.foldl rstep []).map enc)), o2]) ∧ S' = S)
    rfl (itW_lst (by rw [List.length_map]; omega)) ⟨⟨_, rfl⟩, rfl⟩ fun pre m rest σ1 S1 ee r => by
      obtain ⟨⟨o2, rfl⟩, rfl⟩ := r
      have hlen : (pre.foldl rstep []).length ≤ 1000000 := by
        have h1 := runs_len pre []
        have h2 := congrArg List.length ee
        simp only [List.length_append, List.length_cons, List.length_nil] at h1 h2
        omega
      refine ⟨[some (.lst (ms.map .int)), some (.lst ((pre.foldl rstep []).map enc)), some (.int m)], [some (.lst (ms.map .int)), some (.lst (((pre ++ [m]).foldl rstep []).map enc)), some (.int m)], _, rfl, .inl ?_, ⟨⟨_, rfl⟩, rfl⟩⟩
      rw [List.foldl_append]
      show _ = SR.nx [some (.lst (ms.map .int)), some (.lst ((rstep (pre.foldl rstep []) m).map enc)), some (.int m)] S1
      generalize pre.foldl rstep [] = F at hlen ⊢
      cases hL : F.getLast? with
      | none =>
        have hF : F = [] := List.getLast?_eq_none_iff.mp hL
        subst hF
        simp [andK_b, sizeLine_eq, rstep, enc_sp, binW]
      | some q =>
        have hF : F ≠ [] := fun z => by subst z; cases hL
        have hF2 : F.map enc ≠ [] := fun z => hF (List.map_eq_nil_iff.mp z)
        have e0 := eq_lst0 F
        rw [decide_eq_false hF] at e0
        have eL : atI (F.map enc) (-1) = some (.tup [.int q.1, .int q.2]) := by rw [atI_lastW, getLast_enc, hL]; rfl
        have sl := sl_init (F.map enc) S1 hF2
        have a1 := w_addL (F.map enc).dropLast [.tup [.int q.1, .int (m + 1)]] S1 (by simp; omega)
        have a2 := w_addL (F.map enc) [.tup [.int m, .int (m + 1)]] S1 (by simp; omega)
        by_cases hc : q.2 = m
        · have hj : rstep F m = F.dropLast ++ [(q.1, m + 1)] := by unfold rstep; rw [hL]; simp only [if_pos hc]
          have dc : decide (q.2 = m) = true := decide_eq_true hc
          rw [hj]
          simp [e0, andK_b, sizeLine_eq, eL, dc, sl, a1, enc_sp, intO, noB]
        · have hj : rstep F m = F ++ [(m, m + 1)] := by unfold rstep; rw [hL]; simp only [if_neg hc]
          rw [hj]
          simp [e0, andK_b, sizeLine_eq, eL, hc, a2, enc_sp]
  obtain ⟨⟨o2, rfl⟩, rfl⟩ := r
  simp [d__law_runs, startW, sizeLine_eq, c]
  rfl
/-! ### first_gap -/
def gapW (long : Int) : List Sp → Wv
  | [] => .non
  | p :: l => if p.2 - p.1 ≥ long then enc ((p.1, p.1 + long) : Sp) else gapW long l
theorem ft_gap : D.FT "first_gap" = some d_first_gap := by rfl
theorem r_gap (k : Nat) (S : Sto) {w : Wv} {l : List Sp} (hw : itW w = some (l.map enc)) (ok : Oks l) (hz : l.length ≤ 900) (b e long : Int) (hbe : b < e) (hl : 1 ≤ long) :
    run D.FT (k + 4) "first_gap" [w, .int b, .int e, .int long] S = .ok (gapW long (without [(b, e)] l)) S := by
  rw [run_at' ft_gap rfl rfl]
  have z := sizeLine_eq
  have c := r_check (k + 2) S (b, e) hbe
  have c : run D.FT (k + 3) "check_span" [.tup [.int b, .int e]] S = _ := c
  have hA : itW (.tup [.tup [.int b, .int e]]) = some (([(b, e)] : List Sp).map enc) := itW_tup (by simp)
  have rw1 := r_without k S hA (fun p hp => by simp at hp; subst hp; exact hbe) (by simp) hw ok hz
  have hlw : (without [(b, e)] l).length ≤ 1 * 901 := by
    have h1 := wfolds_len (joined l) (joined [(b, e)]) []
    have h2 := joined_len l
    have h3 := joined_len [(b, e)]
    have h4 : (joined [(b, e)]).length * ((joined l).length + 1) ≤ 1 * 901 := Nat.mul_le_mul h3 (by omega)
    unfold without
    simp only [List.length_nil] at h1
    omega
  have hl' : ¬ long < 1 := by omega
  have key : ∀ (rows : List Sp) (o4 o5 : Option Wv), ∃ σ', fLoop (.tup (.cons (.nm 4) (.cons (.nm 5) .nil))) (ex (run D.FT (k + 3)) (.seq (.ifs (.cmp .ge (.bin .sub (.var 5) (.var 4)) (.var 3))
    (.seq (.ret (.tup (.cons (.var 4) (.cons (.bin .add (.var 4) (.var 3)) .nil))))
    .nil)
    .nil)
    .nil)) (rows.map enc) [some w, some (.int b), some (.int e), some (.int long), o4, o5] S = (match gapW long rows with | .non => .nx σ' S | v => .rt v S) := by
    intro rows
    induction rows with
    | nil => intro o4 o5; exact ⟨_, rfl⟩
    | cons p rows ih =>
      intro o4 o5
      rw [List.map_cons, fLoop_cons]
      unfold gapW
      by_cases h : p.2 - p.1 ≥ long
      · rw [if_pos h]
        have h' : long ≤ p.2 - p.1 := h
        refine ⟨[], ?_⟩
        simp [h', sizeLine_eq, enc_sp]
      · rw [if_neg h]
        have h' : ¬ long ≤ p.2 - p.1 := h
        obtain ⟨σ', e'⟩ := ih (some (.int p.1)) (some (.int p.2))
        refine ⟨σ', ?_⟩
        rw [← e']
        simp [h', enc_sp]
  obtain ⟨σ', e'⟩ := key (without [(b, e)] l) none none
  have hf : ex (run D.FT (k + 3)) (.forr (.tup (.cons (.nm 4) (.cons (.nm 5) .nil))) (.call "without_spans" (.cons (.tup (.cons (.tup (.cons (.var 1) (.cons (.var 2) .nil))) .nil)) (.cons (.var 0) .nil))) (.seq (.ifs (.cmp .ge (.bin .sub (.var 5) (.var 4)) (.var 3))
    (.seq (.ret (.tup (.cons (.var 4) (.cons (.bin .add (.var 4) (.var 3)) .nil))))
    .nil)
    .nil)
    .nil)) [some w, some (.int b), some (.int e), some (.int long), none, none] S = (match gapW long (without [(b, e)] l) with | .non => .nx σ' S | v => .rt v S) := by
    rw [ex_forr]
    have h : ev (run D.FT (k + 3)) (.call "without_spans" (.cons (.tup (.cons (.tup (.cons (.var 1) (.cons (.var 2) .nil))) .nil)) (.cons (.var 0) .nil))) [some w, some (.int b), some (.int e), some (.int long), none, none] S = .ok (.tup ((without [(b, e)] l).map enc)) S := by simp [sizeLine_eq, rw1]
    rw [h]
    simp only [bs_ok]
    rw [itW_tup (by rw [List.length_map]; omega)]
    exact e'
  have hg : ∀ rows : List Sp, gapW long rows = .non ∨ ∃ p : Sp, gapW long rows = enc p := by
    intro rows
    induction rows with
    | nil => exact .inl rfl
    | cons p rows ih =>
      unfold gapW
      split
      · exact .inr ⟨_, rfl⟩
      · exact ih
  rcases hg (without [(b, e)] l) with h | ⟨p, h⟩
  · rw [h] at hf ⊢
    simp [d_first_gap, startW, sizeLine_eq, c, hl', hf]
  · rw [h, enc_sp] at hf
    rw [h, enc_sp]
    simp [d_first_gap, startW, sizeLine_eq, c, hl', hf]
end K02

end
section
set_option Elab.async false
set_option linter.all false
set_option maxRecDepth 100000
set_option maxHeartbeats 400000
namespace K02
open PySem Dy L2
open Enc (enc)
/-! ### the dice -/
theorem ft_law_roll : D.FT "_law_roll" = some d__law_roll := by rfl
theorem ft_law_dice : D.FT "_law_dice" = some d__law_dice := by rfl
theorem ft_law_rounds : D.FT "_law_rounds" = some d__law_rounds := by rfl
theorem r_rollT (k : Nat) (p : Int × Int × Int) (T : Sto) {many : Int} (h : 1 ≤ many ∧ many ≤ 100000000) :
    ∃ (r : Int) (p' : Int × Int × Int), (0 ≤ r ∧ r < many) ∧ run D.FT (k + 1) "_law_roll" [.ref 0, .int many] (dT p T) = .ok (.int r) (dT p' T) := by
  obtain ⟨a, b, c⟩ := p
  have hm : ¬ 100000000 < many := by omega
  have key : ∀ z : Int, 0 ≤ z % many ∧ z % many < many := fun z => ⟨Int.emod_nonneg z (by omega), Int.emod_lt_of_pos z (by omega)⟩
  by_cases h2 : c = 2
  · refine ⟨a % many, (a / many, b, c), key _, ?_⟩
    rw [run_at' ft_law_roll rfl rfl]
    simp [d__law_roll, startW, dT, orK_b, andK_b, idxW, rd, atI, ixN, h2, biW, w_mod _ _ (show 0 < many by omega), w_fdiv _ _ (show 0 < many by omega) (show many < 1073741824 by omega), setIxW]
  · by_cases h1 : c = 1 ∧ 0 < a
    · obtain ⟨h1, h3⟩ := h1
      refine ⟨a % many, (a / many, b, c), key _, ?_⟩
      rw [run_at' ft_law_roll rfl rfl]
      simp [d__law_roll, startW, dT, orK_b, andK_b, idxW, rd, atI, ixN, h1, h3, biW, w_mod _ _ (show 0 < many by omega), w_fdiv _ _ (show 0 < many by omega) (show many < 1073741824 by omega), setIxW]
    · refine ⟨((a * 48271 + b * 69621 + 11) % 2147483647) / 7 % many, ((a * 48271 + b * 69621 + 11) % 2147483647, b + 1, 0), key _, ?_⟩
      rw [run_at' ft_law_roll rfl rfl]
      by_cases h1' : c = 1
      · have h3 : ¬ 0 < a := fun z => h1 ⟨h1', z⟩
        simp [d__law_roll, startW, dT, orK_b, andK_b, idxW, rd, atI, ixN, h1', h3, hm, biW, w_mod _ _ (show 0 < many by omega), w_mod, w_fdiv, setIxW, w_mul _ _ (cm_r (i := a) (j := 48271) (by omega)), w_mul _ _ (cm_r (i := b) (j := 69621) (by omega))]
      · simp [d__law_roll, startW, dT, orK_b, andK_b, idxW, rd, atI, ixN, h2, h1', hm, biW, w_mod _ _ (show 0 < many by omega), w_mod, w_fdiv, setIxW, w_mul _ _ (cm_r (i := a) (j := 48271) (by omega)), w_mul _ _ (cm_r (i := b) (j := 69621) (by omega))]
theorem r_roll (k : Nat) (p : Int × Int × Int) {many : Int} (h : 1 ≤ many ∧ many ≤ 100000000) :
    ∃ (r : Int) (p' : Int × Int × Int), (0 ≤ r ∧ r < many) ∧ run D.FT (k + 1) "_law_roll" [.ref 0, .int many] (dS p) = .ok (.int r) (dS p') := r_rollT k p [] h
theorem w_pow18 (S : Sto) : binW .pow (.int 10) (.int 18) S = .ok (.int 1000000000000000000) S := by
  show (if CPow 10 18 then Res.ok (.int (10 ^ (18 : Int).toNat)) S else .bad) = _
  rw [if_pos (by decide)]
  rfl
theorem r_dice (k : Nat) (z : Int) : ∃ p : Int × Int × Int, run D.FT (k + 1) "_law_dice" [.int z] [] = .ok (.ref 0) (dS p) := by
  rw [run_at' ft_law_dice rfl rfl]
  by_cases h1 : -10 < z <;> by_cases h2 : z < 10
  · refine ⟨(if z < 0 then -z else z, 0, 2), ?_⟩
    simp [d__law_dice, startW, dS, dT, andK_b, h1, h2, biW, sizeLine_eq]
  · refine ⟨(z, 1 + z % 1009, if 10 ^ 18 ≤ z then 1 else 0), ?_⟩
    by_cases h3 : (1000000000000000000 : Int) ≤ z <;> simp [d__law_dice, startW, dS, dT, andK_b, h1, h2, h3, biW, sizeLine_eq, w_mod, w_pow18]
  · refine ⟨(z, 1 + z % 1009, if 10 ^ 18 ≤ z then 1 else 0), ?_⟩
    by_cases h3 : (1000000000000000000 : Int) ≤ z <;> simp [d__law_dice, startW, dS, dT, andK_b, h1, h2, h3, biW, sizeLine_eq, w_mod, w_pow18]
  · omega
theorem eq_nil1 (z : Int) : eqD (.lst [.int z]) (.lst []) = some false := by
  have h := eq_lst0 [z]
  rw [decide_eq_false (by simp)] at h
  exact h
theorem eq_nil0 : eqD (.lst []) (.lst []) = some true := eqD_nil
theorem r_rounds (k : Nat) (ns : List Int) : ∃ p : Int × Int × Int, run D.FT (k + 2) "_law_rounds" [.arg ns, .int 1] [] = .ok (.lst [.ref 0]) (dS p) := by
  have one : ∀ z : Int, ∃ p : Int × Int × Int, ev (run D.FT (k + 1)) (.lc (.nm 3) (.var 2) (.lit (.bl true)) (.call "_law_dice" (.cons (.var 3) .nil)) [("cell", 3)]) [some (.arg ns), some (.int 1), some (.lst [.int z]), none] [] = .ok (.lst [.ref 0]) (dS p) := fun z => by
    obtain ⟨p, hp⟩ := r_dice k z
    refine ⟨p, ?_⟩
    rw [ev_lc]
    simp [itW, sizeLine_eq, lcLoop, lcF, wipeW, hp]
  rw [run_at' ft_law_rounds rfl rfl]
  cases ns with
  | nil =>
    obtain ⟨p, hp⟩ := one 0
    refine ⟨p, ?_⟩
    simp [d__law_rounds, startW, intO, noB, slW, bndW, rd, cutW, HT.sIx, cmpW, ofB, eq_nil0, sizeLine_eq, hp]
  | cons z r =>
    obtain ⟨p, hp⟩ := one z
    refine ⟨p, ?_⟩
    simp [d__law_rounds, startW, intO, noB, slW, bndW, rd, cutW, HT.sIx, cmpW, ofB, eq_nil1, sizeLine_eq, hp]
    done
theorem ft_spans : D.FT "_law_spans" = some d__law_spans := by rfl
/-- a drawn span -/
def Drawn (l : List Sp) : Prop := ∀ q ∈ l, 0 ≤ q.1 ∧ q.1 < 24 ∧ q.1 < q.2 ∧ q.2 ≤ q.1 + 8
theorem r_spans (k : Nat) (p : Int × Int × Int) {many : Int} (h : 1 ≤ many ∧ many ≤ 1000) :
    ∃ (l : List Sp) (p' : Int × Int × Int), l.length < many ∧ Drawn l ∧ run D.FT (k + 2) "_law_spans" [.ref 0, .int many] (dS p) = .ok (.lst (l.map enc)) (dS p') := by
  obtain ⟨n, p1, hn, e1⟩ := r_roll k p (many := many) ⟨h.1, by omega⟩
  have z := sizeLine_eq
  have hr : ev (run D.FT (k + 1)) (.rng1 (.call "_law_roll" (.cons (.var 0) (.cons (.var 1) .nil)))) [some (.ref 0), some (.int many), some (.lst []), none, none] (dS p) = .ok (.lst ((List.range n.toNat).map fun i : Nat => .int (0 + (i : Nat)))) (dS p1) := by
    rw [ev_rng1]
    have : ev (run D.FT (k + 1)) (.call "_law_roll" (.cons (.var 0) (.cons (.var 1) .nil))) [some (.ref 0), some (.int many), some (.lst []), none, none] (dS p) = .ok (.int n) (dS p1) := by simp [e1]
    rw [this]
    simp only [bind_ok, rng1W]
    rw [if_pos (by omega)]
  obtain ⟨σ', S', c, r⟩ := for_pre (cl := run D.FT (k + 1)) (g := .nm 3) (e := .rng1 (.call "_law_roll" (.cons (.var 0) (.cons (.var 1) .nil)))) (b := .seq (.set (.nm 4) (.call "_law_roll" (.cons (.var 0) (.cons (.lit (.int 24)) .nil))))
    (.seq (.set (.nm 2) (.bin .add (.var 2) (.lst (.cons (.tup (.cons (.var 4) (.cons (.bin .add (.bin .add (.var 4) (.lit (.int 1))) (.call "_law_roll" (.cons (.var 0) (.cons (.lit (.int 8)) .nil)))) .nil))) .nil))))
    .nil)) (σ := [some (.ref 0), some (.int many), some (.lst []), none, none]) (S := dS p) (S1 := dS p1) (fun i : Nat => Wv.int (0 + (i : Nat))) (List.range n.toNat)
    (fun pre σ' S' => ∃ (l : List Sp) (p' : Int × Int × Int) (o3 o4 : Option Wv), σ' = [some (.ref 0), some (.int many), some (.lst (l.map enc)), o3, o4] ∧ S' = dS p' ∧ l.length = pre.length ∧ Drawn l)
    hr (itW_lst (by rw [List.length_map, List.length_range]; omega)) ⟨[], p1, none, none, rfl, rfl, rfl, fun q hq => absurd hq (by simp)⟩ fun pre m rest σ1 S1 ee r => by
      obtain ⟨l, p', o3, o4, rfl, rfl, hl, hd⟩ := r
      have h2 := congrArg List.length ee
      simp only [List.length_append, List.length_cons, List.length_range] at h2
      obtain ⟨a, p2, ha, ea⟩ := r_roll k p' (many := 24) (by omega)
      obtain ⟨b, p3, hb, eb⟩ := r_roll k p2 (many := 8) (by omega)
      have ad := w_addL (l.map enc) [.tup [.int a, .int (a + 1 + b)]] (dS p3) (by simp; omega)
      refine ⟨[some (.ref 0), some (.int many), some (.lst (l.map enc)), some (.int (0 + (m : Nat))), o4], [some (.ref 0), some (.int many), some (.lst ((l ++ [(a, a + 1 + b)]).map enc)), some (.int (0 + (m : Nat))), some (.int a)], dS p3, rfl, .inl ?_, l ++ [(a, a + 1 + b)], p3, _, _, rfl, rfl, by simp [hl], fun q hq => ?_⟩
      · simp [ea, eb, ad, sizeLine_eq, enc_sp]
      · rcases List.mem_append.mp hq with hq | hq
        · exact hd q hq
        · simp at hq
          subst hq
          show 0 ≤ a ∧ a < 24 ∧ a < a + 1 + b ∧ a + 1 + b ≤ a + 8
          omega
  obtain ⟨l, p', o3, o4, rfl, rfl, hl, hd⟩ := r
  rw [List.length_range] at hl
  refine ⟨l, p', by omega, hd, ?_⟩
  rw [run_at' ft_spans rfl rfl]
  simp [d__law_spans, startW, sizeLine_eq, c]
end K02

end
section
set_option Elab.async false
set_option linter.all false
set_option maxRecDepth 100000
set_option maxHeartbeats 400000
/-! k02: rows of spans that lie apart. -/
namespace K02
open Dy
structure NF (l : List Sp) : Prop where
  ok : Oks l
  pw : l.Pairwise fun p q => p.2 < q.1
theorem NF.tail {p : Sp} {l : List Sp} (h : NF (p :: l)) : NF l := ⟨fun q hq => h.ok q (List.mem_cons_of_mem _ hq), (List.pairwise_cons.mp h.pw).2⟩
theorem cov_cons {p : Sp} {l : List Sp} {x : Int} : Cov (p :: l) x ↔ (p.1 ≤ x ∧ x < p.2) ∨ Cov l x := by
  unfold Cov; simp
theorem cov_app {a b : List Sp} {x : Int} : Cov (a ++ b) x ↔ Cov a x ∨ Cov b x := by
  unfold Cov
  simp only [List.mem_append, or_and_right, exists_or]
theorem cov_nil {x : Int} : Cov [] x ↔ False := by unfold Cov; simp
theorem cov_one {p : Sp} {x : Int} : Cov [p] x ↔ p.1 ≤ x ∧ x < p.2 := by unfold Cov; simp
theorem NF.beyond {p : Sp} {l : List Sp} (h : NF (p :: l)) {x : Int} (c : Cov l x) : p.2 < x := by
  obtain ⟨q, hq, h1, _⟩ := c
  have := (List.pairwise_cons.mp h.pw).1 q hq
  omega
theorem nf_eq : ∀ {a b : List Sp}, NF a → NF b → (∀ x, Cov a x ↔ Cov b x) → a = b
  | [], [], _, _, _ => rfl
  | [], q :: b, _, hb, h => by
    have := hb.ok q List.mem_cons_self
    exact absurd ((h q.1).mpr (cov_cons.mpr (.inl ⟨by omega, by omega⟩))) (by rw [cov_nil]; exact id)
  | p :: a, [], ha, _, h => by
    have := ha.ok p List.mem_cons_self
    exact absurd ((h p.1).mp (cov_cons.mpr (.inl ⟨by omega, by omega⟩))) (by rw [cov_nil]; exact id)
  | p :: a, q :: b, ha, hb, h => by
    have hp := ha.ok p List.mem_cons_self
    have hq := hb.ok q List.mem_cons_self
    have e1 : p.1 = q.1 := by
      have c1 := (h p.1).mp (cov_cons.mpr (.inl ⟨by omega, by omega⟩))
      have c2 := (h q.1).mpr (cov_cons.mpr (.inl ⟨by omega, by omega⟩))
      rcases cov_cons.mp c1 with c1 | c1 <;> rcases cov_cons.mp c2 with c2 | c2
      · omega
      · have := ha.beyond c2; omega
      · have := hb.beyond c1; omega
      · have := hb.beyond c1; have := ha.beyond c2; omega
    have e2 : p.2 = q.2 := by
      by_cases l1 : p.2 < q.2
      · have c := (h p.2).mpr (cov_cons.mpr (.inl ⟨by omega, l1⟩))
        rcases cov_cons.mp c with c | c
        · omega
        · have := ha.beyond c; omega
      · by_cases l2 : q.2 < p.2
        · have c := (h q.2).mp (cov_cons.mpr (.inl ⟨by omega, l2⟩))
          rcases cov_cons.mp c with c | c
          · omega
          · have := hb.beyond c; omega
        · omega
    have e : p = q := Prod.ext e1 e2
    subst e
    rw [nf_eq ha.tail hb.tail fun x => ?_]
    constructor
    · intro c
      have := ha.beyond c
      rcases cov_cons.mp ((h x).mp (cov_cons.mpr (.inr c))) with z | z
      · omega
      · exact z
    · intro c
      have := hb.beyond c
      rcases cov_cons.mp ((h x).mpr (cov_cons.mpr (.inr c))) with z | z
      · omega
      · exact z
theorem NF.nil : NF [] := ⟨fun _ h => absurd h (by simp), List.Pairwise.nil⟩
theorem NF.snoc {l : List Sp} {p : Sp} (h : NF l) (hp : p.1 < p.2) (hl : ∀ q, l.getLast? = some q → q.2 < p.1) : NF (l ++ [p]) := by
  refine ⟨fun q hq => ?_, List.pairwise_append.mpr ⟨h.pw, List.pairwise_singleton _ _, fun a ha b hb => ?_⟩⟩
  · rcases List.mem_append.mp hq with hq | hq
    · exact h.ok q hq
    · simp at hq; subst hq; exact hp
  · simp at hb
    subst hb
    cases e : l.getLast? with
    | none => rw [List.getLast?_eq_none_iff.mp e] at ha; exact absurd ha (by simp)
    | some q =>
      have h1 := hl q e
      obtain ⟨l', rfl⟩ := List.getLast?_eq_some_iff.mp e
      rcases List.mem_append.mp ha with ha | ha
      · have h2 := (List.pairwise_append.mp h.pw).2.2 a ha q (by simp)
        have h3 := h.ok q (by simp)
        omega
      · simp at ha; subst ha; exact h1
theorem NF.relast {l : List Sp} {q : Sp} {y : Int} (h : NF (l ++ [q])) (hy : q.1 < y) : NF (l ++ [(q.1, y)]) := by
  have hl : NF l := ⟨fun r hr => h.ok r (List.mem_append_left _ hr), (List.pairwise_append.mp h.pw).1⟩
  refine hl.snoc hy fun r hr => ?_
  exact (List.pairwise_append.mp h.pw).2.2 r (List.mem_of_getLast? hr) q (by simp)
/-! ### joined -/
theorem joined_inv : ∀ (rest pre found : List Sp), (pre ++ rest).Pairwise (fun p q => p.1 ≤ q.1) → Oks (pre ++ rest) → NF found → (∀ x, Cov found x ↔ Cov pre x) → (∀ q, found.getLast? = some q → ∃ r ∈ pre, q.1 = r.1) →
    NF (rest.foldl jstep found) ∧ ∀ x, Cov (rest.foldl jstep found) x ↔ Cov (pre ++ rest) x
  | [], pre, found, _, _, nf, hc, _ => ⟨nf, fun x => by rw [List.append_nil]; exact hc x⟩
  | p :: rest, pre, found, hs, ok, nf, hc, hl => by
    have hp : p.1 < p.2 := ok p (by simp)
    have e : pre ++ p :: rest = pre ++ [p] ++ rest := by simp
    rw [e] at hs ok ⊢
    have hle : ∀ r ∈ pre, r.1 ≤ p.1 := fun r hr => by
      rw [List.append_assoc] at hs
      exact (List.pairwise_append.mp hs).2.2 r hr p (by simp)
    have key : NF (jstep found p) ∧ (∀ x, Cov (jstep found p) x ↔ Cov (pre ++ [p]) x) ∧ ∀ q, (jstep found p).getLast? = some q → ∃ r ∈ pre ++ [p], q.1 = r.1 := by
      unfold jstep
      cases hL : found.getLast? with
      | none =>
        have := List.getLast?_eq_none_iff.mp hL
        subst this
        simp only []
        refine ⟨by simpa using NF.nil.snoc hp (fun q hq => by cases hq), fun x => ?_, fun q hq => ⟨p, by simp, by simp at hq; rw [hq]⟩⟩
        rw [cov_app, ← hc x, cov_nil, false_or]
      | some q =>
        simp only []
        obtain ⟨f', rfl⟩ := List.getLast?_eq_some_iff.mp hL
        obtain ⟨r, hr, eq1⟩ := hl q hL
        have hq : q.1 < q.2 := nf.ok q (by simp)
        have h1 := hle r hr
        by_cases hcond : p.1 ≤ q.2
        · rw [if_pos hcond]
          have ed : (f' ++ [q]).dropLast = f' := by simp
          rw [ed]
          refine ⟨nf.relast (by omega), fun x => ?_, fun q' hq' => ⟨r, List.mem_append_left _ hr, by simp at hq'; rw [← hq']; exact eq1⟩⟩
          rw [cov_app (a := pre), ← hc x, cov_app, cov_app, cov_one, cov_one, cov_one]
          constructor
          · rintro (z | ⟨z1, z2⟩)
            · exact .inl (.inl z)
            · by_cases hx : x < q.2
              · exact .inl (.inr ⟨z1, hx⟩)
              · exact .inr ⟨by omega, by simp only [] at z2; omega⟩
          · rintro ((z | ⟨z1, z2⟩) | ⟨z1, z2⟩)
            · exact .inl z
            · exact .inr ⟨z1, by simp only []; omega⟩
            · exact .inr ⟨by simp only []; omega, by simp only []; omega⟩
        · rw [if_neg hcond]
          refine ⟨nf.snoc hp (fun q' hq' => by simp at hq'; subst hq'; omega), fun x => ?_, fun q' hq' => ⟨p, by simp, by simp at hq'; rw [hq']⟩⟩
          rw [cov_app, cov_app (a := pre), ← hc x]
    exact joined_inv rest (pre ++ [p]) (jstep found p) hs ok key.1 key.2.1 key.2.2
theorem cov_perm {a b : List Sp} (h : a.Perm b) (x : Int) : Cov a x ↔ Cov b x := by
  unfold Cov
  exact ⟨fun ⟨p, hp, z⟩ => ⟨p, h.mem_iff.mp hp, z⟩, fun ⟨p, hp, z⟩ => ⟨p, h.mem_iff.mpr hp, z⟩⟩
theorem joined_nf {l : List Sp} (ok : Oks l) : NF (joined l) ∧ ∀ x, Cov (joined l) x ↔ Cov l x := by
  have hs : (isortA EncOrd.lt l).Pairwise fun p q : Sp => p.1 ≤ q.1 := (sort_sorted l).imp fun {a b} h => by
    have := le_pair.mp h
    omega
  have hp := sort_perm l
  have := joined_inv (isortA EncOrd.lt l) [] [] (by simpa using hs) (fun q hq => ok q (hp.mem_iff.mp (by simpa using hq))) NF.nil (fun _ => Iff.rfl) (fun q hq => by cases hq)
  refine ⟨this.1, fun x => (this.2 x).trans ?_⟩
  rw [List.nil_append]
  exact cov_perm hp x
/-! ### runs -/
theorem runs_inv : ∀ (rest pre : List Int) (rows : List Sp), (pre ++ rest).Pairwise (· < ·) → NF rows → (∀ x, Cov rows x ↔ x ∈ pre) → (∀ q, rows.getLast? = some q → q.2 - 1 ∈ pre) →
    NF (rest.foldl rstep rows) ∧ ∀ x, Cov (rest.foldl rstep rows) x ↔ x ∈ pre ++ rest
  | [], pre, rows, _, nf, hc, _ => ⟨nf, fun x => by rw [List.append_nil]; exact hc x⟩
  | m :: rest, pre, rows, hs, nf, hc, hl => by
    have e : pre ++ m :: rest = pre ++ [m] ++ rest := by simp
    rw [e] at hs ⊢
    have hlt : ∀ r ∈ pre, r < m := fun r hr => by
      rw [List.append_assoc] at hs
      exact (List.pairwise_append.mp hs).2.2 r hr m (by simp)
    have key : NF (rstep rows m) ∧ (∀ x, Cov (rstep rows m) x ↔ x ∈ pre ++ [m]) ∧ ∀ q, (rstep rows m).getLast? = some q → q.2 - 1 ∈ pre ++ [m] := by
      have hm1 : ∀ x, Cov [((m, m + 1) : Sp)] x ↔ x = m := fun x => by rw [cov_one]; simp only []; omega
      unfold rstep
      cases hL : rows.getLast? with
      | none =>
        have := List.getLast?_eq_none_iff.mp hL
        subst this
        simp only []
        refine ⟨by simpa using NF.nil.snoc (p := (m, m + 1)) (by simp only []; omega) (fun q hq => by cases hq), fun x => ?_, fun q hq => by simp at hq; subst hq; simp⟩
        rw [hm1, List.mem_append, ← hc x, cov_nil]
        simp
      | some q =>
        simp only []
        obtain ⟨f', rfl⟩ := List.getLast?_eq_some_iff.mp hL
        have hq : q.1 < q.2 := nf.ok q (by simp)
        have h1 := hlt _ (hl q hL)
        by_cases hcond : q.2 = m
        · rw [if_pos hcond]
          have ed : (f' ++ [q]).dropLast = f' := by simp
          rw [ed]
          refine ⟨nf.relast (by omega), fun x => ?_, fun q' hq' => by simp at hq'; subst hq'; simp⟩
          rw [List.mem_append, ← hc x, cov_app, cov_app, cov_one, cov_one, List.mem_singleton, or_assoc]
          refine or_congr Iff.rfl ?_
          simp only []
          omega
        · rw [if_neg hcond]
          refine ⟨nf.snoc (by simp only []; omega) (fun q' hq' => by simp at hq'; subst hq'; simp only []; omega), fun x => ?_, fun q' hq' => by simp at hq'; subst hq'; simp⟩
          rw [cov_app, hm1, List.mem_append, ← hc x, List.mem_singleton]
    exact runs_inv rest (pre ++ [m]) (rstep rows m) hs key.1 key.2.1 key.2.2
theorem runs_nf {ms : List Int} (h : ms.Pairwise (· < ·)) : NF (runs ms) ∧ ∀ x, Cov (runs ms) x ↔ x ∈ ms := by
  have := runs_inv ms [] [] (by simpa using h) NF.nil (fun x => by rw [cov_nil]; simp) (fun q hq => by cases hq)
  exact ⟨this.1, fun x => by have := this.2 x; rw [List.nil_append] at this; exact this⟩
theorem joined_runs {l : List Sp} (ok : Oks l) : joined l = runs (mins l) :=
  nf_eq (joined_nf ok).1 (runs_nf (mins_rise l)).1 fun x => by rw [(joined_nf ok).2, (runs_nf (mins_rise l)).2, mins_mem]
end K02

end
section
set_option Elab.async false
set_option linter.all false
set_option maxRecDepth 100000
set_option maxHeartbeats 400000
/-! k02: without, both, all_long. -/
namespace K02
open Dy
/-! ### without -/
structure WI (NB found0 found : List Sp) (b e here : Int) (pre : List Sp) : Prop where
  nf : NF found
  le : b ≤ here
  cov : ∀ x, Cov found x ↔ Cov found0 x ∨ (b ≤ x ∧ x < here ∧ x < e ∧ ¬ Cov NB x)
  past : ∀ p ∈ pre, p.2 ≤ here ∨ e ≤ p.1
  last : ∀ q, found.getLast? = some q → q.2 < here
theorem w_inv {NB found0 : List Sp} {b e : Int} (nb : NF NB) : ∀ (rest pre : List Sp) (st : List Sp × Int), NB = pre ++ rest → WI NB found0 st.1 b e st.2 pre → WI NB found0 (rest.foldl (wstep e) st).1 b e (rest.foldl (wstep e) st).2 NB
  | [], pre, st, h, w => by rw [List.append_nil] at h; subst h; exact w
  | p :: rest, pre, st, h, w => by
    obtain ⟨found, here⟩ := st
    have hp : p.1 < p.2 := nb.ok p (by rw [h]; simp)
    have hrest : ∀ r ∈ rest, p.2 < r.1 := fun r hr => by
      have := nb.pw
      rw [h] at this
      exact (List.pairwise_cons.mp (List.pairwise_append.mp this).2.1).1 r hr
    refine w_inv nb rest (pre ++ [p]) _ (by rw [h]; simp) ?_
    have w : WI NB found0 found b e here pre := w
    have inP : ∀ x, p.1 ≤ x → x < p.2 → Cov NB x := fun x h1 h2 => ⟨p, by rw [h]; simp, h1, h2⟩
    unfold wstep
    by_cases hc : p.1 < e ∧ p.2 > here
    · rw [if_pos hc]
      by_cases h3 : p.1 > here
      · rw [if_pos h3]
        have hm : max here p.2 = p.2 := by omega
        show WI NB found0 (found ++ [(here, p.1)]) b e (max here p.2) (pre ++ [p])
        rw [hm]
        have free : ∀ x, here ≤ x → x < p.1 → ¬ Cov NB x := by
          rintro x h1 h2 ⟨r, hr, r1, r2⟩
          rw [h] at hr
          rcases List.mem_append.mp hr with hr | hr
          · rcases w.past r hr with z | z <;> omega
          · rcases List.mem_cons.mp hr with rfl | hr
            · omega
            · have := hrest r hr; omega
        have wl := w.le
        refine ⟨w.nf.snoc h3 w.last, by omega, fun x => ?_, fun r hr => ?_, fun q hq => ?_⟩
        · rw [cov_app, cov_one, w.cov]
          simp only []
          constructor
          · rintro ((z | ⟨z1, z2, z3, z4⟩) | ⟨z1, z2⟩)
            · exact .inl z
            · exact .inr ⟨z1, by omega, z3, z4⟩
            · exact .inr ⟨by omega, by omega, by omega, free x z1 z2⟩
          · rintro (z | ⟨z1, z2, z3, z4⟩)
            · exact .inl (.inl z)
            · by_cases hx : x < here
              · exact .inl (.inr ⟨z1, hx, z3, z4⟩)
              · by_cases hx2 : x < p.1
                · exact .inr ⟨by omega, hx2⟩
                · exact absurd (inP x (by omega) z2) z4
        · rcases List.mem_append.mp hr with hr | hr
          · rcases w.past r hr with z | z
            · exact .inl (by omega)
            · exact .inr z
          · simp at hr; subst hr; exact .inl (Int.le_refl _)
        · simp at hq
          subst hq
          exact hp
      · rw [if_neg h3]
        have hm : max here p.2 = p.2 := by omega
        show WI NB found0 found b e (max here p.2) (pre ++ [p])
        rw [hm]
        have wl := w.le
        refine ⟨w.nf, by omega, fun x => ?_, fun r hr => ?_, fun q hq => by have := w.last q hq; omega⟩
        · rw [w.cov]
          constructor
          · rintro (z | ⟨z1, z2, z3, z4⟩)
            · exact .inl z
            · exact .inr ⟨z1, by omega, z3, z4⟩
          · rintro (z | ⟨z1, z2, z3, z4⟩)
            · exact .inl z
            · by_cases hx : x < here
              · exact .inr ⟨z1, hx, z3, z4⟩
              · exact absurd (inP x (by omega) z2) z4
        · rcases List.mem_append.mp hr with hr | hr
          · rcases w.past r hr with z | z
            · exact .inl (by omega)
            · exact .inr z
          · simp at hr; subst hr; exact .inl (Int.le_refl _)
    · rw [if_neg hc]
      refine ⟨w.nf, w.le, w.cov, fun r hr => ?_, w.last⟩
      rcases List.mem_append.mp hr with hr | hr
      · exact w.past r hr
      · simp at hr; subst hr; omega
theorem wfold_ok {NB found : List Sp} {p : Sp} (nb : NF NB) (nf : NF found) (hp : p.1 < p.2) (hl : ∀ q, found.getLast? = some q → q.2 < p.1) :
    NF (wfold NB found p) ∧ (∀ x, Cov (wfold NB found p) x ↔ Cov found x ∨ (p.1 ≤ x ∧ x < p.2 ∧ ¬ Cov NB x)) ∧ ∀ q, (wfold NB found p).getLast? = some q → q.2 ≤ p.2 := by
  have w := w_inv (found0 := found) (b := p.1) (e := p.2) nb NB [] (found, p.1) rfl ⟨nf, Int.le_refl _, fun x => by
    constructor
    · exact .inl
    · rintro (z | z)
      · exact z
      · simp only [] at z; omega, fun q hq => absurd hq (by simp), hl⟩
  unfold wfold
  generalize NB.foldl (wstep p.2) (found, p.1) = st at w ⊢
  obtain ⟨F, here⟩ := st
  simp only [] at w ⊢
  have free : ∀ x, here ≤ x → x < p.2 → ¬ Cov NB x := by
    rintro x h1 h2 ⟨r, hr, r1, r2⟩
    rcases w.past r hr with z | z <;> omega
  have wl := w.le
  by_cases h : here < p.2
  · rw [if_pos h]
    refine ⟨w.nf.snoc h w.last, fun x => ?_, fun q hq => by simp at hq; subst hq; exact Int.le_refl _⟩
    rw [cov_app, cov_one, w.cov]
    simp only []
    constructor
    · rintro ((z | ⟨z1, z2, z3, z4⟩) | ⟨z1, z2⟩)
      · exact .inl z
      · exact .inr ⟨z1, z3, z4⟩
      · exact .inr ⟨by omega, z2, free x z1 z2⟩
    · rintro (z | ⟨z1, z3, z4⟩)
      · exact .inl (.inl z)
      · by_cases hx : x < here
        · exact .inl (.inr ⟨z1, hx, z3, z4⟩)
        · exact .inr ⟨by omega, z3⟩
  · rw [if_neg h]
    refine ⟨w.nf, fun x => ?_, fun q hq => ?_⟩
    · rw [w.cov]
      constructor
      · rintro (z | ⟨z1, z2, z3, z4⟩)
        · exact .inl z
        · exact .inr ⟨z1, z3, z4⟩
      · rintro (z | ⟨z1, z3, z4⟩)
        · exact .inl z
        · exact .inr ⟨z1, by omega, z3, z4⟩
    · -- the last piece ends within
      have hq2 : q ∈ F := List.mem_of_getLast? hq
      have hqo := w.nf.ok q hq2
      have c : Cov F (q.2 - 1) := ⟨q, hq2, by omega, by omega⟩
      rcases (w.cov _).mp c with ⟨r, hr, r1, r2⟩ | ⟨_, _, z3, _⟩
      · -- within an earlier piece
        by_cases hle : q.2 ≤ p.2
        · exact hle
        · exfalso
          cases e : found.getLast? with
          | none => rw [List.getLast?_eq_none_iff.mp e] at hr; exact absurd hr (by simp)
          | some z =>
            have hz := hl z e
            obtain ⟨f', rfl⟩ := List.getLast?_eq_some_iff.mp e
            have : r.2 ≤ z.2 := by
              rcases List.mem_append.mp hr with hr | hr
              · have h2 := (List.pairwise_append.mp nf.pw).2.2 r hr z (by simp)
                have h3 := nf.ok z (by simp)
                omega
              · simp at hr; subst hr; exact Int.le_refl _
            omega
      · omega
theorem without_inv {NB : List Sp} (nb : NF NB) : ∀ (rest pre found : List Sp), NF (pre ++ rest) → NF found → (∀ x, Cov found x ↔ Cov pre x ∧ ¬ Cov NB x) → (∀ q, found.getLast? = some q → ∃ r ∈ pre, q.2 ≤ r.2) →
    NF (rest.foldl (wfold NB) found) ∧ ∀ x, Cov (rest.foldl (wfold NB) found) x ↔ Cov (pre ++ rest) x ∧ ¬ Cov NB x
  | [], pre, found, _, nf, hc, _ => ⟨nf, fun x => by rw [List.append_nil]; exact hc x⟩
  | p :: rest, pre, found, na, nf, hc, hl => by
    have hp : p.1 < p.2 := na.ok p (by simp)
    have hlt : ∀ r ∈ pre, r.2 < p.1 := fun r hr => (List.pairwise_append.mp na.pw).2.2 r hr p (by simp)
    obtain ⟨k1, k2, k3⟩ := wfold_ok nb nf hp fun q hq => by
      obtain ⟨r, hr, h1⟩ := hl q hq
      have := hlt r hr
      omega
    have e : pre ++ p :: rest = pre ++ [p] ++ rest := by simp
    rw [e] at na ⊢
    refine without_inv nb rest (pre ++ [p]) _ na k1 (fun x => ?_) fun q hq => ⟨p, by simp, k3 q hq⟩
    rw [k2, hc, cov_app, cov_one]
    constructor
    · rintro (⟨z1, z2⟩ | ⟨z1, z2, z3⟩)
      · exact ⟨.inl z1, z2⟩
      · exact ⟨.inr ⟨z1, z2⟩, z3⟩
    · rintro ⟨z1 | ⟨z1, z2⟩, z3⟩
      · exact .inl ⟨z1, z3⟩
      · exact .inr ⟨z1, z2, z3⟩
theorem without_nf {A B : List Sp} (okA : Oks A) (okB : Oks B) : NF (without A B) ∧ ∀ x, Cov (without A B) x ↔ Cov A x ∧ ¬ Cov B x := by
  obtain ⟨a1, a2⟩ := joined_nf okA
  obtain ⟨b1, b2⟩ := joined_nf okB
  have := without_inv b1 (joined A) [] [] (by simpa using a1) NF.nil (fun x => by rw [cov_nil]; simp) (fun q hq => by cases hq)
  refine ⟨this.1, fun x => ?_⟩
  have h := this.2 x
  rw [List.nil_append, a2, b2] at h
  exact h
theorem without_runs {A B : List Sp} (okA : Oks A) (okB : Oks B) : without A B = runs ((mins A).filter fun m => !decide (m ∈ mins B)) := by
  have hr : ((mins A).filter fun m => !decide (m ∈ mins B)).Pairwise (· < ·) := (mins_rise A).filter _
  refine nf_eq (without_nf okA okB).1 (runs_nf hr).1 fun x => ?_
  rw [(without_nf okA okB).2, (runs_nf hr).2, List.mem_filter, mins_mem]
  simp [mins_mem]
/-! ### both -/
theorem bfold_mem (one : Sp) : ∀ (B f : List Sp) (r : Sp), r ∈ B.foldl (bstep one) f ↔ r ∈ f ∨ ∃ q ∈ B, (one.1 < q.2 ∧ q.1 < one.2) ∧ r = (max one.1 q.1, min one.2 q.2)
  | [], f, r => by simp
  | q :: B, f, r => by
    rw [List.foldl_cons, bfold_mem one B]
    unfold bstep
    by_cases h : one.1 < q.2 ∧ q.1 < one.2
    · rw [if_pos h]
      simp [h, or_assoc]
    · rw [if_neg h]
      simp [h]
theorem bfolds_mem (B : List Sp) : ∀ (A f : List Sp) (r : Sp), r ∈ A.foldl (fun found one => B.foldl (bstep one) found) f ↔ r ∈ f ∨ ∃ p ∈ A, ∃ q ∈ B, (p.1 < q.2 ∧ q.1 < p.2) ∧ r = (max p.1 q.1, min p.2 q.2)
  | [], f, r => by simp
  | p :: A, f, r => by
    rw [List.foldl_cons, bfolds_mem B A, bfold_mem]
    simp [or_assoc]
theorem both_mem (A B : List Sp) (r : Sp) : r ∈ both A B ↔ ∃ p ∈ joined A, ∃ q ∈ joined B, (p.1 < q.2 ∧ q.1 < p.2) ∧ r = (max p.1 q.1, min p.2 q.2) := by
  unfold both
  rw [bfolds_mem]
  simp
theorem both_cov {A B : List Sp} (okA : Oks A) (okB : Oks B) (x : Int) : Cov (both A B) x ↔ Cov A x ∧ Cov B x := by
  rw [← (joined_nf okA).2 x, ← (joined_nf okB).2 x]
  constructor
  · rintro ⟨r, hr, h1, h2⟩
    obtain ⟨p, hp, q, hq, _, rfl⟩ := (both_mem A B r).mp hr
    simp only [] at h1 h2
    exact ⟨⟨p, hp, by omega, by omega⟩, ⟨q, hq, by omega, by omega⟩⟩
  · rintro ⟨⟨p, hp, p1, p2⟩, ⟨q, hq, q1, q2⟩⟩
    exact ⟨(max p.1 q.1, min p.2 q.2), (both_mem A B _).mpr ⟨p, hp, q, hq, ⟨by omega, by omega⟩, rfl⟩, by simp only []; omega, by simp only []; omega⟩
theorem both_mins {A B : List Sp} (okA : Oks A) (okB : Oks B) : mins (both A B) = (mins A).filter fun m => decide (m ∈ mins B) := by
  refine rise_eq (mins_rise _) ((mins_rise A).filter _) fun x => ?_
  rw [mins_mem, both_cov okA okB, List.mem_filter, mins_mem]
  simp [mins_mem]
/-- all within lo, hi -/
def In (lo hi : Int) (l : List Sp) : Prop := ∀ p ∈ l, lo ≤ p.1 ∧ p.2 ≤ hi
theorem in_of {l : List Sp} {lo hi : Int} (ok : Oks l) (h : In lo hi l) : In lo hi (joined l) := by
  intro p hp
  obtain ⟨nf, hc⟩ := joined_nf ok
  have hpo := nf.ok p hp
  obtain ⟨r, hr, r1, r2⟩ := (hc p.1).mp ⟨p, hp, by omega, by omega⟩
  obtain ⟨s, hs, s1, s2⟩ := (hc (p.2 - 1)).mp ⟨p, hp, by omega, by omega⟩
  have h1 := h r hr
  have h2 := h s hs
  omega
/-! ### all_long -/
theorem flat_rise : ∀ {l : List Sp}, NF l → (l.flatMap rng).Pairwise (· < ·) ∧ (∀ x, x ∈ l.flatMap rng ↔ Cov l x) ∧ ((l.flatMap rng).length : Int) = longs l
  | [], _ => ⟨List.Pairwise.nil, fun x => by simp [cov_nil], rfl⟩
  | p :: l, h => by
    obtain ⟨i1, i2, i3⟩ := flat_rise h.tail
    have hp := h.ok p List.mem_cons_self
    refine ⟨?_, fun x => ?_, ?_⟩
    · rw [List.flatMap_cons, List.pairwise_append]
      refine ⟨?_, i1, fun a ha b hb => ?_⟩
      · unfold rng
        rw [List.pairwise_map]
        exact List.pairwise_lt_range.imp fun {a b} hab => by omega
      · have ha := (rng_mem p a).mp ha
        have := h.beyond ((i2 b).mp hb)
        omega
    · rw [List.flatMap_cons, List.mem_append, rng_mem, i2, cov_cons]
    · rw [List.flatMap_cons, List.length_append, rng_len]
      unfold longs at i3 ⊢
      rw [List.map_cons, List.sum_cons]
      omega
theorem all_long_mins {l : List Sp} (ok : Oks l) : longs (joined l) = ((mins l).length : Int) := by
  obtain ⟨nf, hc⟩ := joined_nf ok
  obtain ⟨f1, f2, f3⟩ := flat_rise nf
  rw [← f3, rise_eq f1 (mins_rise l) fun x => by rw [f2, hc, mins_mem]]
end K02

end
section
set_option Elab.async false
set_option linter.all false
set_option maxRecDepth 100000
set_option maxHeartbeats 400000
/-! k02: gaps; the most at once. -/
namespace K02
open Dy
open Enc (enc)
theorem nf_whole {l : List Sp} (h : NF l) {m n : Int} (hm : m < n) (c : ∀ x, m ≤ x → x < n → Cov l x) : ∃ p ∈ l, p.1 ≤ m ∧ n ≤ p.2 := by
  induction l with
  | nil => exact absurd (c m (Int.le_refl _) hm) (by rw [cov_nil]; exact id)
  | cons p l ih =>
    rcases cov_cons.mp (c m (Int.le_refl _) hm) with h1 | h1
    · refine ⟨p, List.mem_cons_self, h1.1, ?_⟩
      by_cases hn : n ≤ p.2
      · exact hn
      · exfalso
        rcases cov_cons.mp (c p.2 (by omega) (by omega)) with h2 | h2
        · omega
        · have := h.beyond h2; omega
    · have hb := h.beyond h1
      obtain ⟨q, hq, z⟩ := ih h.tail fun x hx hx2 => by
        rcases cov_cons.mp (c x hx hx2) with h2 | h2
        · omega
        · exact h2
      exact ⟨q, List.mem_cons_of_mem _ hq, z⟩
/-- the law's gaps -/
def gapsL (l : List Sp) (b e long : Int) : List Int := (rng (b, e - long + 1)).filter fun m => decide ((rng (m, m + long)).filter (fun x => decide (x ∈ mins l)) = [])
theorem gaps_mem {l : List Sp} {b e long m : Int} : m ∈ gapsL l b e long ↔ (b ≤ m ∧ m + long ≤ e) ∧ ∀ x, m ≤ x → x < m + long → ¬ Cov l x := by
  unfold gapsL
  rw [List.mem_filter, rng_mem, decide_eq_true_eq, List.filter_eq_nil_iff]
  simp only [decide_eq_true_eq]
  constructor
  · rintro ⟨h1, h2⟩
    exact ⟨by omega, fun x hx hx2 => fun z => h2 x ((rng_mem _ x).mpr ⟨hx, hx2⟩) ((mins_mem l x).mpr z)⟩
  · rintro ⟨h1, h2⟩
    refine ⟨by omega, fun x hx z => ?_⟩
    have := (rng_mem _ x).mp hx
    exact h2 x this.1 this.2 ((mins_mem l x).mp z)
theorem gaps_rise (l : List Sp) (b e long : Int) : (gapsL l b e long).Pairwise (· < ·) := by
  unfold gapsL
  refine List.Pairwise.filter _ ?_
  unfold rng
  rw [List.pairwise_map]
  exact List.pairwise_lt_range.imp fun {a b} hab => by omega
def gapR (long : Int) : List Int → Wv
  | [] => .non
  | m :: _ => enc ((m, m + long) : Sp)
theorem gapW_ok {long : Int} (hl : 1 ≤ long) : ∀ {W : List Sp} {G : List Int}, NF W → G.Pairwise (· < ·) → (∀ m, m ∈ G ↔ ∃ p ∈ W, p.1 ≤ m ∧ m + long ≤ p.2) → gapW long W = gapR long G
  | [], G, _, _, h => by
    cases G with
    | nil => rfl
    | cons m _ =>
      obtain ⟨p, hp, _⟩ := (h m).mp List.mem_cons_self
      exact absurd hp (by simp)
  | p :: W, G, nf, hG, h => by
    have hp := nf.ok p List.mem_cons_self
    unfold gapW
    by_cases hc : p.2 - p.1 ≥ long
    · rw [if_pos hc]
      have h1 := (h p.1).mpr ⟨p, List.mem_cons_self, Int.le_refl _, by omega⟩
      cases G with
      | nil => exact absurd h1 (by simp)
      | cons m G =>
        have e : m = p.1 := by
          rcases List.mem_cons.mp h1 with z | z
          · exact z.symm
          · have h2 := (List.pairwise_cons.mp hG).1 _ z
            obtain ⟨q, hq, q1, q2⟩ := (h m).mp List.mem_cons_self
            rcases List.mem_cons.mp hq with rfl | hq
            · omega
            · have := (List.pairwise_cons.mp nf.pw).1 q hq
              omega
        rw [e]; rfl
    · rw [if_neg hc]
      refine gapW_ok hl nf.tail hG fun m => ?_
      rw [h]
      constructor
      · rintro ⟨q, hq, z⟩
        rcases List.mem_cons.mp hq with rfl | hq
        · omega
        · exact ⟨q, hq, z⟩
      · rintro ⟨q, hq, z⟩
        exact ⟨q, List.mem_cons_of_mem _ hq, z⟩
theorem gap_ok {l : List Sp} (ok : Oks l) {b e long : Int} (hbe : b < e) (hl : 1 ≤ long) : gapW long (without [(b, e)] l) = gapR long (gapsL l b e long) := by
  have ok1 : Oks [((b, e) : Sp)] := fun p hp => by simp at hp; subst hp; exact hbe
  obtain ⟨nf, hc⟩ := without_nf ok1 ok
  refine gapW_ok hl nf (gaps_rise l b e long) fun m => ?_
  rw [gaps_mem]
  constructor
  · rintro ⟨h1, h2⟩
    refine nf_whole nf (by omega) fun x hx hx2 => (hc x).mpr ⟨cov_one.mpr ⟨by simp only []; omega, by simp only []; omega⟩, h2 x hx hx2⟩
  · rintro ⟨p, hp, p1, p2⟩
    have hpo := nf.ok p hp
    have c1 := ((hc m).mp ⟨p, hp, by omega, by omega⟩).1
    have c2 := ((hc (m + long - 1)).mp ⟨p, hp, by omega, by omega⟩).1
    rw [cov_one] at c1 c2
    simp only [] at c1 c2
    exact ⟨by omega, fun x hx hx2 => ((hc x).mp ⟨p, hp, by omega, by omega⟩).2⟩
/-! ### how many at once -/
def cnt (l : List Sp) (t : Int) : Nat := (l.filter fun p => decide (p.1 ≤ t ∧ t < p.2)).length
theorem cnt_cons (p : Sp) (l : List Sp) (t : Int) : cnt (p :: l) t = (if p.1 ≤ t ∧ t < p.2 then 1 else 0) + cnt l t := by
  unfold cnt
  rw [List.filter_cons]
  by_cases h : p.1 ≤ t ∧ t < p.2
  · rw [if_pos (decide_eq_true h), if_pos h, List.length_cons]; omega
  · rw [if_neg (by rw [decide_eq_false h]; exact Bool.false_ne_true), if_neg h]; omega
theorem cnt_perm {a b : List Sp} (h : a.Perm b) (t : Int) : cnt a t = cnt b t := (h.filter _).length_eq
theorem cnt_app (a b : List Sp) (t : Int) : cnt (a ++ b) t = cnt a t + cnt b t := by unfold cnt; rw [List.filter_append, List.length_append]
/-- steps up to t -/
def upTo (R : List Sp) (t : Int) : Int := (R.map fun r => if r.1 ≤ t then r.2 else 0).sum
theorem sum_perm {a b : List Int} (h : a.Perm b) : a.sum = b.sum := by
  induction h with
  | nil => rfl
  | cons x _ ih => rw [List.sum_cons, List.sum_cons, ih]
  | swap x y l => simp only [List.sum_cons]; omega
  | trans _ _ i1 i2 => rw [i1, i2]
theorem upTo_perm {a b : List Sp} (h : a.Perm b) (t : Int) : upTo a t = upTo b t := sum_perm (h.map _)
theorem upTo_app (a b : List Sp) (t : Int) : upTo (a ++ b) t = upTo a t + upTo b t := by unfold upTo; rw [List.map_append, List.sum_append]
def rowsOf (l : List Sp) : List Sp := (l.map fun p => (p.1, 1)) ++ l.map fun p => (p.2, -1)
theorem upTo_rows : ∀ {l : List Sp}, Oks l → ∀ t, upTo (rowsOf l) t = (cnt l t : Int)
  | [], _, t => rfl
  | p :: l, ok, t => by
    have ih := upTo_rows (l := l) (fun q hq => ok q (List.mem_cons_of_mem _ hq)) t
    have hp := ok p List.mem_cons_self
    rw [cnt_cons]
    unfold rowsOf at ih ⊢
    rw [upTo_app] at ih ⊢
    unfold upTo at ih ⊢
    simp only [List.map_cons, List.sum_cons]
    by_cases h1 : p.1 ≤ t <;> by_cases h2 : p.2 ≤ t
    · have h3 : ¬ (p.1 ≤ t ∧ t < p.2) := by omega
      rw [if_pos h1, if_pos h2, if_neg h3]; omega
    · have h3 : p.1 ≤ t ∧ t < p.2 := by omega
      rw [if_pos h1, if_neg h2, if_pos h3]; omega
    · omega
    · have h3 : ¬ (p.1 ≤ t ∧ t < p.2) := by omega
      rw [if_neg h1, if_neg h2, if_neg h3]; omega
structure MS where
  best : Int
  here : Int
  when : Option Int
def mstep (s : MS) (r : Sp) : MS := if s.here + r.2 > s.best then ⟨s.here + r.2, s.here + r.2, some r.1⟩ else ⟨s.best, s.here + r.2, s.when⟩
def most (l : List Sp) : MS := (isortA EncOrd.lt (rowsOf l)).foldl mstep ⟨0, 0, none⟩
structure MI (l pre rest : List Sp) (s : MS) : Prop where
  here : s.here = (pre.map (·.2)).sum
  le : s.here ≤ s.best
  no : s.when = none → s.best = 0
  yes : ∀ t, s.when = some t → 0 < s.best ∧ s.best ≤ cnt l t ∧ ∀ t', t' < t → (cnt l t' : Int) < s.best
  all : ∀ t, (∀ r ∈ rest, t < r.1) → (cnt l t : Int) ≤ s.best
theorem sum_nn {α : Type} (f : α → Int) : ∀ l : List α, (∀ x ∈ l, 0 ≤ f x) → 0 ≤ (l.map f).sum
  | [], _ => by simp
  | x :: l, h => by
    have h1 := h x List.mem_cons_self
    have h2 := sum_nn f l fun y hy => h y (List.mem_cons_of_mem _ hy)
    rw [List.map_cons, List.sum_cons]; omega
theorem upTo_all {R : List Sp} {t : Int} (h : ∀ r ∈ R, r.1 ≤ t) : upTo R t = (R.map (·.2)).sum := by
  unfold upTo
  congr 1
  exact List.map_congr_left fun r hr => if_pos (h r hr)
theorem upTo_none {R : List Sp} {t : Int} (h : ∀ r ∈ R, t < r.1) : upTo R t = 0 := by
  induction R with
  | nil => rfl
  | cons r R ih =>
    have h1 := h r List.mem_cons_self
    have h2 := ih fun q hq => h q (List.mem_cons_of_mem _ hq)
    unfold upTo at h2 ⊢
    rw [List.map_cons, List.sum_cons, h2, if_neg (by omega)]
    rfl
theorem most_inv {l : List Sp} (hR : ∀ (R : List Sp) (t : Int), R = isortA EncOrd.lt (rowsOf l) → upTo R t = (cnt l t : Int)) (hu : ∀ r ∈ isortA EncOrd.lt (rowsOf l), r.2 = 1 ∨ r.2 = -1) :
    ∀ (rest pre : List Sp) (s : MS), pre ++ rest = isortA EncOrd.lt (rowsOf l) → MI l pre rest s → MI l (pre ++ rest) [] (rest.foldl mstep s)
  | [], pre, s, _, m => by rw [List.append_nil]; exact m
  | r :: rest, pre, s, e, m => by
    have e2 : pre ++ [r] ++ rest = isortA EncOrd.lt (rowsOf l) := by rw [← e]; simp
    have hs : (pre ++ r :: rest).Pairwise Le := by rw [e]; exact sort_sorted _
    have hpre : ∀ q ∈ pre, q.1 ≤ r.1 := fun q hq => by
      have := le_pair.mp ((List.pairwise_append.mp hs).2.2 q hq r (by simp))
      omega
    have hrest : ∀ q ∈ rest, r.1 < q.1 ∨ r.1 = q.1 ∧ r.2 ≤ q.2 := fun q hq => le_pair.mp ((List.pairwise_cons.mp (List.pairwise_append.mp hs).2.1).1 q hq)
    have hr := hu r (by rw [← e]; simp)
    have c := hR _ r.1 e
    rw [show pre ++ r :: rest = pre ++ ([r] ++ rest) by simp, upTo_app, upTo_app, upTo_all hpre] at c
    have c1 : upTo [r] r.1 = r.2 := by unfold upTo; simp
    rw [c1, ← m.here] at c
    have key : MI l (pre ++ [r]) rest (mstep s r) := by
      have hh : s.here + r.2 = ((pre ++ [r]).map (·.2)).sum := by rw [List.map_append, List.sum_append, ← m.here]; simp
      have later : ∀ t, (∀ q ∈ rest, t < q.1) → (cnt l t : Int) ≤ s.best ∨ (cnt l t : Int) = s.here + r.2 := fun t ht => by
        by_cases h : t < r.1
        · exact .inl (m.all t fun q hq => by
            rcases List.mem_cons.mp hq with e0 | hq
            · rw [e0]; exact h
            · exact ht q hq)
        · right
          rw [← hR _ t e2, upTo_app, upTo_none ht, hh, upTo_all fun q hq => ?_]
          · omega
          · rcases List.mem_append.mp hq with hq | hq
            · have := hpre q hq; omega
            · simp at hq; subst hq; omega
      unfold mstep
      by_cases hc : s.here + r.2 > s.best
      · rw [if_pos hc]
        have hl := m.le
        have hr1 : r.2 = 1 := by rcases hr with h | h <;> omega
        have hnn : 0 ≤ upTo rest r.1 := sum_nn _ rest fun q hq => by
          by_cases hq1 : q.1 ≤ r.1
          · rw [if_pos hq1]
            rcases hrest q hq with z | z <;> omega
          · rw [if_neg hq1]; exact Int.le_refl _
        have hb0 : 0 ≤ s.best := by
          cases hw : s.when with
          | none => rw [m.no hw]; exact Int.le_refl _
          | some t => exact Int.le_of_lt (m.yes t hw).1
        refine ⟨hh, Int.le_refl _, fun h => (by cases h), fun t ht => ?_, fun t ht => ?_⟩
        · cases ht
          refine ⟨by simp only []; omega, by simp only []; omega, fun t' ht' => ?_⟩
          have := m.all t' fun q hq => by
            rcases List.mem_cons.mp hq with rfl | hq
            · exact ht'
            · rcases hrest q hq with z | z <;> omega
          simp only []; omega
        · rcases later t ht with z | z <;> simp only [] <;> omega
      · rw [if_neg hc]
        refine ⟨hh, by simp only []; omega, m.no, m.yes, fun t ht => ?_⟩
        rcases later t ht with z | z <;> simp only [] <;> omega
    have := most_inv hR hu rest (pre ++ [r]) _ e2 key
    rw [show pre ++ r :: rest = pre ++ [r] ++ rest by simp]
    exact this
theorem most_ok {l : List Sp} (ok : Oks l) : (∀ t, (cnt l t : Int) ≤ (most l).best) ∧ ((most l).when = none → (most l).best = 0) ∧ ∀ t, (most l).when = some t → 0 < (most l).best ∧ (cnt l t : Int) = (most l).best ∧ ∀ t', t' < t → (cnt l t' : Int) < (most l).best := by
  have hR : ∀ (R : List Sp) (t : Int), R = isortA EncOrd.lt (rowsOf l) → upTo R t = (cnt l t : Int) := fun R t e => by
    rw [e, upTo_perm (sort_perm _), upTo_rows ok]
  have hu : ∀ r ∈ isortA EncOrd.lt (rowsOf l), r.2 = 1 ∨ r.2 = -1 := fun r hr => by
    have := (sort_perm _).mem_iff.mp hr
    unfold rowsOf at this
    rcases List.mem_append.mp this with h | h
    · obtain ⟨p, _, rfl⟩ := List.mem_map.mp h; exact .inl rfl
    · obtain ⟨p, _, rfl⟩ := List.mem_map.mp h; exact .inr rfl
  have m := most_inv hR hu (isortA EncOrd.lt (rowsOf l)) [] ⟨0, 0, none⟩ rfl ⟨rfl, Int.le_refl _, fun _ => rfl, fun t h => (by cases h), fun t ht => by
    rw [← hR _ t rfl, upTo_none ht]; exact Int.le_refl _⟩
  have all : ∀ t, (cnt l t : Int) ≤ (most l).best := fun t => m.all t fun r hr => absurd hr (by simp)
  refine ⟨all, m.no, fun t ht => ?_⟩
  obtain ⟨h1, h2, h3⟩ := m.yes t ht
  have := all t
  exact ⟨h1, Int.le_antisymm this h2, h3⟩
end K02

end
section
set_option Elab.async false
set_option linter.all false
set_option maxRecDepth 100000
set_option maxHeartbeats 400000
/-! k02: columns. -/
namespace K02
open Dy
structure CS where
  ends : List Int
  as : List Sp
def endOf (l : List Sp) (pl : Int) : Int := (l.getD pl.toNat (0, 0)).2
def colAt (ends : List Int) (b : Int) : Nat := ends.findIdx fun e => decide (e ≤ b)
def putAt (ends : List Int) (c : Nat) (e : Int) : List Int := ends.take c ++ [e] ++ ends.drop (c + 1)
def cstep (l : List Sp) (s : CS) (r : Sp) : CS := ⟨putAt s.ends (colAt s.ends r.1) (endOf l r.2), s.as ++ [(r.2, (colAt s.ends r.1 : Int))]⟩
def rowsC (l : List Sp) : List Sp := isortA EncOrd.lt (l.zipIdx.map fun p => (p.1.1, (p.2 : Int)))
def cols (l : List Sp) : CS := (rowsC l).foldl (cstep l) ⟨[], []⟩
def spOf (l : List Sp) (r : Sp) : Sp := (r.1, endOf l r.2)
def lastE (g : List Sp) : Int := match g.getLast? with
  | some q => q.2
  | none => 0
def tot (G : List (List Sp)) (t : Int) : Nat := (G.map fun g => cnt g t).sum
theorem putAt_set {ends : List Int} {c : Nat} {e : Int} (h : c < ends.length) : putAt ends c e = ends.set c e := by
  unfold putAt
  rw [List.set_eq_take_append_cons_drop, if_pos h]
  simp
theorem putAt_end {ends : List Int} {e : Int} : putAt ends ends.length e = ends ++ [e] := by
  unfold putAt
  simp
theorem tot_app (a b : List (List Sp)) (t : Int) : tot (a ++ b) t = tot a t + tot b t := by unfold tot; rw [List.map_append, List.sum_append]
theorem tot_set {G : List (List Sp)} {c : Nat} {g : List Sp} {p : Sp} (h : G[c]? = some g) (t : Int) : tot (G.set c (g ++ [p])) t = tot G t + cnt [p] t := by
  induction G generalizing c with
  | nil => simp at h
  | cons x G ih =>
    cases c with
    | zero =>
      simp at h
      subst h
      simp [tot, cnt_app]
      omega
    | succ c =>
      simp at h
      have := ih h
      simp [tot] at this ⊢
      omega
theorem chain_le : ∀ {g : List Sp}, Oks g → g.Pairwise (fun p q => p.2 ≤ q.1) → ∀ t, cnt g t ≤ 1
  | [], _, _, t => by simp [cnt]
  | p :: g, ok, h, t => by
    rw [cnt_cons]
    have ih := chain_le (g := g) (fun q hq => ok q (List.mem_cons_of_mem _ hq)) (List.pairwise_cons.mp h).2 t
    by_cases hp : p.1 ≤ t ∧ t < p.2
    · have h0 : cnt g t = 0 := by
        unfold cnt
        rw [List.length_eq_zero_iff, List.filter_eq_nil_iff]
        intro q hq z
        have h1 := (List.pairwise_cons.mp h).1 q hq
        have z := of_decide_eq_true z
        omega
      rw [if_pos hp]; omega
    · rw [if_neg hp]; omega
theorem tot_le {G : List (List Sp)} {t : Int} (h : ∀ g ∈ G, cnt g t ≤ 1) : tot G t ≤ G.length := by
  induction G with
  | nil => simp [tot]
  | cons g G ih =>
    have h1 := h g List.mem_cons_self
    have h2 := ih fun x hx => h x (List.mem_cons_of_mem _ hx)
    simp [tot] at h2 ⊢
    omega
theorem tot_ge {G : List (List Sp)} {t : Int} (h : ∀ g ∈ G, 1 ≤ cnt g t) : G.length ≤ tot G t := by
  induction G with
  | nil => simp [tot]
  | cons g G ih =>
    have h1 := h g List.mem_cons_self
    have h2 := ih fun x hx => h x (List.mem_cons_of_mem _ hx)
    simp [tot] at h2 ⊢
    omega
structure CI (l pre : List Sp) (s : CS) (G : List (List Sp)) : Prop where
  ends : s.ends = G.map lastE
  col : ∀ g ∈ G, g ≠ [] ∧ Oks g ∧ g.Pairwise fun p q => p.2 ≤ q.1
  sum : ∀ t, tot G t = cnt (pre.map (spOf l)) t
  beg : ∀ g ∈ G, ∀ q ∈ g, ∃ r ∈ pre, q.1 = r.1
  low : s.ends = [] ∨ ∃ t, s.ends.length ≤ cnt (pre.map (spOf l)) t
  as : ∀ a ∈ s.as, 0 ≤ a.2 ∧ a.2 < s.ends.length
  top : s.ends = [] ∨ ∃ a ∈ s.as, a.2 + 1 = s.ends.length
  keys : s.as.map (·.1) = pre.map (·.2)
theorem last_in {g : List Sp} (h : g ≠ []) : ∃ q ∈ g, g.getLast? = some q ∧ lastE g = q.2 := by
  cases e : g.getLast? with
  | none => exact absurd (List.getLast?_eq_none_iff.mp e) h
  | some q => exact ⟨q, List.mem_of_getLast? e, rfl, by unfold lastE; rw [e]⟩
theorem c_inv {l : List Sp} (ok : ∀ r ∈ rowsC l, r.1 < endOf l r.2) : ∀ (rest pre : List Sp) (s : CS) (G : List (List Sp)), pre ++ rest = rowsC l → CI l pre s G → ∃ G', CI l (pre ++ rest) (rest.foldl (cstep l) s) G'
  | [], pre, s, G, _, m => by rw [List.append_nil]; exact ⟨G, m⟩
  | r :: rest, pre, s, G, e, m => by
    have e2 : pre ++ [r] ++ rest = rowsC l := by rw [← e]; simp
    have hs : (pre ++ r :: rest).Pairwise Le := by rw [e]; exact sort_sorted _
    have hpre : ∀ q ∈ pre, q.1 ≤ r.1 := fun q hq => by
      have := le_pair.mp ((List.pairwise_append.mp hs).2.2 q hq r (by simp))
      omega
    have hr : r.1 < endOf l r.2 := ok r (by rw [← e]; simp)
    have hlen : s.ends.length = G.length := by rw [m.ends, List.length_map]
    have hsum : ∀ t, cnt ((pre ++ [r]).map (spOf l)) t = cnt (pre.map (spOf l)) t + cnt [spOf l r] t := fun t => by
      rw [List.map_append, cnt_app]; rfl
    have hbeg : ∀ g ∈ G, ∀ q ∈ g, q.1 ≤ r.1 := fun g hg q hq => by
      obtain ⟨x, hx, e3⟩ := m.beg g hg q hq
      have := hpre x hx
      omega
    have key : ∃ G', CI l (pre ++ [r]) (cstep l s r) G' := by
      unfold cstep
      by_cases hc : colAt s.ends r.1 < s.ends.length
      · -- a free column
        generalize hcc : colAt s.ends r.1 = c at hc
        have hfree : s.ends[c] ≤ r.1 := by
          have := List.findIdx_getElem (p := fun e : Int => decide (e ≤ r.1)) (xs := s.ends) (w := by unfold colAt at hcc; rw [hcc]; exact hc)
          have := of_decide_eq_true this
          unfold colAt at hcc
          simp only [hcc] at this
          exact this
        have hcG : c < G.length := by omega
        have hg : G[c]? = some G[c] := List.getElem?_eq_getElem hcG
        have hgm : G[c] ∈ G := List.getElem_mem hcG
        obtain ⟨h1, h2, h3⟩ := m.col _ hgm
        obtain ⟨q, hq, hq1, hq2⟩ := last_in h1
        have he : s.ends[c] = q.2 := by
          have : s.ends[c]? = some (lastE G[c]) := by rw [m.ends, List.getElem?_map, hg]; rfl
          rw [List.getElem?_eq_getElem hc] at this
          have := Option.some.inj this
          rw [this, hq2]
        rw [he] at hfree
        refine ⟨G.set c (G[c] ++ [spOf l r]), ?_⟩
        rw [putAt_set hc]
        have hall : ∀ x ∈ G[c], x.2 ≤ r.1 := by
          intro x hx
          obtain ⟨g', hg'⟩ := List.getLast?_eq_some_iff.mp hq1
          rw [hg'] at hx h3 h2
          rcases List.mem_append.mp hx with hx | hx
          · have a1 := (List.pairwise_append.mp h3).2.2 x hx q (by simp)
            have a2 := h2 q (by simp)
            omega
          · simp at hx; subst hx; exact hfree
        refine ⟨?_, fun g hg' => ?_, fun t => ?_, fun g hg' x hx => ?_, ?_, fun a ha => ?_, ?_, ?_⟩
        · show s.ends.set c _ = _
          rw [List.map_set, ← m.ends]
          congr 1
          unfold lastE spOf
          simp
        · rcases List.mem_or_eq_of_mem_set hg' with hg' | rfl
          · exact m.col g hg'
          · refine ⟨by simp, fun x hx => ?_, List.pairwise_append.mpr ⟨h3, List.pairwise_singleton _ _, fun a ha b hb => ?_⟩⟩
            · rcases List.mem_append.mp hx with hx | hx
              · exact h2 x hx
              · simp at hx; subst hx; exact hr
            · simp at hb; subst hb; exact hall a ha
        · rw [tot_set hg, m.sum, hsum]
        · rcases List.mem_or_eq_of_mem_set hg' with hg' | rfl
          · obtain ⟨y, hy, z⟩ := m.beg g hg' x hx
            exact ⟨y, List.mem_append_left _ hy, z⟩
          · rcases List.mem_append.mp hx with hx | hx
            · obtain ⟨y, hy, z⟩ := m.beg _ hgm x hx
              exact ⟨y, List.mem_append_left _ hy, z⟩
            · simp at hx; subst hx; exact ⟨r, by simp, rfl⟩
        · right
          rcases m.low with z | ⟨t, z⟩
          · rw [z] at hc; exact absurd hc (by simp)
          · exact ⟨t, by rw [hsum]; show (s.ends.set c _).length ≤ _; rw [List.length_set]; omega⟩
        · show 0 ≤ a.2 ∧ a.2 < ((s.ends.set c _).length : Int)
          rw [List.length_set]
          rcases List.mem_append.mp ha with ha | ha
          · exact m.as a ha
          · simp at ha; subst ha; simp only []; omega
        · right
          show ∃ a ∈ s.as ++ _, a.2 + 1 = ((s.ends.set c _).length : Int)
          rw [List.length_set]
          rcases m.top with z | ⟨a, ha, z⟩
          · rw [z] at hc; exact absurd hc (by simp)
          · exact ⟨a, List.mem_append_left _ ha, z⟩
        · show (s.as ++ _).map _ = _
          rw [List.map_append, List.map_append, m.keys]; rfl
      · -- a new column
        have hce : colAt s.ends r.1 = s.ends.length := by
          have : colAt s.ends r.1 ≤ s.ends.length := List.findIdx_le_length
          omega
        have busy : ∀ x ∈ s.ends, r.1 < x := fun x hx => by
          have := List.findIdx_eq_length.mp (show s.ends.findIdx (fun e => decide (e ≤ r.1)) = s.ends.length from hce) x hx
          simpa using this
        rw [hce, putAt_end]
        refine ⟨G ++ [[spOf l r]], ⟨?_, fun g hg => ?_, fun t => ?_, fun g hg x hx => ?_, ?_, fun a ha => ?_, ?_, ?_⟩⟩
        · show s.ends ++ _ = _
          rw [List.map_append, ← m.ends]; rfl
        · rcases List.mem_append.mp hg with hg | hg
          · exact m.col g hg
          · simp at hg; subst hg
            exact ⟨by simp, fun x hx => by simp at hx; subst hx; exact hr, List.pairwise_singleton _ _⟩
        · rw [tot_app, m.sum, hsum]; simp [tot]
        · rcases List.mem_append.mp hg with hg | hg
          · obtain ⟨y, hy, z⟩ := m.beg g hg x hx
            exact ⟨y, List.mem_append_left _ hy, z⟩
          · simp at hg; subst hg; simp at hx; subst hx; exact ⟨r, by simp, rfl⟩
        · right
          refine ⟨r.1, ?_⟩
          show (s.ends ++ _).length ≤ _
          rw [hsum, ← m.sum, List.length_append]
          have h1 : G.length ≤ tot G r.1 := tot_ge fun g hg => by
            obtain ⟨n1, n2, n3⟩ := m.col g hg
            obtain ⟨q, hq, q1, q2⟩ := last_in n1
            have b1 := hbeg g hg q hq
            have b2 := busy (lastE g) (by rw [m.ends]; exact List.mem_map_of_mem hg)
            rw [q2] at b2
            unfold cnt
            refine List.length_pos_of_mem (a := q) (List.mem_filter.mpr ⟨hq, decide_eq_true ⟨b1, b2⟩⟩)
          have h2 : cnt [spOf l r] r.1 = 1 := by
            unfold cnt spOf
            rw [List.filter_cons, if_pos (decide_eq_true ⟨Int.le_refl _, hr⟩)]
            rfl
          simp only [List.length_cons, List.length_nil]
          omega
        · show 0 ≤ a.2 ∧ a.2 < ((s.ends ++ _).length : Int)
          rw [List.length_append]
          rcases List.mem_append.mp ha with ha | ha
          · have := m.as a ha; simp only [List.length_cons, List.length_nil]; omega
          · simp at ha; subst ha; simp; omega
        · right
          exact ⟨(r.2, (s.ends.length : Int)), by simp, by simp⟩
        · show (s.as ++ _).map _ = _
          rw [List.map_append, List.map_append, m.keys]; rfl
    obtain ⟨G', m'⟩ := key
    rw [show pre ++ r :: rest = pre ++ [r] ++ rest by simp]
    exact c_inv ok rest (pre ++ [r]) _ G' e2 m'
end K02

end
section
set_option Elab.async false
set_option linter.all false
set_option maxRecDepth 100000
set_option maxHeartbeats 400000
/-! k02: how many columns. -/
namespace K02
open Dy
theorem zip_at {l : List Sp} {p : Sp × Nat} (h : p ∈ l.zipIdx) : l[p.2]? = some p.1 := by
  obtain ⟨x, i⟩ := p
  exact List.mem_zipIdx_iff_getElem?.mp h
theorem endOf_at {l : List Sp} {p : Sp × Nat} (h : p ∈ l.zipIdx) : endOf l (p.2 : Int) = p.1.2 := by
  unfold endOf
  have : ((p.2 : Int)).toNat = p.2 := by omega
  rw [this, List.getD_eq_getElem?_getD, zip_at h]
  rfl
theorem rowsC_perm (l : List Sp) : ((rowsC l).map (spOf l)).Perm l := by
  have h1 := (sort_perm (l.zipIdx.map fun p => ((p.1.1, (p.2 : Int)) : Sp))).map (spOf l)
  refine h1.trans ?_
  rw [List.map_map]
  have : l.zipIdx.map (spOf l ∘ fun p => ((p.1.1, (p.2 : Int)) : Sp)) = l.zipIdx.map (·.1) := List.map_congr_left fun p hp => by
    show (p.1.1, endOf l (p.2 : Int)) = p.1
    rw [endOf_at hp]
  rw [this, List.zipIdx_map_fst]
theorem rowsC_mem {l : List Sp} {r : Sp} (h : r ∈ rowsC l) : ∃ i : Nat, i < l.length ∧ r.2 = (i : Int) ∧ ∃ p, l[i]? = some p ∧ r.1 = p.1 ∧ endOf l r.2 = p.2 := by
  have := (sort_perm _).mem_iff.mp h
  obtain ⟨p, hp, rfl⟩ := List.mem_map.mp this
  have h1 := zip_at hp
  exact ⟨p.2, (List.getElem?_eq_some_iff.mp h1).1, rfl, p.1, h1, rfl, endOf_at hp⟩
theorem cols_inv {l : List Sp} (ok : Oks l) : ∃ G, CI l (rowsC l) (cols l) G := by
  have := c_inv (l := l) (fun r hr => by
    obtain ⟨i, hi, e1, p, h1, h2, h3⟩ := rowsC_mem hr
    rw [h2, h3]
    exact ok p (List.mem_of_getElem? h1)) (rowsC l) [] ⟨[], []⟩ [] rfl ⟨rfl, fun g hg => absurd hg (by simp), fun t => rfl, fun g hg => absurd hg (by simp), .inl rfl, fun a ha => absurd ha (by simp), .inl rfl, rfl⟩
  rw [List.nil_append] at this
  exact this
theorem cols_most {l : List Sp} (ok : Oks l) : ((cols l).ends.length : Int) = (most l).best := by
  obtain ⟨G, m⟩ := cols_inv ok
  obtain ⟨b1, b2, b3⟩ := most_ok ok
  have hp := rowsC_perm l
  have up : ∀ t, cnt l t ≤ (cols l).ends.length := fun t => by
    have h1 := m.sum t
    rw [cnt_perm hp] at h1
    have h2 : tot G t ≤ G.length := tot_le fun g hg => chain_le (m.col g hg).2.1 (m.col g hg).2.2 t
    rw [m.ends, List.length_map]
    omega
  have lo : ((cols l).ends.length : Int) ≤ (most l).best := by
    rcases m.low with z | ⟨t, z⟩
    · rw [z]
      cases hw : (most l).when with
      | none => rw [b2 hw]; exact Int.le_refl _
      | some t => exact Int.le_of_lt (b3 t hw).1
    · rw [cnt_perm hp] at z
      have := b1 t
      omega
  cases hw : (most l).when with
  | none =>
    have := b2 hw
    have : (0 : Int) ≤ (cols l).ends.length := by omega
    omega
  | some t =>
    have h1 := (b3 t hw).2.1
    have h2 := up t
    omega
/-! the column of a place -/
def colOf (as : List Sp) (pl : Int) : Int := match as.find? (fun q => decide (q.1 = pl)) with
  | some q => q.2
  | none => 0
def columnsL (l : List Sp) : List Int := (List.range l.length).map fun i : Nat => colOf (cols l).as (i : Int)
theorem keys_perm {l : List Sp} (ok : Oks l) : ((cols l).as.map (·.1)).Perm ((List.range l.length).map fun i : Nat => (i : Int)) := by
  obtain ⟨G, m⟩ := cols_inv ok
  rw [m.keys]
  have h1 := (sort_perm (l.zipIdx.map fun p => ((p.1.1, (p.2 : Int)) : Sp))).map (·.2)
  refine h1.trans ?_
  rw [List.map_map]
  have : l.zipIdx.map ((fun x : Sp => x.2) ∘ fun p => ((p.1.1, (p.2 : Int)) : Sp)) = (l.zipIdx.map (·.2)).map fun i : Nat => (i : Int) := by
    rw [List.map_map]; rfl
  rw [this, List.zipIdx_map_snd, List.range_eq_range']
theorem find_at {l : List Sp} (ok : Oks l) {i : Nat} (hi : i < l.length) : ∃ q ∈ (cols l).as, q.1 = (i : Int) ∧ (cols l).as.find? (fun q => decide (q.1 = (i : Int))) = some q := by
  have hm : (i : Int) ∈ (cols l).as.map (·.1) := (keys_perm ok).mem_iff.mpr (List.mem_map.mpr ⟨i, List.mem_range.mpr hi, rfl⟩)
  obtain ⟨q0, hq0, e0⟩ := List.mem_map.mp hm
  cases hf : (cols l).as.find? (fun q => decide (q.1 = (i : Int))) with
  | none =>
    have := List.find?_eq_none.mp hf q0 hq0
    simp [e0] at this
  | some q => exact ⟨q, List.mem_of_find?_eq_some hf, of_decide_eq_true (List.find?_some (p := fun q : Sp => decide (q.1 = (i : Int))) hf), rfl⟩
theorem uniq {as : List Sp} (h : (as.map (·.1)).Nodup) : ∀ {a b : Sp}, a ∈ as → b ∈ as → a.1 = b.1 → a = b := by
  induction as with
  | nil => intro a b ha; cases ha
  | cons x as ih =>
    intro a b ha hb e
    rw [List.map_cons, List.nodup_cons] at h
    rcases List.mem_cons.mp ha with e1 | ha <;> rcases List.mem_cons.mp hb with e2 | hb
    · rw [e1, e2]
    · exact absurd (List.mem_map.mpr ⟨b, hb, by rw [← e, e1]⟩) h.1
    · exact absurd (List.mem_map.mpr ⟨a, ha, by rw [e, e2]⟩) h.1
    · exact ih h.2 ha hb e
theorem foldl_max : ∀ (l : List Int) (x M : Int), (∀ y ∈ x :: l, y ≤ M) → M ∈ x :: l → l.foldl max x = M
  | [], x, M, _, h => (List.mem_singleton.mp h).symm
  | y :: l, x, M, h1, h2 => by
    rw [List.foldl_cons]
    have a := h1 x (by simp)
    have b := h1 y (by simp)
    refine foldl_max l (max x y) M (fun z hz => ?_) ?_
    · rcases List.mem_cons.mp hz with rfl | hz
      · omega
      · exact h1 z (by simp [hz])
    · rcases List.mem_cons.mp h2 with rfl | h2
      · have : max M y = M := by omega
        rw [this]; simp
      · rcases List.mem_cons.mp h2 with rfl | h2
        · have : max x M = M := by omega
          rw [this]; simp
        · simp [h2]
theorem columns_max {l : List Sp} (ok : Oks l) (hne : l ≠ []) : ∃ x xs, columnsL l = x :: xs ∧ xs.foldl max x + 1 = (most l).best := by
  obtain ⟨G, m⟩ := cols_inv ok
  rw [← cols_most ok]
  have hlen : (columnsL l).length = l.length := by unfold columnsL; simp
  have hpos : 0 < l.length := List.length_pos_iff.mpr hne
  have hall : ∀ y ∈ columnsL l, y ≤ ((cols l).ends.length : Int) - 1 := by
    intro y hy
    obtain ⟨i, hi, rfl⟩ := List.mem_map.mp hy
    obtain ⟨q, hq, q1, q2⟩ := find_at ok (List.mem_range.mp hi)
    unfold colOf
    rw [q2]
    have := m.as q hq
    simp only []
    omega
  have hin : ((cols l).ends.length : Int) - 1 ∈ columnsL l := by
    rcases m.top with z | ⟨a, ha, z⟩
    · exfalso
      obtain ⟨q, hq, _, _⟩ := find_at ok hpos
      have := m.as q hq
      rw [z] at this
      simp at this
      omega
    · have hk := (keys_perm ok).mem_iff.mp (List.mem_map.mpr ⟨a, ha, rfl⟩)
      obtain ⟨i, hi, e1⟩ := List.mem_map.mp hk
      obtain ⟨q, hq, q1, q2⟩ := find_at ok (List.mem_range.mp hi)
      have nd : ((cols l).as.map (·.1)).Nodup := (keys_perm ok).nodup_iff.mpr (by
        unfold List.Nodup
        rw [List.pairwise_map]
        exact List.pairwise_lt_range.imp fun {a b} h => by omega)
      have : q = a := uniq nd hq ha (by rw [q1, ← e1])
      subst this
      refine List.mem_map.mpr ⟨i, hi, ?_⟩
      unfold colOf
      rw [q2]
      simp only []
      omega
  cases hc : columnsL l with
  | nil => rw [hc] at hlen; simp at hlen; omega
  | cons x xs =>
    refine ⟨x, xs, rfl, ?_⟩
    rw [hc] at hall hin
    rw [foldl_max xs x _ hall hin]
    omega
end K02

end
section
set_option Elab.async false
set_option linter.all false
set_option maxRecDepth 100000
set_option maxHeartbeats 400000
/-! k02: most_at_once by the evaluator; greatest, place. -/
namespace K02
open PySem Dy L2
open Enc (enc)
def whenW : Option Int → Wv
  | none => .non
  | some t => .int t
theorem ft_most : D.FT "most_at_once" = some d_most_at_once := by rfl
theorem r_most (k : Nat) (S : Sto) {w : Wv} {l : List Sp} (hw : itW w = some (l.map enc)) (ok : Oks l) (hz : l.length ≤ 10000) : run D.FT (k + 2) "most_at_once" [w] S = .ok (.tup [.int (most l).best, whenW (most l).when]) S := by
  rw [run_at' ft_most rfl rfl]
  have z := sizeLine_eq
  obtain ⟨o, c1⟩ := checks k S (σ := [some w, none, none, none, none, none, none, none]) (w := w) (i := 0) (j := 1) hw ok (by decide) (by simp) rfl
  simp only [List.set] at c1
  have lc1 : ev (run D.FT (k + 1)) (.lc (.nm 1) (.var 0) (.lit (.bl true)) (.tup (.cons (.idx (.var 1) (.lit (.int 0))) (.cons (.lit (.int 1)) .nil))) [("span", 1)]) [some w, o, none, none, none, none, none, none] S = .ok (.lst ((l.map fun p : Sp => ((p.1, 1) : Sp)).map enc)) S := by
    rw [lc_map enc l (w := w) (S1 := S) rfl hw (fun p : Sp => [.tup [.int p.1, .int 1]]) fun p hp => by simp [lcF, wipeW, enc_sp, sizeLine_eq], flat_one, List.map_map]
    rfl
  have lc2 : ev (run D.FT (k + 1)) (.lc (.nm 1) (.var 0) (.lit (.bl true)) (.tup (.cons (.idx (.var 1) (.lit (.int 1))) (.cons (.bin .sub (.lit (.int 0)) (.lit (.int 1))) .nil))) [("span", 1)]) [some w, o, none, none, none, none, none, none] S = .ok (.lst ((l.map fun p : Sp => ((p.2, -1) : Sp)).map enc)) S := by
    rw [lc_map enc l (w := w) (S1 := S) rfl hw (fun p : Sp => [.tup [.int p.2, .int (0 - 1)]]) fun p hp => by simp [lcF, wipeW, enc_sp, sizeLine_eq], flat_one, List.map_map]
    rfl
  have ad := w_addL ((l.map fun p : Sp => ((p.1, 1) : Sp)).map enc) ((l.map fun p : Sp => ((p.2, -1) : Sp)).map enc) S (by simp; omega)
  rw [← List.map_append] at ad
  have so := sort_enc (rowsOf l) S (by decide)
  have so : sortW (((l.map fun p : Sp => ((p.1, 1) : Sp)) ++ (l.map fun p : Sp => ((p.2, -1) : Sp))).map enc) S = _ := so
  have hl : (isortA EncOrd.lt (rowsOf l)).length = 2 * l.length := by
    rw [(sort_perm _).length_eq]; unfold rowsOf; simp; omega
  obtain ⟨σ', S', c2, r⟩ := for_pre (cl := run D.FT (k + 1)) (g := .tup (.cons (.nm 6) (.cons (.nm 7) .nil))) (e := .var 2) (b := .seq (.aug 4 .add (.var 7))
    (.seq (.set (.tup (.cons (.nm 3) (.cons (.nm 5) .nil))) (.ite (.cmp .gt (.var 4) (.var 3)) (.tup (.cons (.var 4) (.cons (.var 6) .nil))) (.tup (.cons (.var 3) (.cons (.var 5) .nil)))))
    .nil)) (σ := [some w, o, some (.lst ((isortA EncOrd.lt (rowsOf l)).map enc)), some (.int 0), some (.int 0), some .non, none, none]) (S := S) (S1 := S) enc (isortA EncOrd.lt (rowsOf l))
    (fun pre σ' S' => (∃ o6 o7, σ' = [some w, o, some (.lst ((isortA EncOrd.lt (rowsOf l)).map enc)), some (.int (pre.foldl mstep ⟨0, 0, none⟩).best), some (.int (pre.foldl mstep ⟨0, 0, none⟩).here), some (whenW (pre.foldl mstep ⟨0, 0, none⟩).when), o6, o7]) ∧ S' = S)
    rfl (itW_lst (by rw [List.length_map, hl]; omega)) ⟨⟨_, _, rfl⟩, rfl⟩ fun pre p rest σ1 S1 e r => by
      obtain ⟨⟨o6, o7, rfl⟩, rfl⟩ := r
      refine ⟨[some w, o, some (.lst ((isortA EncOrd.lt (rowsOf l)).map enc)), some (.int (pre.foldl mstep ⟨0, 0, none⟩).best), some (.int (pre.foldl mstep ⟨0, 0, none⟩).here), some (whenW (pre.foldl mstep ⟨0, 0, none⟩).when), some (.int p.1), some (.int p.2)], [some w, o, some (.lst ((isortA EncOrd.lt (rowsOf l)).map enc)), some (.int ((pre ++ [p]).foldl mstep ⟨0, 0, none⟩).best), some (.int ((pre ++ [p]).foldl mstep ⟨0, 0, none⟩).here), some (whenW ((pre ++ [p]).foldl mstep ⟨0, 0, none⟩).when), some (.int p.1), some (.int p.2)], _, rfl, .inl ?_, ⟨⟨_, _, rfl⟩, rfl⟩⟩
      rw [List.foldl_append]
      show _ = SR.nx [some w, o, some (.lst ((isortA EncOrd.lt (rowsOf l)).map enc)), some (.int (mstep (pre.foldl mstep ⟨0, 0, none⟩) p).best), some (.int (mstep (pre.foldl mstep ⟨0, 0, none⟩) p).here), some (whenW (mstep (pre.foldl mstep ⟨0, 0, none⟩) p).when), some (.int p.1), some (.int p.2)] S1
      generalize pre.foldl mstep ⟨0, 0, none⟩ = s
      unfold mstep
      by_cases h : s.here + p.2 > s.best
      · have h' : s.best < s.here + p.2 := h
        simp [h', sizeLine_eq, whenW]
      · have h' : ¬ s.best < s.here + p.2 := h
        simp [h', sizeLine_eq]
  obtain ⟨⟨o6, o7, rfl⟩, rfl⟩ := r
  have c2 : _ = SR.nx [some w, o, some (.lst ((isortA EncOrd.lt (rowsOf l)).map enc)), some (.int (most l).best), some (.int (most l).here), some (whenW (most l).when), o6, o7] S' := c2
  have sv : ev (run D.FT (k + 1)) (.bn .srt (.cons (.bin .add (.lc (.nm 1) (.var 0) (.lit (.bl true)) (.tup (.cons (.idx (.var 1) (.lit (.int 0))) (.cons (.lit (.int 1)) .nil))) [("span", 1)]) (.lc (.nm 1) (.var 0) (.lit (.bl true)) (.tup (.cons (.idx (.var 1) (.lit (.int 1))) (.cons (.bin .sub (.lit (.int 0)) (.lit (.int 1))) .nil))) [("span", 1)])) .nil)) [some w, o, none, none, none, none, none, none] S' = .ok (.lst ((isortA EncOrd.lt (rowsOf l)).map enc)) S' := by
    rw [ev_bn, ev_cons, ev_bin, lc1]
    simp only [bind_ok]
    rw [lc2]
    simp only [bind_ok]
    rw [ad]
    simp only [bind_ok, ev_nil, w_srtL]
    exact so
  show leave (ex (run D.FT (k + 1)) d_most_at_once.body [some w, none, none, none, none, none, none, none] S') = _
  simp only [d_most_at_once, ex_seq', c1, then_nx]
  rw [ex_set, sv]
  simp only [bs_ok, asg_nm, then_nx, List.set]
  simp [sizeLine_eq, c2]
/-! ### the greatest of a row, the place of a number -/
theorem w_max1 (x : Int) (l : List Int) (S : Sto) : biW .max1 [.lst ((x :: l).map .int)] S = .ok (.int (l.foldl max x)) S := by
  have e1 : toDs ((x :: l).map Wv.int) = some ((x :: l).map Enc.d) := toDs_enc (x :: l)
  have e2 : alikeB ((x :: l).map (Enc.d (α := Int))) = true := alikeB_enc (x :: l)
  have e3 : ((x :: l).map (Enc.d (α := Int))).any isNonD = false := by
    rw [List.any_map, List.any_eq_false]
    intro a _ h
    cases h
  have e4 := depAll (α := Int) (x :: l)
  have e5 : Enc.dp Int = 0 := rfl
  show bestW (fun a b => PySem.W.dataLt b a) ((x :: l).map Wv.int) S = _
  unfold bestW
  rw [e1]
  simp only [e2, e3, Bool.not_false, Bool.true_and]
  rw [if_pos (decide_eq_true (by omega))]
  have ez : ((x :: l).map Wv.int).zip ((x :: l).map (Enc.d (α := Int))) = (x :: l).map fun a : Int => (enc a, Enc.d a) := zip_enc (x :: l)
  rw [ez]
  show Res.ok (bestP (fun a b => PySem.W.dataLt b a) (enc x, Enc.d x) (l.map fun a : Int => (enc a, Enc.d a))).1 S = _
  rw [bestP_enc (α := Int) (fun a b => PySem.W.dataLt b a) (fun a b => EncOrd.lt b a) (fun a b => EncOrd.dlt b a)]
  have : (fun a y : Int => if EncOrd.lt a y = true then y else a) = max := by
    funext a y
    show (if decide (a < y) = true then y else a) = max a y
    by_cases h : a < y
    · rw [if_pos (decide_eq_true h)]; omega
    · rw [if_neg (by rw [decide_eq_false h]; exact Bool.false_ne_true)]; omega
  rw [this]
  rfl
theorem find_int : ∀ (ms : List Int) (m : Int) (n j : Nat), ms[j]? = some m → (∀ i, i < j → ms[i]? ≠ some m) → findW (.int m) (ms.map .int) n = some (n + j)
  | [], _, _, _, h, _ => by simp at h
  | x :: ms, m, n, 0, h, _ => by
    have h : x = m := by simpa using h
    subst h
    show (if eqW (.int x) (.int x) then some n else _) = _
    rw [if_pos (by show (x == x) = true; simp)]
    rfl
  | x :: ms, m, n, j + 1, h, hb => by
    have hx : x ≠ m := fun z => hb 0 (by omega) (by simp [z])
    show (if eqW (.int x) (.int m) then some n else findW (.int m) (ms.map .int) (n + 1)) = _
    rw [if_neg (by show ¬ (x == m) = true; simpa using hx), find_int ms m (n + 1) j (by simpa using h) fun i hi => by
      have := hb (i + 1) (by omega)
      simpa using this]
    congr 1
    omega
theorem w_idxI (ms : List Int) (m : Int) (j : Nat) (S : Sto) (h : ms[j]? = some m) (hb : ∀ i, i < j → ms[i]? ≠ some m) : mtW .idxL (.lst (ms.map .int)) [.int m] S = .ok (.int j) S := by
  show (if flatW (.int m) = true ∧ (ms.map Wv.int).all flatW = true then (match findW (.int m) (ms.map Wv.int) 0 with | some j => Res.ok (.int j) S | none => .bad) else .bad) = _
  have h2 : (ms.map Wv.int).all flatW = true := by
    rw [List.all_map, List.all_eq_true]; intro x _; rfl
  rw [if_pos ⟨rfl, h2⟩, find_int ms m 0 j h hb]
  simp
/-- the law's counts -/
def counts (l : List Sp) : List Int := (List.range 40).map fun m : Nat => (cnt l (m : Int) : Int)
theorem counts_best {l : List Sp} (ok : Oks l) (hin : ∀ p ∈ l, 0 ≤ p.1 ∧ p.2 ≤ 40) : ∃ x xs, counts l = x :: xs ∧ xs.foldl max x = (most l).best := by
  obtain ⟨b1, b2, b3⟩ := most_ok ok
  have hc : counts l = (cnt l 0 : Int) :: ((List.range' 1 39).map fun m : Nat => (cnt l (m : Int) : Int)) := by
    unfold counts
    rfl
  refine ⟨_, _, hc, foldl_max _ _ _ (fun y hy => ?_) ?_⟩
  · rw [← hc] at hy
    obtain ⟨i, _, rfl⟩ := List.mem_map.mp hy
    exact b1 _
  · rw [← hc]
    cases hw : (most l).when with
    | none =>
      rw [b2 hw]
      have h0 := b1 0
      rw [b2 hw] at h0
      exact List.mem_map.mpr ⟨0, by simp, by have : cnt l 0 = 0 := by omega
                                             simpa using this⟩
    | some t =>
      obtain ⟨c1, c2, _⟩ := b3 t hw
      have hpos : 0 < cnt l t := by omega
      have : ∃ p ∈ l, p.1 ≤ t ∧ t < p.2 := by
        unfold cnt at hpos
        obtain ⟨p, hp⟩ := List.exists_mem_of_length_pos hpos
        exact ⟨p, (List.mem_filter.mp hp).1, of_decide_eq_true (List.mem_filter.mp hp).2⟩
      obtain ⟨p, hp, p1, p2⟩ := this
      have := hin p hp
      refine List.mem_map.mpr ⟨t.toNat, by rw [List.mem_range]; omega, ?_⟩
      have e : ((t.toNat : Nat) : Int) = t := by omega
      rw [e, c2]
theorem counts_idx {l : List Sp} (ok : Oks l) (hin : ∀ p ∈ l, 0 ≤ p.1 ∧ p.2 ≤ 40) {t : Int} (hw : (most l).when = some t) : ∃ j : Nat, (j : Int) = t ∧ (counts l)[j]? = some (most l).best ∧ ∀ i, i < j → (counts l)[i]? ≠ some (most l).best := by
  obtain ⟨b1, b2, b3⟩ := most_ok ok
  obtain ⟨c1, c2, c3⟩ := b3 t hw
  have hpos : 0 < cnt l t := by omega
  have : ∃ p ∈ l, p.1 ≤ t ∧ t < p.2 := by
    unfold cnt at hpos
    obtain ⟨p, hp⟩ := List.exists_mem_of_length_pos hpos
    exact ⟨p, (List.mem_filter.mp hp).1, of_decide_eq_true (List.mem_filter.mp hp).2⟩
  obtain ⟨p, hp, p1, p2⟩ := this
  have := hin p hp
  have e : ((t.toNat : Nat) : Int) = t := by omega
  have get : ∀ i : Nat, i < 40 → (counts l)[i]? = some (cnt l (i : Int) : Int) := fun i hi => by
    unfold counts
    rw [List.getElem?_map, List.getElem?_range hi]; rfl
  refine ⟨t.toNat, e, ?_, fun i hi => ?_⟩
  · rw [get _ (by omega), e, c2]
  · rw [get _ (by omega)]
    intro z
    have := c3 (i : Int) (by omega)
    have := Option.some.inj z
    omega
end K02

end
section
set_option Elab.async false
set_option linter.all false
set_option maxRecDepth 100000
set_option maxHeartbeats 400000
/-! k02: columns_for by the evaluator. -/
namespace K02
open PySem Dy L2
open Enc (enc)
theorem lcF_at {g : Tg} {fc fe : Sl → Sto → Res} {σw σ' : Sl} {x : Wv} {S : Sto} (h : asg g x σw = some σ') : lcF g fc fe σw x S = (fc σ' S).bind fun t S => iteK t ((fe σ' S).bind fun y S => .ok (.lst [y]) S) (.ok (.lst []) S) := by
  unfold lcF
  rw [h]
theorem enumL_map {α : Type} (f : α → Wv) : ∀ (l : List α) (n : Nat), enumL (l.map f) n = (l.zipIdx n).map fun p => .tup [.int (p.2 : Int), f p.1]
  | [], _ => rfl
  | x :: l, n => by
    show Wv.tup [.int n, f x] :: enumL (l.map f) (n + 1) = _
    rw [enumL_map f l (n + 1)]
    rfl
theorem sl_take (xs : List Wv) (c : Nat) (S : Sto) : slW (.lst xs) .non (.int (c : Int)) S = .ok (.lst (xs.take c)) S := by
  show Res.ok (.lst (cutW xs none (some (c : Int)))) S = _
  have : cutW xs none (some (c : Int)) = xs.take c := by
    unfold cutW
    rw [HT.sIx_nat]
    unfold HT.sIx
    simp only [List.drop_zero, Nat.sub_zero]
    rw [List.take_eq_take_iff]
    omega
  rw [this]
theorem sl_drop (xs : List Wv) (c : Nat) (S : Sto) : slW (.lst xs) (.int (c : Int)) .non S = .ok (.lst (xs.drop c)) S := by
  show Res.ok (.lst (cutW xs (some (c : Int)) none)) S = _
  have : cutW xs (some (c : Int)) none = xs.drop c := by
    unfold cutW
    rw [HT.sIx_nat]
    have e : HT.sIx xs.length xs.length none = xs.length := rfl
    rw [e, List.take_of_length_le (by rw [List.length_drop]; omega)]
    by_cases h : c ≤ xs.length
    · rw [Nat.min_eq_left h]
    · rw [Nat.min_eq_right (by omega), List.drop_of_length_le (by omega), List.drop_of_length_le (by omega)]
  rw [this]
/-! ### the free columns -/
def ableK (ends : List Int) (k : Nat) (b : Int) : List Int := (ends.zipIdx k).flatMap fun p => if p.1 ≤ b then [(p.2 : Int)] else []
theorem able_head : ∀ (ends : List Int) (k : Nat) (b : Int), (colAt ends b < ends.length ∧ ∃ r, ableK ends k b = ((k + colAt ends b : Nat) : Int) :: r) ∨ (colAt ends b = ends.length ∧ ableK ends k b = [])
  | [], k, b => .inr ⟨rfl, rfl⟩
  | x :: ends, k, b => by
    have e : ableK (x :: ends) k b = (if x ≤ b then [(k : Int)] else []) ++ ableK ends (k + 1) b := rfl
    have ec : colAt (x :: ends) b = if x ≤ b then 0 else colAt ends b + 1 := by
      unfold colAt
      rw [List.findIdx_cons]
      by_cases h : x ≤ b <;> simp [h]
    rw [e, ec]
    by_cases h : x ≤ b
    · rw [if_pos h, if_pos h]
      exact .inl ⟨by simp, _, rfl⟩
    · rw [if_neg h, if_neg h]
      rcases able_head ends (k + 1) b with ⟨h1, r, h2⟩ | ⟨h1, h2⟩
      · refine .inl ⟨by simp only [List.length_cons]; omega, r, ?_⟩
        rw [h2, List.nil_append]
        congr 2
        omega
      · exact .inr ⟨by simp only [List.length_cons]; omega, by rw [h2]; rfl⟩
/-- the list of the free columns, as it is built -/
theorem ev_able {cl : Clr} {σ : Sl} {S : Sto} {j e i b : Nat} {n1 n2 : Str} {ends : List Int} {bg : Int} (hz : ends.length ≤ 10000) (hi : σ[i]? = some (some (.lst (ends.map .int)))) (hb : σ[b]? = some (some (.int bg))) (hje : j ≠ e) (hjb : j ≠ b) (heb : e ≠ b) (hj : j < σ.length) (he : e < σ.length) :
    ev cl (.lc (.tup (.cons (.nm j) (.cons (.nm e) .nil))) (.enum (.var i)) (.cmp .le (.var e) (.var b)) (.var j) [(n1, j), (n2, e)]) σ S = .ok (.lst ((ableK ends 0 bg).map .int)) S := by
  have hen : ev cl (.enum (.var i)) σ S = .ok (.lst (ends.zipIdx.map fun p => .tup [.int (p.2 : Int), .int p.1])) S := by
    rw [ev_enum, ev_v hi]
    show Res.ok (.lst (enumL (ends.map .int) 0)) S = _
    rw [enumL_map]
  rw [lc_map (fun p : Int × Nat => Wv.tup [.int (p.2 : Int), .int p.1]) ends.zipIdx hen (itW_lst (by simp; omega)) (fun p => if p.1 ≤ bg then [.int (p.2 : Int)] else []) fun p hp => ?_]
  · unfold ableK
    rw [List.map_flatMap]
    congr 2
    congr 1
    funext p
    split <;> rfl
  · have g1 : ((((σ.set e none).set j none).set j (some (.int (p.2 : Int)))).set e (some (.int p.1)))[e]? = some (some (.int p.1)) := by
      rw [List.getElem?_set_self]; simpa using he
    have g2 : ((((σ.set e none).set j none).set j (some (.int (p.2 : Int)))).set e (some (.int p.1)))[b]? = some (some (.int bg)) := by
      rw [List.getElem?_set_ne heb, List.getElem?_set_ne hjb, List.getElem?_set_ne hjb, List.getElem?_set_ne heb, hb]
    have g3 : ((((σ.set e none).set j none).set j (some (.int (p.2 : Int)))).set e (some (.int p.1)))[j]? = some (some (.int (p.2 : Int))) := by
      rw [List.getElem?_set_ne (Ne.symm hje), List.getElem?_set_self]; simpa using hj
    have ea : asg (.tup (.cons (.nm j) (.cons (.nm e) .nil))) (.tup [.int (p.2 : Int), .int p.1]) (wipeW σ [j, e]) = some ((((σ.set e none).set j none).set j (some (.int (p.2 : Int)))).set e (some (.int p.1))) := rfl
    show lcF (.tup (.cons (.nm j) (.cons (.nm e) .nil))) (ev cl (.cmp .le (.var e) (.var b))) (ev cl (.var j)) (wipeW σ [j, e]) (.tup [.int (p.2 : Int), .int p.1]) S = _
    rw [lcF_at ea]
    simp only [ev_cmp, ev_v g1, ev_v g2, ev_v g3, bind_ok, w_le, iteK_bl]
    by_cases h : p.1 ≤ bg <;> simp [h]
def kvE (q : Sp) : Key × Wv := (.inl q.1, .int q.2)
theorem put_new {as : List Sp} {pl c : Int} (h : pl ∉ as.map (·.1)) : putW (as.map kvE) (.inl pl) (.int c) = (as ++ [(pl, c)]).map kvE := by
  unfold putW
  have : ((as.map kvE).any fun kv => decide (kv.1 = Sum.inl pl)) = false := by
    rw [List.any_map, List.any_eq_false]
    intro q hq z
    have z := of_decide_eq_true z
    have : q.1 = pl := Sum.inl.inj z
    exact h (List.mem_map.mpr ⟨q, hq, this⟩)
  rw [if_neg (by rw [this]; exact Bool.false_ne_true), List.map_append]
  rfl
theorem val_at (as : List Sp) (pl : Int) : valW (as.map kvE) (.inl pl) = (as.find? fun q => decide (q.1 = pl)).map fun q => Wv.int q.2 := by
  unfold valW
  rw [List.find?_map]
  have : ((fun p : Key × Wv => decide (p.1 = Sum.inl pl)) ∘ kvE) = fun q : Sp => decide (q.1 = pl) := by
    funext q
    show decide ((Sum.inl q.1 : Key) = Sum.inl pl) = _
    simp
  rw [this]
  cases as.find? (fun q => decide (q.1 = pl)) <;> rfl
/-! ### columns_for -/
theorem rowsC_nodup (l : List Sp) : ((rowsC l).map (·.2)).Nodup := by
  have h1 := (sort_perm (l.zipIdx.map fun p => ((p.1.1, (p.2 : Int)) : Sp))).map (·.2)
  refine h1.nodup_iff.mpr ?_
  rw [List.map_map]
  have : l.zipIdx.map ((fun x : Sp => x.2) ∘ fun p => ((p.1.1, (p.2 : Int)) : Sp)) = (l.zipIdx.map (·.2)).map fun i : Nat => (i : Int) := by rw [List.map_map]; rfl
  rw [this, List.zipIdx_map_snd, ← List.range_eq_range']
  unfold List.Nodup
  rw [List.pairwise_map]
  exact List.pairwise_lt_range.imp fun {a b} h => by omega
theorem ends_len (l : List Sp) : ∀ (rows : List Sp) (s : CS), (rows.foldl (cstep l) s).ends.length ≤ s.ends.length + rows.length
  | [], s => by simp
  | r :: rows, s => by
    have h1 := ends_len l rows (cstep l s r)
    have h2 : (cstep l s r).ends.length ≤ s.ends.length + 1 := by
      show (putAt s.ends (colAt s.ends r.1) _).length ≤ _
      unfold putAt
      simp
      omega
    simp only [List.foldl_cons, List.length_cons]
    omega
theorem as_keys (l : List Sp) : ∀ (rows : List Sp) (s : CS), (rows.foldl (cstep l) s).as.map (·.1) = s.as.map (·.1) ++ rows.map (·.2)
  | [], s => by simp
  | r :: rows, s => by
    rw [List.foldl_cons, as_keys l rows]
    show (s.as ++ [(r.2, (colAt s.ends r.1 : Int))]).map (fun q : Sp => q.1) ++ _ = _
    simp
end K02

end
section
set_option Elab.async false
set_option linter.all false
set_option maxRecDepth 100000
set_option maxHeartbeats 400000
/-! k02: columns_for by the evaluator, whole. -/
namespace K02
open PySem Dy L2
open Enc (enc)
theorem ft_columns : D.FT "columns_for" = some d_columns_for := by rfl
def colB : Sm := (.seq (.set (.nm 6) (.lc (.tup (.cons (.nm 7) (.cons (.nm 8) .nil))) (.enum (.var 3)) (.cmp .le (.var 8) (.var 4)) (.var 7) [("column", 7), ("end", 8)]))
    (.seq (.set (.nm 7) (.ite (.cmp .ne (.var 6) (.lst .nil)) (.idx (.var 6) (.lit (.int 0))) (.bi .len (.cons (.var 3) .nil))))
    (.seq (.set (.nm 3) (.bin .add (.bin .add (.sl (.var 3) (.lit .non) (.var 7)) (.lst (.cons (.idx (.idx (.var 0) (.var 5)) (.lit (.int 1))) .nil))) (.sl (.var 3) (.bin .add (.var 7) (.lit (.int 1))) (.lit .non))))
    (.seq (.setIx (.var 2) (.var 5) (.var 7))
    .nil))))
theorem at_nat {l : List Sp} {i : Nat} {p : Sp} (h : l[i]? = some p) : atI (l.map enc) (i : Int) = some (.tup [.int p.1, .int p.2]) := by
  rw [Dy.atI_nat, List.getElem?_map, h]; rfl
theorem col_turn (k : Nat) (S : Sto) {l : List Sp} (hz : l.length ≤ 9000) {s : CS} (hn : s.ends.length ≤ 9000) (ha : s.as.length ≤ 9000) {r : Sp} (hr : r ∈ rowsC l) (hk : r.2 ∉ s.as.map (·.1)) (o1 o6 o7 o8 : Option Wv) :
    ∃ o6' o7', ex (run D.FT k) colB [some (.lst (l.map enc)), o1, some (.ref S.length), some (.lst (s.ends.map .int)), some (.int r.1), some (.int r.2), o6, o7, o8] (S ++ [.dct (s.as.map kvE)]) =
      .nx [some (.lst (l.map enc)), o1, some (.ref S.length), some (.lst ((cstep l s r).ends.map .int)), some (.int r.1), some (.int r.2), o6', o7', o8] (S ++ [.dct ((cstep l s r).as.map kvE)]) := by
  have z := sizeLine_eq
  obtain ⟨i, hi, e2, p, hp, _, ep⟩ := rowsC_mem hr
  have ab := ev_able (cl := run D.FT k) (σ := [some (.lst (l.map enc)), o1, some (.ref S.length), some (.lst (s.ends.map .int)), some (.int r.1), some (.int r.2), o6, o7, o8]) (S := S ++ [.dct (s.as.map kvE)]) (j := 7) (e := 8) (i := 3) (b := 4) (n1 := "column") (n2 := "end") (ends := s.ends) (bg := r.1) (by omega) rfl rfl (by decide) (by decide) (by decide) (by simp) (by simp)
  have hat := at_nat hp
  rw [← e2] at hat
  generalize hc : colAt s.ends r.1 = c
  have col : ∀ (o6 : List Int), o6 = ableK s.ends 0 r.1 → ev (run D.FT k) (.ite (.cmp .ne (.var 6) (.lst .nil)) (.idx (.var 6) (.lit (.int 0))) (.bi .len (.cons (.var 3) .nil))) [some (.lst (l.map enc)), o1, some (.ref S.length), some (.lst (s.ends.map .int)), some (.int r.1), some (.int r.2), some (.lst (o6.map .int)), o7, o8] (S ++ [.dct (s.as.map kvE)]) = .ok (.int (c : Int)) (S ++ [.dct (s.as.map kvE)]) := by
    rintro o6 rfl
    rcases able_head s.ends 0 r.1 with ⟨h1, rr, h2⟩ | ⟨h1, h2⟩
    · rw [h2, Nat.zero_add, hc]
      have e0 := eq_lst0 ((c : Int) :: rr)
      rw [decide_eq_false (by simp)] at e0
      have e0 : eqD (.lst (((c : Int) :: rr).map Wv.int)) (.lst []) = some false := e0
      simp only [List.map_cons] at e0 ⊢
      simp [e0, sizeLine_eq]
    · rw [h2]
      have : (s.ends.length : Int) = (c : Int) := by rw [← hc, h1]
      simp [sizeLine_eq, this]
  have t1 := sl_take (s.ends.map .int) c (S ++ [.dct (s.as.map kvE)])
  have t2 := sl_drop (s.ends.map .int) (c + 1) (S ++ [.dct (s.as.map kvE)])
  have a1 := w_addL ((s.ends.map Wv.int).take c) [.int p.2] (S ++ [.dct (s.as.map kvE)]) (by simp; omega)
  have a2 := w_addL ((s.ends.map Wv.int).take c ++ [.int p.2]) ((s.ends.map Wv.int).drop (c + 1)) (S ++ [.dct (s.as.map kvE)]) (by simp; omega)
  have sk := setKey_end S (s.as.map kvE) r.2 (.int (c : Int)) (by simp; omega)
  rw [put_new hk] at sk
  have en : (cstep l s r).ends.map Wv.int = (s.ends.map Wv.int).take c ++ [.int p.2] ++ (s.ends.map Wv.int).drop (c + 1) := by
    show (putAt s.ends (colAt s.ends r.1) (endOf l r.2)).map Wv.int = _
    rw [hc, ep]
    unfold putAt
    simp
  have ea : (cstep l s r).as.map kvE = (s.as ++ [(r.2, (c : Int))]).map kvE := by
    show (s.as ++ [(r.2, (colAt s.ends r.1 : Int))]).map kvE = _
    rw [hc]
  rw [en, ea]
  refine ⟨some (.lst ((ableK s.ends 0 r.1).map .int)), some (.int (c : Int)), ?_⟩
  unfold colB
  rw [ex_seq', ex_set, ab]
  simp only [bs_ok, asg_nm, then_nx, List.set]
  rw [ex_seq', ex_set, col _ rfl]
  simp only [bs_ok, asg_nm, then_nx, List.set]
  have e1 : ((c : Int) + 1) = ((c + 1 : Nat) : Int) := by omega
  rw [← e1] at t2
  rw [ex_seq', ex_set]
  have sv : ev (run D.FT k) (.bin .add (.bin .add (.sl (.var 3) (.lit .non) (.var 7)) (.lst (.cons (.idx (.idx (.var 0) (.var 5)) (.lit (.int 1))) .nil))) (.sl (.var 3) (.bin .add (.var 7) (.lit (.int 1))) (.lit .non))) [some (.lst (l.map enc)), o1, some (.ref S.length), some (.lst (s.ends.map .int)), some (.int r.1), some (.int r.2), some (.lst ((ableK s.ends 0 r.1).map .int)), some (.int (c : Int)), o8] (S ++ [.dct (s.as.map kvE)]) = .ok (.lst ((s.ends.map Wv.int).take c ++ [.int p.2] ++ (s.ends.map Wv.int).drop (c + 1))) (S ++ [.dct (s.as.map kvE)]) := by
    generalize s.ends.map Wv.int = EE at t1 t2 a1 a2 ⊢
    generalize l.map enc = LL at hat ⊢
    simp [intO, noB, t1, t2, hat, sizeLine_eq, a1]
    rw [List.append_assoc] at a2
    simpa using a2
  rw [sv]
  simp only [bs_ok, asg_nm, then_nx, List.set]
  simp [sk]
end K02

end
section
set_option Elab.async false
set_option linter.all false
set_option maxRecDepth 100000
set_option maxHeartbeats 400000
/-! k02: columns_for, the law's own columns. -/
namespace K02
open PySem Dy L2
open Enc (enc)
/-- the rows that are sorted -/
theorem ev_rowsC {cl : Clr} {σ : Sl} {S : Sto} {l : List Sp} (hz : l.length ≤ 9000) {e : E} (h : ev cl e σ S = .ok (.lst ((l.zipIdx.map fun p => ((p.1.1, (p.2 : Int)) : Sp)).map enc)) S) : sortW ((l.zipIdx.map fun p => ((p.1.1, (p.2 : Int)) : Sp)).map enc) S = .ok (.lst ((rowsC l).map enc)) S := sort_enc _ S (by decide)
theorem rowsC_len (l : List Sp) : (rowsC l).length = l.length := by
  unfold rowsC
  rw [(sort_perm _).length_eq]; simp
theorem ev_enumL {cl : Clr} {σ : Sl} {S : Sto} {i : Nat} {l : List Sp} (hi : σ[i]? = some (some (.lst (l.map enc)))) : ev cl (.enum (.var i)) σ S = .ok (.lst (l.zipIdx.map fun p : Sp × Nat => .tup [.int (p.2 : Int), enc p.1])) S := by
  rw [ev_enum, ev_v hi]
  show Res.ok (.lst (enumL (l.map enc) 0)) S = _
  rw [enumL_map]
theorem zip_flat (l : List Sp) : (l.zipIdx.flatMap fun p : Sp × Nat => [enc ((p.1.1, (p.2 : Int)) : Sp)]) = (l.zipIdx.map fun p => ((p.1.1, (p.2 : Int)) : Sp)).map enc := by
  rw [flat_one, List.map_map]; rfl
theorem gather (as : List Sp) (l : List Sp) (ok : ∀ i, i < l.length → ∃ q ∈ as, q.1 = (i : Int) ∧ as.find? (fun q => decide (q.1 = (i : Int))) = some q) (i : Nat) (hi : i < l.length) (S : Sto) (n : Nat) (hS : rd S (.ref n) = .dct (as.map kvE)) : idxW (.ref n) (.int (0 + (i : Int))) S = .ok (.int (colOf as (i : Int))) S := by
  obtain ⟨q, _, _, hq⟩ := ok i hi
  have hv := val_at as (i : Int)
  rw [hq] at hv
  have e : idxW (.ref n) (.int (0 + (i : Int))) S = (match rd S (.ref n), Wv.int (0 + (i : Int)) with
    | .dct kvs, w => (match keyW w with | some k => (match valW kvs k with | some v => Res.ok v S | none => .bad) | none => .bad)
    | .lst xs, .int i => (match atI xs i with | some w => .ok w S | none => .bad)
    | .tup xs, .int i => (match atI xs i with | some w => .ok w S | none => .bad)
    | .str z, .int i => if z.length ≤ sizeLine then (match atI z.cps.toList i with | some c => .ok (.str ⟨#[c]⟩) S | none => .bad) else .bad
    | _, _ => .bad) := rfl
  rw [e, hS]
  have e0 : (0 + (i : Int)) = (i : Int) := by omega
  rw [e0]
  show (match valW (as.map kvE) (.inl (i : Int)) with | some v => Res.ok v S | none => .bad) = _
  rw [hv]
  unfold colOf
  rw [hq]
  rfl
theorem gn_columns (k : Nat) (S : Sto) {l : List Sp} (hz : l.length ≤ 9000) (o : Option Wv) : ev (run D.FT (k + 1)) (.gn .srt (.tup (.cons (.nm 5) (.cons (.nm 1) .nil))) (.enum (.var 0)) (.lit (.bl true)) (.tup (.cons (.idx (.var 1) (.lit (.int 0))) (.cons (.var 5) .nil))) [("place", 5), ("span", 1)]) [some (.lst (l.map enc)), o, some (.ref S.length), some (.lst []), none, none, none, none, none] (S ++ [.dct []]) = .ok (.lst ((rowsC l).map enc)) (S ++ [.dct []]) := by
  have z := sizeLine_eq
  rw [gn_map .srt (fun p : Sp × Nat => Wv.tup [.int (p.2 : Int), enc p.1]) l.zipIdx (ev_enumL rfl) (itW_lst (by simp; omega)) (fun p : Sp × Nat => [enc ((p.1.1, (p.2 : Int)) : Sp)]) fun p hp => by simp [lcF, wipeW, enc_sp, sizeLine_eq]]
  simp only []
  rw [zip_flat]
  exact sort_enc _ _ (by decide)
theorem rng1_ok {j : Int} {S : Sto} (h1 : 0 ≤ j) (h2 : j ≤ 1000000000) : rng1W (.int j) S = .ok (.lst ((List.range j.toNat).map fun i : Nat => .int (0 + (i : Int)))) S := by
  show (if -(2 ^ 62) ≤ j ∧ j < 2 ^ 62 then Res.ok (.lst ((List.range j.toNat).map fun i : Nat => .int (0 + (i : Int)))) S else .bad) = _
  exact if_pos ⟨by omega, by omega⟩
theorem rng_columns {cl : Clr} {σ : Sl} {S : Sto} {i : Nat} {ws : List Wv} (hz : ws.length ≤ 9000) (hi : σ[i]? = some (some (.lst ws))) : ev cl (.rng1 (.bi .len (.cons (.var i) .nil))) σ S = .ok (.lst ((List.range ws.length).map fun i : Nat => .int (0 + (i : Int)))) S := by
  rw [ev_rng1]
  have : ev cl (.bi .len (.cons (.var i) .nil)) σ S = .ok (.int (ws.length : Int)) S := by
    rw [ev_bi, ev_cons, ev_v hi]
    rfl
  rw [this]
  have h := rng1_ok (j := (ws.length : Int)) (S := S) (by omega) (by omega)
  rw [Int.toNat_natCast] at h
  rw [bind_ok]
  exact h
theorem gx_columns (k : Nat) (S : Sto) {l : List Sp} (ok : Oks l) (hz : l.length ≤ 9000) (o o4 o5 o6 o7 : Option Wv) : ev (run D.FT (k + 1)) (.gx .tup (.nm 5) (.rng1 (.bi .len (.cons (.var 0) .nil))) (.lit (.bl true)) (.idx (.var 2) (.var 5)) [("place", 5)]) [some (.lst (l.map enc)), o, some (.ref S.length), some (.lst ((cols l).ends.map .int)), o4, o5, o6, o7, none] (S ++ [.dct ((cols l).as.map kvE)]) = .ok (.tup ((columnsL l).map .int)) (S ++ [.dct ((cols l).as.map kvE)]) := by
  have z := sizeLine_eq
  have ga := gather (cols l).as l (fun i hi => find_at ok hi)
  have hr : ev (run D.FT (k + 1)) (.rng1 (.bi .len (.cons (.var 0) .nil))) [some (.lst (l.map enc)), o, some (.ref S.length), some (.lst ((cols l).ends.map .int)), o4, o5, o6, o7, none] (S ++ [.dct ((cols l).as.map kvE)]) = .ok (.lst ((List.range l.length).map fun i : Nat => .int (0 + (i : Int)))) (S ++ [.dct ((cols l).as.map kvE)]) := by
    have h := rng_columns (cl := run D.FT (k + 1)) (σ := [some (.lst (l.map enc)), o, some (.ref S.length), some (.lst ((cols l).ends.map .int)), o4, o5, o6, o7, none]) (S := S ++ [.dct ((cols l).as.map kvE)]) (i := 0) (ws := l.map enc) (by rw [List.length_map]; exact hz) rfl
    rw [List.length_map] at h
    exact h
  rw [gx_map .tup (fun i : Nat => Wv.int (0 + (i : Int))) (List.range l.length) hr (itW_lst (by simp; omega)) (fun i : Nat => [.int (colOf (cols l).as (i : Int))]) (.inl rfl) fun i hi => by
    have g := ga i (List.mem_range.mp hi) (S ++ [.dct ((cols l).as.map kvE)]) S.length (rd_endD S _)
    rw [show (0 + (i : Int)) = (i : Int) by omega] at g
    simp [lcF, wipeW, g]]
  simp only []
  rw [flat_one]
  unfold columnsL
  rw [List.map_map]
  rfl
theorem loop_columns (k : Nat) (S : Sto) {l : List Sp} (hz : l.length ≤ 9000) (o : Option Wv) : ∃ o4 o5 o6 o7, ex (run D.FT (k + 1)) (.forr (.tup (.cons (.nm 4) (.cons (.nm 5) .nil))) (.gn .srt (.tup (.cons (.nm 5) (.cons (.nm 1) .nil))) (.enum (.var 0)) (.lit (.bl true)) (.tup (.cons (.idx (.var 1) (.lit (.int 0))) (.cons (.var 5) .nil))) [("place", 5), ("span", 1)]) colB) [some (.lst (l.map enc)), o, some (.ref S.length), some (.lst []), none, none, none, none, none] (S ++ [.dct []]) = .nx [some (.lst (l.map enc)), o, some (.ref S.length), some (.lst ((cols l).ends.map .int)), o4, o5, o6, o7, none] (S ++ [.dct ((cols l).as.map kvE)]) := by
  have gn := gn_columns k S hz o
  obtain ⟨σ', S', c2, r⟩ := for_pre (cl := run D.FT (k + 1)) (g := .tup (.cons (.nm 4) (.cons (.nm 5) .nil))) (e := .gn .srt (.tup (.cons (.nm 5) (.cons (.nm 1) .nil))) (.enum (.var 0)) (.lit (.bl true)) (.tup (.cons (.idx (.var 1) (.lit (.int 0))) (.cons (.var 5) .nil))) [("place", 5), ("span", 1)]) (b := colB) (σ := [some (.lst (l.map enc)), o, some (.ref S.length), some (.lst []), none, none, none, none, none]) (S := S ++ [.dct []]) enc (rowsC l)
    (fun pre σ' S' => (∃ o4 o5 o6 o7, σ' = [some (.lst (l.map enc)), o, some (.ref S.length), some (.lst ((pre.foldl (cstep l) ⟨[], []⟩).ends.map .int)), o4, o5, o6, o7, none]) ∧ S' = S ++ [.dct ((pre.foldl (cstep l) ⟨[], []⟩).as.map kvE)])
    gn (itW_lst (by rw [List.length_map, rowsC_len]; omega)) ⟨⟨_, _, _, _, rfl⟩, rfl⟩ fun pre p rest σ1 S1 e r => by
      obtain ⟨⟨o4, o5, o6, o7, rfl⟩, rfl⟩ := r
      have hlen := congrArg List.length e
      simp only [List.length_append, List.length_cons, rowsC_len] at hlen
      have h1 := ends_len l pre ⟨[], []⟩
      have h2 := as_keys l pre ⟨[], []⟩
      have h3 : (pre.foldl (cstep l) ⟨[], []⟩).as.length = pre.length := by
        have := congrArg List.length h2
        simpa using this
      simp only [List.length_nil, List.map_nil, List.nil_append] at h1 h2
      obtain ⟨o6', o7', ct⟩ := col_turn (k + 1) S (l := l) (s := pre.foldl (cstep l) ⟨[], []⟩) hz (by omega) (by omega) (r := p) (by rw [e]; simp) (by
        rw [h2]
        have nd := rowsC_nodup l
        rw [e, List.map_append, List.map_cons] at nd
        intro z
        exact (List.nodup_append.mp nd).2.2 _ z _ (by simp) rfl) o o6 o7 none
      refine ⟨[some (.lst (l.map enc)), o, some (.ref S.length), some (.lst ((pre.foldl (cstep l) ⟨[], []⟩).ends.map .int)), some (.int p.1), some (.int p.2), o6, o7, none], _, _, rfl, .inl ct, ⟨⟨some (.int p.1), some (.int p.2), o6', o7', by rw [List.foldl_append]; rfl⟩, by rw [List.foldl_append]; rfl⟩⟩
  obtain ⟨⟨o4, o5, o6, o7, rfl⟩, rfl⟩ := r
  exact ⟨o4, o5, o6, o7, c2⟩
theorem seq4 {cl : Clr} {A B C : Sm} {e : E} {σ σ1 σ2 σ3 : Sl} {S S1 S2 S3 S4 : Sto} {w : Wv} (hA : ex cl A σ S = .nx σ1 S1) (hB : ex cl B σ1 S1 = .nx σ2 S2) (hC : ex cl C σ2 S2 = .nx σ3 S3) (hR : ev cl e σ3 S3 = .ok w S4) : leave (ex cl (.seq A (.seq B (.seq C (.seq (.ret e) .nil)))) σ S) = .ok w S4 := by
  rw [ex_seq', hA, then_nx, ex_seq', hB, then_nx, ex_seq', hC, then_nx, ex_seq', ex_ret, hR]
  rfl
theorem r_columns (k : Nat) (S : Sto) {l : List Sp} (ok : Oks l) (hz : l.length ≤ 9000) : run D.FT (k + 2) "columns_for" [.lst (l.map enc)] S = .ok (.tup ((columnsL l).map .int)) S := by
  rw [run_cut' ft_columns rfl rfl]
  have z := sizeLine_eq
  have hw : itW (.lst (l.map enc)) = some (l.map enc) := itW_lst (by simp; omega)
  obtain ⟨o, c1⟩ := checks k S (σ := [some (.lst (l.map enc)), none, none, none, none, none, none, none, none]) (w := .lst (l.map enc)) (i := 0) (j := 1) hw ok (by decide) (by simp) rfl
  simp only [List.set] at c1
  obtain ⟨o4, o5, o6, o7, c2⟩ := loop_columns k S hz o
  have gx := gx_columns k S ok hz o o4 o5 o6 o7
  have hbody : leave (ex (run D.FT (k + 1)) d_columns_for.body (startW d_columns_for.ns [.lst (l.map enc)]) S) = .ok (.tup ((columnsL l).map .int)) (S ++ [.dct ((cols l).as.map kvE)]) := by
    have cB : ex (run D.FT (k + 1)) (.set (.tup (.cons (.nm 2) (.cons (.nm 3) .nil))) (.tup (.cons (.obj (.dd .nil)) (.cons (.lst .nil) .nil)))) [some (.lst (l.map enc)), o, none, none, none, none, none, none, none] S = .nx [some (.lst (l.map enc)), o, some (.ref S.length), some (.lst []), none, none, none, none, none] (S ++ [.dct []]) := by
      simp [sizeLine_eq]
    exact seq4 c1 cB c2 gx
  rw [hbody]
  exact cut_row (columnsL l) S _
end K02

end
section
set_option Elab.async false
set_option linter.all false
set_option maxRecDepth 100000
set_option maxHeartbeats 400000
/-! k02: span_days by the evaluator. -/
namespace K02
open PySem Dy L2
open Enc (enc)
theorem ft_days : D.FT "span_days" = some d_span_days := by rfl
def dayT (p : Sp) (d : Int) : T3 Int Int Int := ⟨d, max 0 (p.1 - 1440 * d), min 1440 (p.2 - 1440 * d)⟩
def daysL (p : Sp) : List (T3 Int Int Int) := (List.range ((p.2 - 1) / 1440 + 1 - p.1 / 1440).toNat).map fun i : Nat => dayT p (p.1 / 1440 + (i : Int))
theorem enc_t3 (a b c : Int) : enc (⟨a, b, c⟩ : T3 Int Int Int) = .tup [.int a, .int b, .int c] := rfl
theorem r_days (k : Nat) (S : Sto) (p : Sp) (h : p.1 < p.2) (h0 : 0 ≤ p.1) (h1 : p.2 ≤ 10000) : run D.FT (k + 2) "span_days" [enc p] S = .ok (.tup ((daysL p).map enc)) S := by
  rw [run_cut' ft_days rfl rfl]
  have z := sizeLine_eq
  have c := r_check k S p h
  rw [enc_sp] at c
  have hlast : ¬ 400 ≤ (p.2 - 1) / 1440 - p.1 / 1440 := by omega
  obtain ⟨σ', S', c2, r⟩ := for_rng2 (cl := run D.FT (k + 1)) (g := .nm 4) (a := .var 1) (b := .bin .add (.var 2) (.lit (.int 1))) (body := .seq (.expr (.mt .app (.var 3) (.cons (.tup (.cons (.var 4) (.cons (.bi .max2 (.cons (.lit (.int 0)) (.cons (.bin .sub (.idx (.var 0) (.lit (.int 0))) (.bin .mul (.lit (.int 1440)) (.var 4))) .nil))) (.cons (.bi .min2 (.cons (.lit (.int 1440)) (.cons (.bin .sub (.idx (.var 0) (.lit (.int 1))) (.bin .mul (.lit (.int 1440)) (.var 4))) .nil))) .nil)))) .nil)))
    .nil) (σ := [some (.tup [.int p.1, .int p.2]), some (.int (p.1 / 1440)), some (.int ((p.2 - 1) / 1440)), some (.ref S.length), none]) (S := S ++ [.lst []]) (lo := p.1 / 1440) (hi := (p.2 - 1) / 1440 + 1) rfl (by simp) (by omega) (by omega) (by omega)
    (fun i σ T => (∃ o, σ = [some (.tup [.int p.1, .int p.2]), some (.int (p.1 / 1440)), some (.int ((p.2 - 1) / 1440)), some (.ref S.length), o]) ∧ T = S ++ [.lst (((List.range i).map fun i : Nat => dayT p (p.1 / 1440 + (i : Int))).map enc)])
    ⟨⟨none, rfl⟩, rfl⟩ fun i σ T hi r => by
      obtain ⟨⟨o, rfl⟩, rfl⟩ := r
      refine ⟨[some (.tup [.int p.1, .int p.2]), some (.int (p.1 / 1440)), some (.int ((p.2 - 1) / 1440)), some (.ref S.length), some (.int (p.1 / 1440 + (i : Nat)))], [some (.tup [.int p.1, .int p.2]), some (.int (p.1 / 1440)), some (.int ((p.2 - 1) / 1440)), some (.ref S.length), some (.int (p.1 / 1440 + (i : Nat)))], S ++ [.lst (((List.range (i + 1)).map fun i : Nat => dayT p (p.1 / 1440 + (i : Int))).map enc)], rfl, .inl ?_, ⟨_, rfl⟩, rfl⟩
      have hlen : (((List.range i).map fun i : Nat => dayT p (p.1 / 1440 + (i : Int))).map enc).length < 16777216 := by simp; omega
      rw [List.range_succ, List.map_append, List.map_append]
      generalize ((List.range i).map fun i : Nat => dayT p (p.1 / 1440 + (i : Int))).map enc = F at hlen ⊢
      have ap := app_end S F (enc (dayT p (p.1 / 1440 + (i : Int)))) hlen
      have im := isMt_end S F
      unfold dayT at ap ⊢
      rw [enc_t3] at ap
      have m := w_mul (S := S ++ [SO.lst F]) 1440 (p.1 / 1440 + (i : Int)) (cm_l (i := 1440) (by omega))
      simp [m, im, ap, sizeLine_eq, enc_t3]
  obtain ⟨⟨o, rfl⟩, rfl⟩ := r
  have hb : biW .tup1 [.ref S.length] (S ++ [.lst ((daysL p).map enc)]) = .ok (.tup ((daysL p).map enc)) (S ++ [.lst ((daysL p).map enc)]) := w_tup1R (rd_end S _)
  have c2 : _ = SR.nx _ (S ++ [SO.lst ((daysL p).map enc)]) := c2
  have hbody : leave (ex (run D.FT (k + 1)) d_span_days.body (startW d_span_days.ns [enc p]) S) = .ok (.tup ((daysL p).map enc)) (S ++ [.lst ((daysL p).map enc)]) := by
    simp [d_span_days, enc_sp, startW, sizeLine_eq, c, w_fdiv, hlast, c2, hb]
  rw [hbody]
  exact cut_row (daysL p) S _
end K02

end
section
set_option Elab.async false
set_option linter.all false
set_option maxRecDepth 100000
set_option maxHeartbeats 400000
/-! k02: span_parts by the evaluator. -/
namespace K02
open PySem Dy L2
open Enc (enc)
theorem ft_parts : D.FT "span_parts" = some d_span_parts := by rfl
/-- where the parts begin -/
def begs (p : Sp) (c : Int) : List Int := (List.range (Builtin.Range.rangeSize p.1 p.2 c).toNat).map fun i : Nat => p.1 + (i : Int) * c
def partsL (p : Sp) (c : Int) : List Sp := (begs p c).map fun b => (b, min (b + c) p.2)
theorem rng3_ok {a b c : Int} (S : Sto) (ha : 0 ≤ a ∧ a ≤ 100) (hb : 0 ≤ b ∧ b ≤ 100) (hc : 1 ≤ c ∧ c ≤ 10) (h : a < b) : rng3W (.int a) (.int b) (.int c) S = .ok (.lst ((begs (a, b) c).map .int)) S ∧ (begs (a, b) c).length ≤ 1000 := by
  have hsz : Builtin.Range.rangeSize a b c = (b - a - 1) / c + 1 := by
    unfold Builtin.Range.rangeSize
    rw [if_pos (by omega), if_pos h]
  have hd : 0 ≤ (b - a - 1) / c := Int.ediv_nonneg (by omega) (by omega)
  have hd2 : (b - a - 1) / c ≤ b - a - 1 := Int.ediv_le_self _ (by omega)
  have fit : ∀ i : Int, -1000 ≤ i → i ≤ 1000 → Builtin.Range.rangeFitsLong i = true := fun i h1 h2 => by
    unfold Builtin.Range.rangeFitsLong
    simp only [Bool.and_eq_true, decide_eq_true_eq]
    omega
  have hsm : Builtin.Range.small a b c = true := by
    unfold Builtin.Range.small
    rw [if_pos (by omega), hsz, fit a (by omega) (by omega), fit b (by omega) (by omega), fit c (by omega) (by omega), fit _ (by omega) (by omega), fit _ (by omega) (by omega)]
    simp
  refine ⟨?_, by unfold begs; rw [List.length_map, List.length_range]; simp only []; omega⟩
  show (if c ≠ 0 ∧ c.natAbs < 1073741824 ∧ Builtin.Range.small a b c = true ∧ 0 ≤ Builtin.Range.rangeSize a b c then Res.ok (.lst ((List.range (Builtin.Range.rangeSize a b c).toNat).map fun k : Nat => .int (a + (k : Int) * c))) S else .bad) = _
  rw [if_pos ⟨by omega, by omega, hsm, by omega⟩]
  unfold begs
  rw [List.map_map]
  rfl
theorem r_parts (k : Nat) (S : Sto) (p : Sp) (c : Int) (ha : 0 ≤ p.1 ∧ p.1 ≤ 100) (hb : 0 ≤ p.2 ∧ p.2 ≤ 100) (hc : 1 ≤ c ∧ c ≤ 10) (h : p.1 < p.2) : run D.FT (k + 2) "span_parts" [enc p, .int c] S = .ok (.tup ((partsL p c).map enc)) S := by
  rw [run_at' ft_parts rfl rfl]
  have z := sizeLine_eq
  have ck := r_check k S p h
  rw [enc_sp] at ck
  obtain ⟨r3, hl⟩ := rng3_ok S ha hb hc h
  have hr : ev (run D.FT (k + 1)) (.rng3 (.idx (.var 0) (.lit (.int 0))) (.idx (.var 0) (.lit (.int 1))) (.var 1)) [some (.tup [.int p.1, .int p.2]), some (.int c), none] S = .ok (.lst ((begs p c).map .int)) S := by
    simp only [ev_rng3, ev_idx, ev_var, ev_lit, bind_ok]
    simp
    exact r3
  have gx : ev (run D.FT (k + 1)) (.gx .tup (.nm 2) (.rng3 (.idx (.var 0) (.lit (.int 0))) (.idx (.var 0) (.lit (.int 1))) (.var 1)) (.lit (.bl true)) (.tup (.cons (.var 2) (.cons (.bi .min2 (.cons (.bin .add (.var 2) (.var 1)) (.cons (.idx (.var 0) (.lit (.int 1))) .nil))) .nil))) [("begin", 2)]) [some (.tup [.int p.1, .int p.2]), some (.int c), none] S = .ok (.tup ((partsL p c).map enc)) S := by
    rw [gx_map .tup Wv.int (begs p c) hr (itW_lst (by rw [List.length_map]; have : (begs p c).length ≤ 1000 := hl; omega)) (fun b : Int => [enc ((b, min (b + c) p.2) : Sp)]) (.inl rfl) fun b hb => by simp [lcF, wipeW, enc_sp, sizeLine_eq]]
    simp only []
    rw [flat_one]
    unfold partsL
    rw [List.map_map]
    rfl
  have h1 : ¬ c < 1 := by omega
  have hq : (p.2 - p.1 + c - 1) / c ≤ p.2 - p.1 + c - 1 := Int.ediv_le_self _ (by omega)
  have h2 : ¬ 400 < (p.2 - p.1 + c - 1) / c := by omega
  have fd := w_fdiv (S := S) (p.2 - p.1 + c - 1) c (by omega) (by omega)
  simp [d_span_parts, enc_sp, startW, ck, orK_b, h1, h2, fd, gx]
end K02

end
section
set_option Elab.async false
set_option linter.all false
set_option maxRecDepth 100000
namespace K02
open PySem Dy L2
/-! The statements of the law's body; printed by mkb.py. -/
def b0 : Sm := (.set (.tup (.cons (.nm 2) (.cons (.nm 3) .nil))) (.tup (.cons (.call "_law_spans" (.cons (.var 1) (.cons (.lit (.int 6)) .nil))) (.cons (.call "_law_spans" (.cons (.var 1) (.cons (.lit (.int 5)) .nil))) .nil))))
def b1 : Sm := (.set (.tup (.cons (.nm 4) (.cons (.nm 5) .nil))) (.tup (.cons (.call "_law_minutes" (.cons (.var 2) .nil)) (.cons (.call "_law_minutes" (.cons (.var 3) .nil)) .nil))))
def b2 : Sm := (.ifs (.cmp .ne (.bn .lst1 (.cons (.call "joined_spans" (.cons (.var 2) .nil)) .nil)) (.call "_law_runs" (.cons (.var 4) .nil))) (.seq (.ret (.lit (.bl false))) .nil) .nil)
def b3 : Sm := (.ifs (.cmp .ne (.bn .lst1 (.cons (.call "without_spans" (.cons (.var 2) (.cons (.var 3) .nil))) .nil)) (.call "_law_runs" (.cons (.lc (.nm 25) (.var 4) (.cmp .notin (.var 25) (.var 5)) (.var 25) [("minute", 25)]) .nil))) (.seq (.ret (.lit (.bl false))) .nil) .nil)
def b4 : Sm := (.ifs (.cmp .ne (.call "all_long" (.cons (.var 2) .nil)) (.bi .len (.cons (.var 4) .nil))) (.seq (.ret (.lit (.bl false))) .nil) .nil)
def b5 : Sm := (.ifs (.cmp .ne (.call "_law_minutes" (.cons (.call "both_spans" (.cons (.var 2) (.cons (.var 3) .nil))) .nil)) (.lc (.nm 25) (.var 4) (.cmp .isin (.var 25) (.var 5)) (.var 25) [("minute", 25)])) (.seq (.ret (.lit (.bl false))) .nil) .nil)
def b6 : Sm := (.set (.nm 6) (.lc (.nm 25) (.rng1 (.lit (.int 40))) (.lit (.bl true)) (.bi .len (.cons (.lc (.tup (.cons (.nm 11) (.cons (.nm 28) .nil))) (.var 2) (.chain .le .lt (.var 11) (.var 25) (.var 28)) (.lit (.int 1)) [("begin", 11), ("end", 28)]) .nil)) [("minute", 25)]))
def b7 : Sm := (.set (.nm 7) (.bi .max1 (.cons (.var 6) .nil)))
def b8 : Sm := (.ifs (.cmp .ne (.call "most_at_once" (.cons (.var 2) .nil)) (.tup (.cons (.var 7) (.cons (.ite (.cmp .gt (.var 7) (.lit (.int 0))) (.mt .idxL (.var 6) (.cons (.var 7) .nil)) (.lit .non)) .nil)))) (.seq (.ret (.lit (.bl false))) .nil) .nil)
def b9 : Sm := (.set (.tup (.cons (.nm 8) (.cons (.nm 9) (.cons (.nm 10) .nil)))) (.tup (.cons (.bn .lst1 (.cons (.call "columns_for" (.cons (.var 2) .nil)) .nil)) (.cons (.obj (.dd .nil)) (.cons (.lst .nil) .nil)))))
def b10 : Sm := (.forr (.tup (.cons (.nm 11) (.cons (.nm 12) .nil))) (.bn .srt (.cons (.lc (.tup (.cons (.nm 12) (.cons (.nm 27) .nil))) (.enum (.var 2)) (.lit (.bl true)) (.tup (.cons (.idx (.var 27) (.lit (.int 0))) (.cons (.var 12) .nil))) [("k", 12), ("row", 27)]) .nil)) (.seq (.set (.nm 13) (.bin .add (.lc (.tup (.cons (.nm 29) (.cons (.nm 28) .nil))) (.enum (.var 10)) (.cmp .le (.var 28) (.var 11)) (.var 29) [("j", 29), ("end", 28)]) (.lst (.cons (.bi .len (.cons (.var 10) .nil)) .nil)))) (.seq (.set (.nm 10) (.bin .add (.bin .add (.sl (.var 10) (.lit .non) (.idx (.var 13) (.lit (.int 0)))) (.lst (.cons (.idx (.idx (.var 2) (.var 12)) (.lit (.int 1))) .nil))) (.sl (.var 10) (.bin .add (.idx (.var 13) (.lit (.int 0))) (.lit (.int 1))) (.lit .non)))) (.seq (.setIx (.var 9) (.var 12) (.idx (.var 13) (.lit (.int 0)))) .nil))))
def b11 : Sm := (.ifs (.or (.cmp .ne (.var 8) (.lc (.nm 12) (.rng1 (.bi .len (.cons (.var 2) .nil))) (.lit (.bl true)) (.idx (.var 9) (.var 12)) [("k", 12)])) (.and (.cmp .ne (.var 2) (.lst .nil)) (.cmp .ne (.bin .add (.bi .max1 (.cons (.var 8) .nil)) (.lit (.int 1))) (.var 7)))) (.seq (.ret (.lit (.bl false))) .nil) .nil)
def b12 : Sm := (.set (.tup (.cons (.nm 14) (.cons (.nm 15) .nil))) (.tup (.cons (.tup (.cons (.bin .add (.lit (.int 5)) (.call "_law_roll" (.cons (.var 1) (.cons (.lit (.int 8)) .nil)))) (.cons (.bin .add (.lit (.int 14)) (.call "_law_roll" (.cons (.var 1) (.cons (.lit (.int 8)) .nil)))) .nil))) (.cons (.idx (.bin .add (.lst (.cons (.tup (.cons (.lit (.int 9)) (.cons (.lit (.int 12)) .nil))) .nil)) (.var 2)) (.neg (.lit (.int 1)))) .nil))))
def b13 : Sm := (.set (.nm 16) (.lc (.nm 25) (.call "_law_minutes" (.cons (.lst (.cons (.var 14) .nil)) .nil)) (.cmp .isin (.var 25) (.call "_law_minutes" (.cons (.lst (.cons (.var 15) .nil)) .nil))) (.var 25) [("minute", 25)]))
def b14 : Sm := (.set (.nm 17) (.ite (.cmp .eq (.var 14) (.var 15)) (.lit (.str "same")) (.ite (.cmp .lt (.idx (.var 14) (.lit (.int 1))) (.idx (.var 15) (.lit (.int 0)))) (.lit (.str "before")) (.ite (.cmp .gt (.idx (.var 14) (.lit (.int 0))) (.idx (.var 15) (.lit (.int 1)))) (.lit (.str "behind")) (.ite (.cmp .eq (.var 16) (.lst .nil)) (.lit (.str "touches")) (.lit (.str "")))))))
def b15 : Sm := (.ifs (.cmp .eq (.var 17) (.lit (.str ""))) (.seq (.set (.nm 17) (.ite (.cmp .eq (.var 16) (.call "_law_minutes" (.cons (.lst (.cons (.var 15) .nil)) .nil))) (.lit (.str "holds")) (.ite (.cmp .eq (.var 16) (.call "_law_minutes" (.cons (.lst (.cons (.var 14) .nil)) .nil))) (.lit (.str "within")) (.lit (.str "meets"))))) .nil) .nil)
def b16 : Sm := (.ifs (.cmp .ne (.call "spans_meet" (.cons (.var 14) (.cons (.var 15) .nil))) (.cmp .ne (.var 16) (.lst .nil))) (.seq (.ret (.lit (.bl false))) .nil) .nil)
def b17 : Sm := (.ifs (.cmp .ne (.call "shared_span" (.cons (.var 14) (.cons (.var 15) .nil))) (.ite (.cmp .ne (.var 16) (.lst .nil)) (.tup (.cons (.idx (.var 16) (.lit (.int 0))) (.cons (.bin .add (.idx (.var 16) (.neg (.lit (.int 1)))) (.lit (.int 1))) .nil))) (.lit .non))) (.seq (.ret (.lit (.bl false))) .nil) .nil)
def b18 : Sm := (.ifs (.or (.cmp .ne (.call "how_spans_lie" (.cons (.var 14) (.cons (.var 15) .nil))) (.var 17)) (.cmp .ne (.call "long_of" (.cons (.var 14) .nil)) (.bin .sub (.idx (.var 14) (.lit (.int 1))) (.idx (.var 14) (.lit (.int 0)))))) (.seq (.ret (.lit (.bl false))) .nil) .nil)
def b19 : Sm := (.set (.tup (.cons (.nm 18) (.cons (.nm 19) (.cons (.nm 20) (.cons (.nm 21) .nil))))) (.tup (.cons (.bin .add (.lit (.int 1)) (.call "_law_roll" (.cons (.var 1) (.cons (.lit (.int 5)) .nil)))) (.cons (.bin .add (.lit (.int 1)) (.call "_law_roll" (.cons (.var 1) (.cons (.lit (.int 6)) .nil)))) (.cons (.call "_law_roll" (.cons (.var 1) (.cons (.lit (.int 4)) .nil))) (.cons (.call "_law_roll" (.cons (.var 1) (.cons (.lit (.int 4)) .nil))) .nil))))))
def b20 : Sm := (.set (.nm 22) (.lc (.nm 25) (.rng2 (.idx (.var 14) (.lit (.int 0))) (.bin .add (.bin .sub (.idx (.var 14) (.lit (.int 1))) (.var 19)) (.lit (.int 1)))) (.cmp .eq (.lc (.nm 2) (.rng2 (.var 25) (.bin .add (.var 25) (.var 19))) (.cmp .isin (.var 2) (.var 4)) (.var 2) [("one", 2)]) (.lst .nil)) (.var 25) [("minute", 25)]))
def b21 : Sm := (.ifs (.cmp .ne (.call "first_gap" (.cons (.var 2) (.cons (.idx (.var 14) (.lit (.int 0))) (.cons (.idx (.var 14) (.lit (.int 1))) (.cons (.var 19) .nil))))) (.ite (.cmp .ne (.var 22) (.lst .nil)) (.tup (.cons (.idx (.var 22) (.lit (.int 0))) (.cons (.bin .add (.idx (.var 22) (.lit (.int 0))) (.var 19)) .nil))) (.lit .non))) (.seq (.ret (.lit (.bl false))) .nil) .nil)
def b22 : Sm := (.ifs (.cmp .ne (.bn .lst1 (.cons (.call "span_parts" (.cons (.var 14) (.cons (.var 18) .nil))) .nil)) (.lc (.nm 11) (.rng3 (.idx (.var 14) (.lit (.int 0))) (.idx (.var 14) (.lit (.int 1))) (.var 18)) (.lit (.bl true)) (.tup (.cons (.var 11) (.cons (.bi .min2 (.cons (.bin .add (.var 11) (.var 18)) (.cons (.idx (.var 14) (.lit (.int 1))) .nil))) .nil))) [("begin", 11)])) (.seq (.ret (.lit (.bl false))) .nil) .nil)
def b23 : Sm := (.ifs (.cmp .ne (.call "padded_span" (.cons (.var 14) (.cons (.var 20) (.cons (.var 21) .nil)))) (.tup (.cons (.bin .sub (.idx (.var 14) (.lit (.int 0))) (.var 20)) (.cons (.bin .add (.idx (.var 14) (.lit (.int 1))) (.var 21)) .nil)))) (.seq (.ret (.lit (.bl false))) .nil) .nil)
def b24 : Sm := (.ifs (.cmp .ne (.call "moved_span" (.cons (.var 14) (.cons (.bin .sub (.var 20) (.var 21)) .nil))) (.tup (.cons (.bin .sub (.bin .add (.idx (.var 14) (.lit (.int 0))) (.var 20)) (.var 21)) (.cons (.bin .sub (.bin .add (.idx (.var 14) (.lit (.int 1))) (.var 20)) (.var 21)) .nil)))) (.seq (.ret (.lit (.bl false))) .nil) .nil)
def b25 : Sm := (.set (.nm 23) (.tup (.cons (.call "_law_roll" (.cons (.var 1) (.cons (.lit (.int 4000)) .nil))) (.cons (.bin .add (.lit (.int 4001)) (.call "_law_roll" (.cons (.var 1) (.cons (.lit (.int 4000)) .nil)))) .nil))))
def b26 : Sm := (.set (.nm 24) (.lc (.nm 26) (.rng1 (.lit (.int 6))) (.and (.cmp .lt (.bin .mul (.lit (.int 1440)) (.var 26)) (.idx (.var 23) (.lit (.int 1)))) (.cmp .gt (.bin .add (.bin .mul (.lit (.int 1440)) (.var 26)) (.lit (.int 1440))) (.idx (.var 23) (.lit (.int 0))))) (.tup (.cons (.var 26) (.cons (.bin .sub (.bi .max2 (.cons (.idx (.var 23) (.lit (.int 0))) (.cons (.bin .mul (.lit (.int 1440)) (.var 26)) .nil))) (.bin .mul (.lit (.int 1440)) (.var 26))) (.cons (.bin .sub (.bi .min2 (.cons (.idx (.var 23) (.lit (.int 1))) (.cons (.bin .add (.bin .mul (.lit (.int 1440)) (.var 26)) (.lit (.int 1440))) .nil))) (.bin .mul (.lit (.int 1440)) (.var 26))) .nil)))) [("day", 26)]))
def b27 : Sm := (.ifs (.or (.cmp .ne (.bn .lst1 (.cons (.call "span_days" (.cons (.var 23) .nil)) .nil)) (.var 24)) (.cmp .ne (.bi .sum (.cons (.lc (.tup (.cons (.nm 26) (.cons (.nm 30) (.cons (.nm 31) .nil)))) (.var 24) (.lit (.bl true)) (.bin .sub (.var 31) (.var 30)) [("day", 26), ("first", 30), ("last", 31)]) .nil)) (.bin .sub (.idx (.var 23) (.lit (.int 1))) (.idx (.var 23) (.lit (.int 0)))))) (.seq (.ret (.lit (.bl false))) .nil) .nil)
def bodyB : Sm := (.seq b0 (.seq b1 (.seq b2 (.seq b3 (.seq b4 (.seq b5 (.seq b6 (.seq b7 (.seq b8 (.seq b9 (.seq b10 (.seq b11 (.seq b12 (.seq b13 (.seq b14 (.seq b15 (.seq b16 (.seq b17 (.seq b18 (.seq b19 (.seq b20 (.seq b21 (.seq b22 (.seq b23 (.seq b24 (.seq b25 (.seq b26 (.seq b27 .nil))))))))))))))))))))))))))))
def turnB : Sm := .blk [2, 3, 4, 5, 6, 7, 8, 9, 10, 11, 12, 13, 14, 15, 16, 17, 18, 19, 20, 21, 22, 23, 24] bodyB
theorem law_eq : d_law.body = .seq (.forr (.nm 1) (.call "_law_rounds" (.cons (.var 0) (.cons (.lit (.int 1)) .nil))) turnB) (.seq (.ret (.call "_law_plain" .nil)) .nil) := by rfl
end K02

end
section
set_option Elab.async false
set_option linter.all false
set_option maxRecDepth 100000
set_option maxHeartbeats 400000
/-! k02: statements 0 to 5. -/
namespace K02
open PySem Dy L2
open Enc (enc)
theorem Drawn.oks {l : List Sp} (h : Drawn l) : Oks l := fun p hp => (h p hp).2.2.1
theorem Drawn.small {l : List Sp} (h : Drawn l) : Small l := fun p hp => by have := h p hp; omega
theorem itL (l : List Sp) (h : l.length ≤ 10) : itW (.lst (l.map enc)) = some (l.map enc) := itW_lst (by simp; omega)
theorem mins_len {l : List Sp} (h : Drawn l) (hl : l.length ≤ 10) : (mins l).length ≤ 10000 := by
  unfold mins
  rw [(sort_perm _).length_eq]
  have := madds_len l (fun p hp => by have := h p hp; omega) []
  simp only [List.length_nil] at this
  omega
section
variable {σ : Sl} {S : Sto} {one two : List Sp} (d1 : Drawn one) (l1 : one.length ≤ 10) (d2 : Drawn two) (l2 : two.length ≤ 10)
theorem t0 (p : Int × Int × Int) (h1 : σ[1]? = some (some (.ref 0))) : ∃ (one two : List Sp) (p' : Int × Int × Int), Drawn one ∧ one.length ≤ 10 ∧ Drawn two ∧ two.length ≤ 10 ∧ ex (run D.FT 11) b0 σ (dS p) = .nx ((σ.set 2 (some (.lst (one.map enc)))).set 3 (some (.lst (two.map enc)))) (dS p') := by
  obtain ⟨one, p1, a1, a2, a3⟩ := r_spans 9 p (many := 6) (by omega)
  obtain ⟨two, p2, e1, e2, e3⟩ := r_spans 9 p1 (many := 5) (by omega)
  simp only [Nat.reduceAdd] at a3 e3
  refine ⟨one, two, p2, a2, by omega, e2, by omega, ?_⟩
  simp [b0, h1, a3, e3, sizeLine_eq]
include d1 l1 d2 l2
theorem t1 (h2 : σ[2]? = some (some (.lst (one.map enc)))) (h3 : σ[3]? = some (some (.lst (two.map enc)))) : ex (run D.FT 11) b1 σ S = .nx ((σ.set 4 (some (.lst ((mins one).map .int)))).set 5 (some (.lst ((mins two).map .int)))) S := by
  have m1 := r_minutes 10 S (itL one l1) d1.small (by omega)
  have m2 := r_minutes 10 S (itL two l2) d2.small (by omega)
  simp only [Nat.reduceAdd] at m1 m2
  simp [b1, h2, h3, m1, m2, sizeLine_eq]
theorem t2 (h2 : σ[2]? = some (some (.lst (one.map enc)))) (h4 : σ[4]? = some (some (.lst ((mins one).map .int)))) : ex (run D.FT 11) b2 σ S = .nx σ S := by
  have j := r_joined 9 S (itL one l1) d1.oks (by omega)
  have r := r_runs 10 S (mins one) (by have := mins_len d1 l1; omega)
  have e := eq_lst (joined one) (runs (mins one))
  rw [decide_eq_true (joined_runs d1.oks)] at e
  simp only [Nat.reduceAdd] at j r
  simp [b2, h2, h4, j, r, e]
theorem t4 (h2 : σ[2]? = some (some (.lst (one.map enc)))) (h4 : σ[4]? = some (some (.lst ((mins one).map .int)))) : ex (run D.FT 11) b4 σ S = .nx σ S := by
  have j := r_all_long 8 S (itL one l1) d1.oks (by omega)
  rw [all_long_mins d1.oks] at j
  simp only [Nat.reduceAdd] at j
  simp [b4, h2, h4, j]
end
end K02

end
section
set_option Elab.async false
set_option linter.all false
set_option maxRecDepth 100000
set_option maxHeartbeats 400000
/-! k02: statements 3, 5. -/
namespace K02
open PySem Dy L2
open Enc (enc)
section
variable {σ : Sl} {S : Sto} {one two : List Sp} (d1 : Drawn one) (l1 : one.length ≤ 10) (d2 : Drawn two) (l2 : two.length ≤ 10) (hn : σ.length = 32)
theorem flat_filter (f : Int → Bool) : ∀ a : List Int, (a.flatMap fun m => if f m = true then [Wv.int m] else []) = (a.filter f).map .int
  | [] => rfl
  | x :: a => by
    rw [List.flatMap_cons, flat_filter f a, List.filter_cons]
    cases f x <;> rfl
/-- a filter of minutes -/
theorem filt {cl : Clr} {a : List Int} {b : List Int} (neg : Bool) (ha : a.length ≤ 100000) (hn : 25 < σ.length) (h4 : σ[4]? = some (some (.lst (a.map .int)))) (h5 : σ[5]? = some (some (.lst (b.map .int)))) :
    ev cl (.lc (.nm 25) (.var 4) (.cmp (if neg then .notin else .isin) (.var 25) (.var 5)) (.var 25) [("minute", 25)]) σ S = .ok (.lst ((a.filter fun m => if neg then !decide (m ∈ b) else decide (m ∈ b)).map .int)) S := by
  rw [lc_map Wv.int a (w := .lst (a.map .int)) (S1 := S) (ev_v h4) (itW_lst (by simp; omega)) (fun m => if (if neg then !decide (m ∈ b) else decide (m ∈ b)) = true then [.int m] else []) fun m hm => ?_]
  · rw [flat_filter]
  · have g1 : ((σ.set 25 none).set 25 (some (.int m)))[25]? = some (some (.int m)) := by rw [List.getElem?_set_self]; simpa using hn
    have g2 : ((σ.set 25 none).set 25 (some (.int m)))[5]? = some (some (.lst (b.map .int))) := by rw [List.getElem?_set_ne (by decide), List.getElem?_set_ne (by decide), h5]
    show lcF (.nm 25) (ev cl (.cmp (if neg then .notin else .isin) (.var 25) (.var 5))) (ev cl (.var 25)) (wipeW σ [25]) (.int m) S = _
    rw [lcF_at (σ' := (σ.set 25 none).set 25 (some (.int m))) rfl]
    cases neg <;> simp only [ev_cmp, ev_v g1, ev_v g2, bind_ok, if_true, Bool.false_eq_true, if_false, w_inS, w_ninS, rd_lstS, mem_ints, ofB_someF, ofB_someT, iteK_bl]
    · split <;> rfl
    · split <;> rfl
include d1 l1 d2 l2 hn
theorem t3 (h2 : σ[2]? = some (some (.lst (one.map enc)))) (h3 : σ[3]? = some (some (.lst (two.map enc)))) (h4 : σ[4]? = some (some (.lst ((mins one).map .int)))) (h5 : σ[5]? = some (some (.lst ((mins two).map .int)))) : ex (run D.FT 11) b3 σ S = .nx σ S := by
  have ml := mins_len d1 l1
  have j := r_without 8 S (itL one l1) d1.oks (by omega) (itL two l2) d2.oks (by omega)
  have r := r_runs 10 S ((mins one).filter fun m => !decide (m ∈ mins two)) (by have := List.length_filter_le (fun m => !decide (m ∈ mins two)) (mins one); omega)
  have f := filt (cl := run D.FT 11) (S := S) (a := mins one) (b := mins two) true (by omega) (by omega) h4 h5
  simp only [if_true] at f
  have e := eq_lst (without one two) (runs ((mins one).filter fun m => !decide (m ∈ mins two)))
  rw [decide_eq_true (without_runs d1.oks d2.oks)] at e
  simp only [Nat.reduceAdd] at j r
  unfold b3
  rw [ex_ifs]
  have sv : ev (run D.FT 11) (.call "_law_runs" (.cons (.lc (.nm 25) (.var 4) (.cmp .notin (.var 25) (.var 5)) (.var 25) [("minute", 25)]) .nil)) σ S = .ok (.lst ((runs ((mins one).filter fun m => !decide (m ∈ mins two))).map enc)) S := by
    rw [ev_call, ev_cons, f]
    simp only [bind_ok, ev_nil]
    exact r
  have su : ev (run D.FT 11) (.bn .lst1 (.cons (.call "without_spans" (.cons (.var 2) (.cons (.var 3) .nil))) .nil)) σ S = .ok (.lst ((without one two).map enc)) S := by simp [h2, h3, j]
  rw [ev_cmp, su]
  simp only [bind_ok]
  rw [sv]
  simp [e]
end
end K02

end
section
set_option Elab.async false
set_option linter.all false
set_option maxRecDepth 100000
set_option maxHeartbeats 400000
/-! k02: statements 5 to 8. -/
namespace K02
open PySem Dy L2
open Enc (enc)
theorem flat_if {α β : Type} (f : α → Bool) (g : α → β) : ∀ l : List α, (l.flatMap fun m => if f m = true then [g m] else []) = (l.filter f).map g
  | [] => rfl
  | x :: l => by
    rw [List.flatMap_cons, flat_if f g l, List.filter_cons]
    cases f x <;> rfl
theorem drawn_in {l : List Sp} (d : Drawn l) : In 0 40 l := fun p hp => by have := d p hp; omega
theorem both_small {A B : List Sp} (d1 : Drawn A) (d2 : Drawn B) : Small (both A B) := by
  intro r hr
  obtain ⟨p, hp, q, hq, h, rfl⟩ := (both_mem _ _ _).mp hr
  have a := in_of d1.oks (drawn_in d1) p hp
  have b := in_of d2.oks (drawn_in d2) q hq
  simp only []
  omega
theorem both_len {A B : List Sp} (l1 : A.length ≤ 10) (l2 : B.length ≤ 10) : (both A B).length ≤ 1000 := by
  have h := bfolds_len (joined B) (joined A) []
  have h1 := joined_len A
  have h2 := joined_len B
  have h3 : (joined A).length * (joined B).length ≤ 10 * 10 := Nat.mul_le_mul (by omega) (by omega)
  simp only [List.length_nil] at h
  unfold both
  omega
instance : Enc (Option Int) where
  enc o := match o with
    | none => .non
    | some i => .int i
  d o := match o with
    | none => .none
    | some i => .int i
  dp := 0
  toD o := by cases o <;> rfl
  dep o := by cases o <;> simp [PyData.depth]
  eqv a b := by
    cases a with
    | none => cases b <;> rfl
    | some a =>
      cases b with
      | none => rfl
      | some b =>
        show (a == b) = decide (some a = some b)
        by_cases h : a = b
        · subst h; simp
        · rw [decide_eq_false (by simpa using h)]; exact beq_false_of_ne h
section
variable {σ : Sl} {S : Sto} {one two : List Sp} (d1 : Drawn one) (l1 : one.length ≤ 10) (d2 : Drawn two) (l2 : two.length ≤ 10) (hn : σ.length = 32)
include d1 l1 d2 l2 hn
theorem t5 (h2 : σ[2]? = some (some (.lst (one.map enc)))) (h3 : σ[3]? = some (some (.lst (two.map enc)))) (h4 : σ[4]? = some (some (.lst ((mins one).map .int)))) (h5 : σ[5]? = some (some (.lst ((mins two).map .int)))) : ex (run D.FT 11) b5 σ S = .nx σ S := by
  have j := r_both 7 S (itL one l1) d1.oks (by omega) (itL two l2) d2.oks (by omega)
  have ml := mins_len d1 l1
  have bl := both_len l1 l2
  have m := r_minutes 10 S (w := .tup ((both one two).map enc)) (itW_tup (by rw [List.length_map]; omega)) (both_small d1 d2) bl
  have f := filt (cl := run D.FT 11) (S := S) (a := mins one) (b := mins two) false (by omega) (by omega) h4 h5
  simp only [Bool.false_eq_true, if_false] at f
  have e := eq_lst (mins (both one two)) ((mins one).filter fun m => decide (m ∈ mins two))
  rw [decide_eq_true (both_mins d1.oks d2.oks)] at e
  simp only [Nat.reduceAdd] at j m
  unfold b5
  have su : ev (run D.FT 11) (.call "_law_minutes" (.cons (.call "both_spans" (.cons (.var 2) (.cons (.var 3) .nil))) .nil)) σ S = .ok (.lst ((mins (both one two)).map .int)) S := by simp [h2, h3, j, m]
  rw [ex_ifs, ev_cmp, su]
  simp only [bind_ok]
  rw [f]
  simp only [bind_ok, w_neS, rd_lstS]
  have e : eqD (.lst ((mins (both one two)).map .int)) (.lst (((mins one).filter fun m => decide (m ∈ mins two)).map .int)) = some true := e
  rw [e]
  simp
omit d2 l2 in
theorem t6 (h2 : σ[2]? = some (some (.lst (one.map enc)))) : ex (run D.FT 11) b6 σ S = .nx (σ.set 6 (some (.lst ((counts one).map .int)))) S := by
  have inner : ∀ (τ : Sl) (i : Nat), τ.length = 32 → τ[2]? = some (some (.lst (one.map enc))) → τ[25]? = some (some (.int (i : Int))) → ev (run D.FT 11) (.bi .len (.cons (.lc (.tup (.cons (.nm 11) (.cons (.nm 28) .nil))) (.var 2) (.chain .le .lt (.var 11) (.var 25) (.var 28)) (.lit (.int 1)) [("begin", 11), ("end", 28)]) .nil)) τ S = .ok (.int (cnt one (i : Int) : Int)) S := by
    intro τ i hl g2 g25
    have hz : (fun p : Sp => if (decide (p.1 ≤ (i : Int) ∧ (i : Int) < p.2)) = true then [Wv.int 1] else []) = fun p : Sp => if (fun p : Sp => decide (p.1 ≤ (i : Int) ∧ (i : Int) < p.2)) p = true then [(fun _ : Sp => Wv.int 1) p] else [] := rfl
    rw [ev_bi, ev_cons, lc_map enc one (w := .lst (one.map enc)) (S1 := S) (ev_v g2) (itL one l1) (fun p : Sp => if (decide (p.1 ≤ (i : Int) ∧ (i : Int) < p.2)) = true then [Wv.int 1] else []) fun p hp => ?_]
    · rw [hz, flat_if]
      simp only [bind_ok, ev_nil, w_len, List.length_map]
      rfl
    · have k11 : ((((τ.set 28 none).set 11 none).set 11 (some (.int p.1))).set 28 (some (.int p.2)))[11]? = some (some (.int p.1)) := by simp only [List.getElem?_set, List.length_set, hl]; rfl
      have k28 : ((((τ.set 28 none).set 11 none).set 11 (some (.int p.1))).set 28 (some (.int p.2)))[28]? = some (some (.int p.2)) := by simp only [List.getElem?_set, List.length_set, hl]; rfl
      have k25 : ((((τ.set 28 none).set 11 none).set 11 (some (.int p.1))).set 28 (some (.int p.2)))[25]? = some (some (.int (i : Int))) := by simp only [List.getElem?_set, List.length_set, hl]; exact g25
      show lcF (.tup (.cons (.nm 11) (.cons (.nm 28) .nil))) _ _ (wipeW τ [11, 28]) (.tup [.int p.1, .int p.2]) S = _
      rw [lcF_at (σ' := (((τ.set 28 none).set 11 none).set 11 (some (.int p.1))).set 28 (some (.int p.2))) rfl]
      simp only [ev_chain, ev_v k11, ev_v k25, ev_v k28, bind_ok, w_le, w_lt, andK_bl, iteK_bl, ev_lit]
      by_cases c1 : p.1 ≤ (i : Int) <;> by_cases c2 : (i : Int) < p.2 <;> simp [c1, c2]
  have hr : ev (run D.FT 11) (.rng1 (.lit (.int 40))) σ S = .ok (.lst ((List.range 40).map fun i : Nat => .int (0 + (i : Int)))) S := by
    rw [ev_rng1, ev_lit, bind_ok]
    exact rng1_ok (by decide) (by decide)
  unfold b6
  rw [ex_set, lc_map (fun i : Nat => Wv.int (0 + (i : Int))) (List.range 40) hr (itW_lst (by simp)) (fun i => [.int (cnt one (i : Int))]) fun i hi => ?_]
  · rw [flat_one]
    unfold counts
    rw [List.map_map]
    rfl
  · show lcF (.nm 25) _ _ (wipeW σ [25]) (.int (0 + (i : Int))) S = _
    have inn := inner ((σ.set 25 none).set 25 (some (.int (0 + (i : Int))))) i (by simp only [List.length_set, hn]) (by simp only [List.getElem?_set, List.length_set, hn]; exact h2) (by rw [Int.zero_add]; simp only [List.getElem?_set, List.length_set, hn]; rfl)
    rw [lcF_at (σ' := (σ.set 25 none).set 25 (some (.int (0 + (i : Int))))) rfl]
    simp only [ev_lit, bind_ok, iteK_bl, if_true]
    rw [inn]
    simp
omit d2 l2 hn in
theorem t7 (h6 : σ[6]? = some (some (.lst ((counts one).map .int)))) : ex (run D.FT 11) b7 σ S = .nx (σ.set 7 (some (.int (most one).best))) S := by
  obtain ⟨x, xs, e1, e2⟩ := counts_best d1.oks (drawn_in d1)
  have m := w_max1 x xs S
  rw [← e1, e2] at m
  simp [b7, h6, m]
omit d2 l2 hn in
theorem t8 (h2 : σ[2]? = some (some (.lst (one.map enc)))) (h6 : σ[6]? = some (some (.lst ((counts one).map .int)))) (h7 : σ[7]? = some (some (.int (most one).best))) : ex (run D.FT 11) b8 σ S = .nx σ S := by
  have j := r_most 9 S (itL one l1) d1.oks (by omega)
  simp only [Nat.reduceAdd] at j
  obtain ⟨b1, b2, b3⟩ := most_ok d1.oks
  have e := eq_enc (((most one).best, (most one).when) : Int × Option Int) ((most one).best, (most one).when) (by decide)
  rw [decide_eq_true rfl] at e
  cases hw : (most one).when with
  | none =>
    rw [hw] at e j
    have b2 := b2 hw
    rw [b2] at e j h7
    have e : eqD (.tup [.int 0, .non]) (.tup [.int 0, .non]) = some true := e
    have j : _ = Res.ok (.tup [.int 0, .non]) S := j
    simp [b8, h2, h7, j, e, sizeLine_eq]
  | some t =>
    rw [hw] at e j
    obtain ⟨c1, _, _⟩ := b3 t hw
    obtain ⟨i, hi, g1, g2⟩ := counts_idx d1.oks (drawn_in d1) hw
    have ix := w_idxI (counts one) (most one).best i S g1 g2
    rw [hi] at ix
    have im : isMtW .idxL (.lst ((counts one).map .int)) S = true := rfl
    have e : eqD (.tup [.int (most one).best, .int t]) (.tup [.int (most one).best, .int t]) = some true := e
    have j : _ = Res.ok (.tup [.int (most one).best, .int t]) S := j
    generalize counts one = C at h6 ix im
    generalize most one = M at *
    simp [b8, h2, h6, h7, j, e, c1, ix, im, sizeLine_eq]
end
end K02

end
section
set_option Elab.async false
set_option linter.all false
set_option maxRecDepth 100000
set_option maxHeartbeats 1000000
/-! k02: statements 9 to 11, the law's own columns. -/
namespace K02
open PySem Dy L2
open Enc (enc)
def colC : Sm := (.seq (.set (.nm 13) (.bin .add (.lc (.tup (.cons (.nm 29) (.cons (.nm 28) .nil))) (.enum (.var 10)) (.cmp .le (.var 28) (.var 11)) (.var 29) [("j", 29), ("end", 28)]) (.lst (.cons (.bi .len (.cons (.var 10) .nil)) .nil)))) (.seq (.set (.nm 10) (.bin .add (.bin .add (.sl (.var 10) (.lit .non) (.idx (.var 13) (.lit (.int 0)))) (.lst (.cons (.idx (.idx (.var 2) (.var 12)) (.lit (.int 1))) .nil))) (.sl (.var 10) (.bin .add (.idx (.var 13) (.lit (.int 0))) (.lit (.int 1))) (.lit .non)))) (.seq (.setIx (.var 9) (.var 12) (.idx (.var 13) (.lit (.int 0)))) .nil)))
theorem able_cons (ends : List Int) (b : Int) : ∃ r : List Int, ableK ends 0 b ++ [(ends.length : Int)] = (colAt ends b : Int) :: r := by
  rcases able_head ends 0 b with ⟨h1, r, h2⟩ | ⟨h1, h2⟩
  · rw [h2, Nat.zero_add]; exact ⟨_, rfl⟩
  · rw [h2, h1]; exact ⟨_, rfl⟩
theorem gset {σ : Sl} {i j : Nat} {a : Option Wv} (h : i ≠ j) : (σ.set i a)[j]? = σ[j]? := List.getElem?_set_ne h
theorem gset0 {σ : Sl} {i : Nat} {a : Option Wv} (h : i < σ.length) : (σ.set i a)[i]? = some a := List.getElem?_set_self h
/-- one turn of the law's own columns -/
theorem own_turn (S : Sto) {l : List Sp} (hz : l.length ≤ 10) {s : CS} (hs : s.ends.length ≤ 9000) (ha : s.as.length ≤ 9000) {r : Sp} (hr : r ∈ rowsC l) (hk : r.2 ∉ s.as.map (·.1)) {σ : Sl} (hn : σ.length = 32)
    (h2 : σ[2]? = some (some (.lst (l.map enc)))) (h9 : σ[9]? = some (some (.ref S.length))) (h10 : σ[10]? = some (some (.lst (s.ends.map .int)))) (h11 : σ[11]? = some (some (.int r.1))) (h12 : σ[12]? = some (some (.int r.2))) :
    ∃ w, ex (run D.FT 11) colC σ (S ++ [.dct (s.as.map kvE)]) = .nx ((σ.set 13 w).set 10 (some (.lst ((cstep l s r).ends.map .int)))) (S ++ [.dct ((cstep l s r).as.map kvE)]) := by
  have z := sizeLine_eq
  obtain ⟨i, hi, e2, p, hp, _, ep⟩ := rowsC_mem hr
  have ab := ev_able (cl := run D.FT 11) (σ := σ) (S := S ++ [.dct (s.as.map kvE)]) (j := 29) (e := 28) (i := 10) (b := 11) (n1 := "j") (n2 := "end") (ends := s.ends) (bg := r.1) (by omega) h10 h11 (by decide) (by decide) (by decide) (by omega) (by omega)
  have hat := at_nat hp
  rw [← e2] at hat
  obtain ⟨rr, hcons⟩ := able_cons s.ends r.1
  generalize hc : colAt s.ends r.1 = c at hcons
  have t1 := sl_take (s.ends.map .int) c (S ++ [.dct (s.as.map kvE)])
  have t2 := sl_drop (s.ends.map .int) (c + 1) (S ++ [.dct (s.as.map kvE)])
  have a0 := w_addL ((ableK s.ends 0 r.1).map .int) [.int (s.ends.length : Int)] (S ++ [.dct (s.as.map kvE)]) (by
    have : (ableK s.ends 0 r.1).length ≤ s.ends.length := by
      have : ∀ (l : List Int) (k : Nat) (b : Int), (ableK l k b).length ≤ l.length := by
        intro l
        induction l with
        | nil => intro k b; exact Nat.le_refl _
        | cons x l ih =>
          intro k b
          have e : ableK (x :: l) k b = (if x ≤ b then [(k : Int)] else []) ++ ableK l (k + 1) b := rfl
          rw [e, List.length_append, List.length_cons]
          have := ih (k + 1) b
          split <;> simp <;> omega
      exact this _ _ _
    simp; omega)
  have a1 := w_addL ((s.ends.map Wv.int).take c) [.int p.2] (S ++ [.dct (s.as.map kvE)]) (by simp; omega)
  have a2 := w_addL ((s.ends.map Wv.int).take c ++ [.int p.2]) ((s.ends.map Wv.int).drop (c + 1)) (S ++ [.dct (s.as.map kvE)]) (by simp; omega)
  have sk := setKey_end S (s.as.map kvE) r.2 (.int (c : Int)) (by simp; omega)
  rw [put_new hk] at sk
  have en : (cstep l s r).ends.map Wv.int = (s.ends.map Wv.int).take c ++ [.int p.2] ++ (s.ends.map Wv.int).drop (c + 1) := by
    show (putAt s.ends (colAt s.ends r.1) (endOf l r.2)).map Wv.int = _
    rw [hc, ep]
    unfold putAt
    simp
  have ea : (cstep l s r).as.map kvE = (s.as ++ [(r.2, (c : Int))]).map kvE := by
    show (s.as ++ [(r.2, (colAt s.ends r.1 : Int))]).map kvE = _
    rw [hc]
  rw [en, ea]
  have hm : (ableK s.ends 0 r.1).map Wv.int ++ [.int (s.ends.length : Int)] = .int (c : Int) :: rr.map .int := by
    have := congrArg (List.map Wv.int) hcons
    simpa using this
  rw [hm] at a0
  refine ⟨some (.lst (.int (c : Int) :: rr.map .int)), ?_⟩
  generalize hT : S ++ [SO.dct (s.as.map kvE)] = T at *
  have s1 : ev (run D.FT 11) (.bin .add (.lc (.tup (.cons (.nm 29) (.cons (.nm 28) .nil))) (.enum (.var 10)) (.cmp .le (.var 28) (.var 11)) (.var 29) [("j", 29), ("end", 28)]) (.lst (.cons (.bi .len (.cons (.var 10) .nil)) .nil))) σ T = .ok (.lst (.int (c : Int) :: rr.map .int)) T := by
    rw [ev_bin, ab]
    simp only [bind_ok, ev_lst, ev_cons, ev_bi, ev_v h10, ev_nil, w_len, List.length_map, List.length_cons, List.length_nil, z]
    simpa using a0
  have k10 : (σ.set 13 (some (.lst (.int (c : Int) :: rr.map .int))))[10]? = some (some (.lst (s.ends.map .int))) := by rw [gset (by decide)]; exact h10
  have k13 : (σ.set 13 (some (.lst (.int (c : Int) :: rr.map .int))))[13]? = some (some (.lst (.int (c : Int) :: rr.map .int))) := gset0 (by omega)
  have k12 : (σ.set 13 (some (.lst (.int (c : Int) :: rr.map .int))))[12]? = some (some (.int r.2)) := by rw [gset (by decide)]; exact h12
  have k2 : (σ.set 13 (some (.lst (.int (c : Int) :: rr.map .int))))[2]? = some (some (.lst (l.map enc))) := by rw [gset (by decide)]; exact h2
  have k9 : (σ.set 13 (some (.lst (.int (c : Int) :: rr.map .int))))[9]? = some (some (.ref S.length)) := by rw [gset (by decide)]; exact h9
  obtain ⟨τ, hτ⟩ : ∃ τ, τ = σ.set 13 (some (.lst (.int (c : Int) :: rr.map .int))) := ⟨_, rfl⟩
  rw [← hτ] at k10 k13 k12 k2 k9 ⊢
  have s2 : ev (run D.FT 11) (.bin .add (.bin .add (.sl (.var 10) (.lit .non) (.idx (.var 13) (.lit (.int 0)))) (.lst (.cons (.idx (.idx (.var 2) (.var 12)) (.lit (.int 1))) .nil))) (.sl (.var 10) (.bin .add (.idx (.var 13) (.lit (.int 0))) (.lit (.int 1))) (.lit .non))) τ T = .ok (.lst ((s.ends.map Wv.int).take c ++ [.int p.2] ++ (s.ends.map Wv.int).drop (c + 1))) T := by
    have e1 : ((c : Int) + 1) = ((c + 1 : Nat) : Int) := by omega
    rw [← e1] at t2
    generalize s.ends.map Wv.int = EE at t1 t2 a1 a2 k10 ⊢
    generalize l.map enc = LL at hat k2 ⊢
    simp only [ev_bin, ev_sl, ev_v k10, ev_v k13, ev_v k2, ev_v k12, ev_idx, ev_lit, ev_lst, ev_cons, ev_nil, bind_ok, intO, noB, w_idxL, at0, hat, w_idxT, at1, w_add, t1, t2, z, List.length_cons, List.length_nil]
    simp [a1, t1, t2, intO]
    rw [List.append_assoc] at a2
    simpa using a2
  have k9' : (τ.set 10 (some (.lst ((s.ends.map Wv.int).take c ++ [.int p.2] ++ (s.ends.map Wv.int).drop (c + 1)))))[9]? = some (some (.ref S.length)) := by rw [gset (by decide)]; exact k9
  have k12' : (τ.set 10 (some (.lst ((s.ends.map Wv.int).take c ++ [.int p.2] ++ (s.ends.map Wv.int).drop (c + 1)))))[12]? = some (some (.int r.2)) := by rw [gset (by decide)]; exact k12
  have k13' : (τ.set 10 (some (.lst ((s.ends.map Wv.int).take c ++ [.int p.2] ++ (s.ends.map Wv.int).drop (c + 1)))))[13]? = some (some (.lst (.int (c : Int) :: rr.map .int))) := by rw [gset (by decide)]; exact k13
  unfold colC
  rw [ex_seq', ex_set, s1]
  simp only [bs_ok, asg_nm, then_nx]
  rw [← hτ, ex_seq', ex_set, s2]
  simp only [bs_ok, asg_nm, then_nx]
  rw [ex_seq', ex_setIx]
  simp only [ev_idx, ev_v k13', ev_v k9', ev_v k12', bind_ok, ev_lit, w_idxL, at0, bs_ok]
  rw [← hT] at sk ⊢
  rw [sk]
  rfl
/-- the slots that the columns' loop writes -/
def SameBut (σ σ' : Sl) : Prop := σ'.length = σ.length ∧ ∀ j, j ≠ 10 → j ≠ 11 → j ≠ 12 → j ≠ 13 → σ'[j]? = σ[j]?
section
variable {σ : Sl} {S : Sto} {one : List Sp} (d1 : Drawn one) (l1 : one.length ≤ 10) (hn : σ.length = 32)
include d1 l1 hn
theorem t9 (h2 : σ[2]? = some (some (.lst (one.map enc)))) : ex (run D.FT 11) b9 σ S = .nx (((σ.set 8 (some (.lst ((columnsL one).map .int)))).set 9 (some (.ref S.length))).set 10 (some (.lst []))) (S ++ [.dct []]) := by
  have j := r_columns 9 S d1.oks (by omega)
  simp only [Nat.reduceAdd] at j
  simp [b9, h2, j, sizeLine_eq]
theorem t10 (h2 : σ[2]? = some (some (.lst (one.map enc)))) (h9 : σ[9]? = some (some (.ref S.length))) (h10 : σ[10]? = some (some (.lst []))) : ∃ σ', SameBut σ σ' ∧ ex (run D.FT 11) b10 σ (S ++ [.dct []]) = .nx σ' (S ++ [.dct ((cols one).as.map kvE)]) := by
  have z := sizeLine_eq
  have gn : ev (run D.FT 11) (.bn .srt (.cons (.lc (.tup (.cons (.nm 12) (.cons (.nm 27) .nil))) (.enum (.var 2)) (.lit (.bl true)) (.tup (.cons (.idx (.var 27) (.lit (.int 0))) (.cons (.var 12) .nil))) [("k", 12), ("row", 27)]) .nil)) σ (S ++ [.dct []]) = .ok (.lst ((rowsC one).map enc)) (S ++ [.dct []]) := by
    rw [ev_bn, ev_cons, lc_map (fun p : Sp × Nat => Wv.tup [.int (p.2 : Int), enc p.1]) one.zipIdx (ev_enumL h2) (itW_lst (by simp; omega)) (fun p : Sp × Nat => [enc ((p.1.1, (p.2 : Int)) : Sp)]) fun p hp => ?_]
    · rw [zip_flat]
      simp only [bind_ok, ev_nil, w_srtL]
      exact sort_enc _ _ (by decide)
    · have k12 : ((((σ.set 27 none).set 12 none).set 12 (some (.int (p.2 : Int)))).set 27 (some (.tup [.int p.1.1, .int p.1.2])))[12]? = some (some (.int (p.2 : Int))) := by simp only [List.getElem?_set, List.length_set, hn]; rfl
      have k27 : ((((σ.set 27 none).set 12 none).set 12 (some (.int (p.2 : Int)))).set 27 (some (.tup [.int p.1.1, .int p.1.2])))[27]? = some (some (.tup [.int p.1.1, .int p.1.2])) := by simp only [List.getElem?_set, List.length_set, hn]; rfl
      show lcF (.tup (.cons (.nm 12) (.cons (.nm 27) .nil))) _ _ (wipeW σ [12, 27]) (.tup [.int (p.2 : Int), .tup [.int p.1.1, .int p.1.2]]) _ = _
      rw [lcF_at (σ' := (((σ.set 27 none).set 12 none).set 12 (some (.int (p.2 : Int)))).set 27 (some (.tup [.int p.1.1, .int p.1.2]))) rfl]
      simp only [ev_lit, bind_ok, iteK_bl, if_true, ev_tup, ev_cons, ev_nil, ev_idx, ev_v k12, ev_v k27, w_idxT, at0, List.length_cons, List.length_nil, z]
      simp [enc_sp]
  obtain ⟨σ', S', c2, r⟩ := for_pre (cl := run D.FT 11) (g := .tup (.cons (.nm 11) (.cons (.nm 12) .nil))) (b := colC) (σ := σ) (S := S ++ [.dct []]) enc (rowsC one)
    (fun pre σ' S' => SameBut σ σ' ∧ σ'[10]? = some (some (.lst ((pre.foldl (cstep one) ⟨[], []⟩).ends.map .int))) ∧ S' = S ++ [.dct ((pre.foldl (cstep one) ⟨[], []⟩).as.map kvE)])
    gn (itW_lst (by rw [List.length_map, rowsC_len]; omega)) ⟨⟨rfl, fun _ _ _ _ _ => rfl⟩, h10, rfl⟩ fun pre p rest σ1 S1 e r => by
      obtain ⟨⟨q1, q2⟩, g10, rfl⟩ := r
      have hlen := congrArg List.length e
      simp only [List.length_append, List.length_cons, rowsC_len] at hlen
      have h1 := ends_len one pre ⟨[], []⟩
      have h2' := as_keys one pre ⟨[], []⟩
      have h3 : (pre.foldl (cstep one) ⟨[], []⟩).as.length = pre.length := by
        have := congrArg List.length h2'
        simpa using this
      simp only [List.length_nil, List.map_nil, List.nil_append] at h1 h2'
      have hn1 : σ1.length = 32 := by rw [q1, hn]
      obtain ⟨w, ct⟩ := own_turn S (l := one) l1 (s := pre.foldl (cstep one) ⟨[], []⟩) (by omega) (by omega) (r := p) (by rw [e]; simp) (by
        rw [h2']
        have nd := rowsC_nodup one
        rw [e, List.map_append, List.map_cons] at nd
        intro z
        exact (List.nodup_append.mp nd).2.2 _ z _ (by simp) rfl) (σ := (σ1.set 11 (some (.int p.1))).set 12 (some (.int p.2))) (by simp only [List.length_set, hn1])
        (by rw [gset (by decide), gset (by decide), q2 _ (by decide) (by decide) (by decide) (by decide), h2])
        (by rw [gset (by decide), gset (by decide), q2 _ (by decide) (by decide) (by decide) (by decide), h9])
        (by rw [gset (by decide), gset (by decide), g10])
        (by rw [gset (by decide), gset0 (by omega)])
        (by rw [gset0 (by rw [List.length_set]; omega)])
      refine ⟨(σ1.set 11 (some (.int p.1))).set 12 (some (.int p.2)), _, _, rfl, .inl ct, ⟨?_, fun j a b c d => ?_⟩, ?_, by rw [List.foldl_append]; rfl⟩
      · simp only [List.length_set, q1]
      · rw [gset (Ne.symm a), gset (Ne.symm d), gset (Ne.symm c), gset (Ne.symm b), q2 j a b c d]
      · rw [gset0 (by simp only [List.length_set]; omega), List.foldl_append]; rfl
  obtain ⟨q, _, rfl⟩ := r
  exact ⟨σ', q, c2⟩
omit hn in
theorem gx_own {cl : Clr} {n : Nat} {T : Sto} (hn : σ.length = 32) (h2 : σ[2]? = some (some (.lst (one.map enc)))) (h9 : σ[9]? = some (some (.ref n))) (hT : rd T (.ref n) = .dct ((cols one).as.map kvE)) : ev cl (.lc (.nm 12) (.rng1 (.bi .len (.cons (.var 2) .nil))) (.lit (.bl true)) (.idx (.var 9) (.var 12)) [("k", 12)]) σ T = .ok (.lst ((columnsL one).map .int)) T := by
  have ga := gather (cols one).as one (fun i hi => find_at d1.oks hi)
  have hr := rng_columns (cl := cl) (σ := σ) (S := T) (i := 2) (ws := one.map enc) (by rw [List.length_map]; omega) h2
  rw [List.length_map] at hr
  rw [lc_map (fun i : Nat => Wv.int (0 + (i : Int))) (List.range one.length) hr (itW_lst (by simp; omega)) (fun i : Nat => [.int (colOf (cols one).as (i : Int))]) fun i hi => ?_]
  · rw [flat_one]
    unfold columnsL
    rw [List.map_map]
    rfl
  · have g := ga i (List.mem_range.mp hi) T n hT
    have k12 : ((σ.set 12 none).set 12 (some (.int (0 + (i : Int)))))[12]? = some (some (.int (0 + (i : Int)))) := gset0 (by simp only [List.length_set]; omega)
    have k9 : ((σ.set 12 none).set 12 (some (.int (0 + (i : Int)))))[9]? = some (some (.ref n)) := by rw [gset (by decide), gset (by decide), h9]
    show lcF (.nm 12) _ _ (wipeW σ [12]) (.int (0 + (i : Int))) T = _
    rw [lcF_at (σ' := (σ.set 12 none).set 12 (some (.int (0 + (i : Int))))) rfl]
    simp only [ev_lit, bind_ok, iteK_bl, if_true, ev_idx, ev_v k12, ev_v k9, g]
theorem t11 {n : Nat} {T : Sto} (h2 : σ[2]? = some (some (.lst (one.map enc)))) (h7 : σ[7]? = some (some (.int (most one).best))) (h8 : σ[8]? = some (some (.lst ((columnsL one).map .int)))) (h9 : σ[9]? = some (some (.ref n))) (hT : rd T (.ref n) = .dct ((cols one).as.map kvE)) : ex (run D.FT 11) b11 σ T = .nx σ T := by
  have e := eq_lst (columnsL one) (columnsL one)
  rw [decide_eq_true rfl] at e
  have e : eqD (.lst ((columnsL one).map .int)) (.lst ((columnsL one).map .int)) = some true := e
  have e0 := eq_lst0 one
  unfold b11
  rw [ex_ifs, ev_or, ev_cmp, ev_v h8, bind_ok, gx_own d1 l1 hn h2 h9 hT]
  simp only [bind_ok, w_neS, rd_lstS, e, ofB_someT, Bool.not_true, orK_b, Bool.false_eq_true, if_false]
  by_cases hne : one = []
  · rw [decide_eq_true hne] at e0
    simp [h2, e0, sizeLine_eq, andK_b]
  · rw [decide_eq_false hne] at e0
    obtain ⟨x, xs, e1, e2⟩ := columns_max d1.oks hne
    have m := w_max1 x xs T
    rw [← e1] at m
    have e2 : List.foldl max x xs + 1 = (most one).best := e2
    simp [h2, h8, h7, e0, sizeLine_eq, andK_b, m, e2]
end
end K02

end
section
set_option Elab.async false
set_option linter.all false
set_option maxRecDepth 100000
set_option maxHeartbeats 1000000
/-! k02: statements 12 to 18. -/
namespace K02
open PySem Dy L2
open Enc (enc)
theorem rng_rise (p : Sp) : (rng p).Pairwise (· < ·) := by
  unfold rng
  rw [List.pairwise_map]
  exact List.pairwise_lt_range.imp fun {a b} h => by omega
theorem mins_one (p : Sp) : mins [p] = rng p := rise_eq (mins_rise _) (rng_rise p) fun x => by rw [mins_mem, rng_mem]; exact cov_one
def shL (p q : Sp) : List Int := rng (max p.1 q.1, min p.2 q.2)
theorem sh_filter (p q : Sp) : (rng p).filter (fun m => decide (m ∈ rng q)) = shL p q := rise_eq ((rng_rise p).filter _) (rng_rise _) fun x => by
  rw [List.mem_filter, decide_eq_true_eq, rng_mem, rng_mem]
  unfold shL
  rw [rng_mem]
  simp only []
  omega
theorem rng_nil (p : Sp) : rng p = [] ↔ p.2 ≤ p.1 := by
  have h := rng_len p
  constructor
  · intro z
    rw [z] at h
    simp only [List.length_nil] at h
    omega
  · intro z
    exact List.eq_nil_of_length_eq_zero (by omega)
theorem rng_inj {p q : Sp} (h : p.1 < p.2) (h2 : q.1 < q.2) (e : rng p = rng q) : p = q := by
  have a := fun x => (rng_mem p x).symm.trans ((by rw [e] : x ∈ rng p ↔ x ∈ rng q).trans (rng_mem q x))
  have a1 := a p.1
  have a2 := a (p.2 - 1)
  have a3 := a q.1
  have a4 := a (q.2 - 1)
  exact Prod.ext (by omega) (by omega)
theorem rng_at0 {p : Sp} (h : p.1 < p.2) : atI ((rng p).map Wv.int) 0 = some (.int p.1) := by
  have := atI_nat (ws := (rng p).map Wv.int) 0
  have e : ((0 : Nat) : Int) = 0 := rfl
  rw [e] at this
  rw [this]
  unfold rng
  rw [List.map_map, List.getElem?_map, List.getElem?_range (by omega)]
  simp
theorem rng_last {p : Sp} (h : p.1 < p.2) : atI ((rng p).map Wv.int) (-1) = some (.int (p.2 - 1)) := by
  rw [atI_lastW, List.getLast?_eq_getElem?, List.length_map, rng_len]
  unfold rng
  rw [List.map_map, List.getElem?_map, List.getElem?_range (by omega)]
  simp
  omega
/-- how they lie, first word -/
def lie1 (p q : Sp) : Str := if p = q then "same" else if p.2 < q.1 then "before" else if q.2 < p.1 then "behind" else if shL p q = [] then "touches" else ""
theorem sh_nil (p q : Sp) : shL p q = [] ↔ min p.2 q.2 ≤ max p.1 q.1 := by unfold shL; exact rng_nil _
theorem lie_a {p q : Sp} (h : p.1 < p.2) (h2 : q.1 < q.2) (e : lie1 p q ≠ "") : lieS p q = lie1 p q := by
  unfold lie1 at e ⊢
  unfold lieS
  by_cases c1 : p = q
  · rw [if_pos c1, if_pos c1]
  · rw [if_neg c1] at e ⊢
    rw [if_neg c1]
    by_cases c2 : p.2 < q.1
    · rw [if_pos c2, if_pos c2]
    · rw [if_neg c2] at e ⊢
      rw [if_neg c2]
      by_cases c3 : q.2 < p.1
      · rw [if_pos c3, if_pos c3]
      · rw [if_neg c3] at e ⊢
        rw [if_neg c3]
        by_cases c4 : shL p q = []
        · rw [if_pos c4, if_pos]
          have := (sh_nil p q).mp c4
          omega
        · rw [if_neg c4] at e
          exact absurd rfl e
theorem lie_b {p q : Sp} (h : p.1 < p.2) (h2 : q.1 < q.2) (e : lie1 p q = "") : lieS p q = if shL p q = rng q then "holds" else if shL p q = rng p then "within" else "meets" := by
  unfold lie1 at e
  unfold lieS
  by_cases c1 : p = q
  · rw [if_pos c1] at e; exact absurd e (by decide)
  · rw [if_neg c1] at e ⊢
    by_cases c2 : p.2 < q.1
    · rw [if_pos c2] at e; exact absurd e (by decide)
    · rw [if_neg c2] at e ⊢
      by_cases c3 : q.2 < p.1
      · rw [if_pos c3] at e; exact absurd e (by decide)
      · rw [if_neg c3] at e ⊢
        by_cases c4 : shL p q = []
        · rw [if_pos c4] at e; exact absurd e (by decide)
        · have c5 : ¬ min p.2 q.2 ≤ max p.1 q.1 := fun z => c4 ((sh_nil p q).mpr z)
          rw [if_neg (by omega)]
          have hs : (max p.1 q.1, min p.2 q.2).1 < (max p.1 q.1, min p.2 q.2).2 := by simp only []; omega
          have eq_ : shL p q = rng q ↔ (p.1 ≤ q.1 ∧ p.2 ≥ q.2) := by
            constructor
            · intro z
              have := rng_inj hs h2 z
              have a := congrArg Prod.fst this
              have b := congrArg Prod.snd this
              simp only [] at a b
              omega
            · intro z
              unfold shL
              congr 1
              exact Prod.ext (by simp only []; omega) (by simp only []; omega)
          have ep_ : shL p q = rng p ↔ (p.1 ≥ q.1 ∧ p.2 ≤ q.2) := by
            constructor
            · intro z
              have := rng_inj hs h z
              have a := congrArg Prod.fst this
              have b := congrArg Prod.snd this
              simp only [] at a b
              omega
            · intro z
              unfold shL
              congr 1
              exact Prod.ext (by simp only []; omega) (by simp only []; omega)
          by_cases c6 : p.1 ≤ q.1 ∧ p.2 ≥ q.2
          · rw [if_pos c6, if_pos (eq_.mpr c6)]
          · rw [if_neg c6, if_neg (fun z => c6 (eq_.mp z))]
            by_cases c7 : p.1 ≥ q.1 ∧ p.2 ≤ q.2
            · rw [if_pos c7, if_pos (ep_.mpr c7)]
            · rw [if_neg c7, if_neg (fun z => c7 (ep_.mp z))]
theorem set_same {σ : Sl} {i : Nat} {w : Option Wv} (h : σ[i]? = some w) : σ.set i w = σ := by
  obtain ⟨hlt, he⟩ := List.getElem?_eq_some_iff.mp h
  rw [← he]
  exact List.set_getElem_self hlt
section
variable {σ : Sl} {S : Sto}
theorem t12 {one : List Sp} (d1 : Drawn one) (l1 : one.length ≤ 10) (p : Int × Int × Int) (T : Sto) (h1 : σ[1]? = some (some (.ref 0))) (h2 : σ[2]? = some (some (.lst (one.map enc)))) :
    ∃ (s o : Sp) (p' : Int × Int × Int), (5 ≤ s.1 ∧ s.1 ≤ 12 ∧ 14 ≤ s.2 ∧ s.2 ≤ 21) ∧ (0 ≤ o.1 ∧ o.1 < o.2 ∧ o.2 ≤ 40) ∧ ex (run D.FT 11) b12 σ (dT p T) = .nx ((σ.set 14 (some (.tup [.int s.1, .int s.2]))).set 15 (some (.tup [.int o.1, .int o.2]))) (dT p' T) := by
  obtain ⟨a, p1, ha, e1⟩ := r_rollT 10 p T (many := 8) (by omega)
  obtain ⟨b, p2, hb, e2⟩ := r_rollT 10 p1 T (many := 8) (by omega)
  simp only [Nat.reduceAdd] at e1 e2
  have z := sizeLine_eq
  obtain ⟨o, ho, hl⟩ : ∃ o : Sp, (0 ≤ o.1 ∧ o.1 < o.2 ∧ o.2 ≤ 40) ∧ (((9, 12) : Sp) :: one).getLast? = some o := by
    have hne : (((9, 12) : Sp) :: one) ≠ [] := by simp
    refine ⟨_, ?_, List.getLast?_eq_some_getLast hne⟩
    have hm := List.getLast_mem hne
    rcases List.mem_cons.mp hm with h | h
    · rw [h]; omega
    · have := d1 _ h; omega
  refine ⟨(5 + a, 14 + b), o, p2, by simp only []; omega, ho, ?_⟩
  have ad := w_addL [.tup [.int 9, .int 12]] (one.map enc) (dT p2 T) (by simp; omega)
  have at_ : atI (.tup [.int 9, .int 12] :: one.map enc) (-1) = some (.tup [.int o.1, .int o.2]) := by
    have : (Wv.tup [.int 9, .int 12] :: one.map enc) = (((9, 12) : Sp) :: one).map enc := rfl
    rw [this, atI_lastW, getLast_enc, hl]
    rfl
  generalize one.map enc = L at h2 ad at_
  simp [b12, h1, h2, e1, e2, z, ad, at_]
theorem r_min1 (p : Sp) (hp : p.1 < p.2) (bp : 0 ≤ p.1 ∧ p.2 ≤ 40) : run D.FT 11 "_law_minutes" [.lst [.tup [.int p.1, .int p.2]]] S = .ok (.lst ((rng p).map .int)) S := by
  have m := r_minutes 10 S (w := .lst [.tup [.int p.1, .int p.2]]) (l := [p]) (itW_lst (ws := [enc p]) (by simp)) (fun q hq => by simp at hq; subst hq; omega) (by simp)
  rw [mins_one] at m
  exact m
section
variable {s o : Sp} (hs : s.1 < s.2) (ho : o.1 < o.2) (bs : 0 ≤ s.1 ∧ s.2 ≤ 40) (bo : 0 ≤ o.1 ∧ o.2 ≤ 40) (h14 : σ[14]? = some (some (.tup [.int s.1, .int s.2]))) (h15 : σ[15]? = some (some (.tup [.int o.1, .int o.2])))
theorem ev_min {i : Nat} {p : Sp} (hp : p.1 < p.2) (bp : 0 ≤ p.1 ∧ p.2 ≤ 40) {τ : Sl} (h : τ[i]? = some (some (.tup [.int p.1, .int p.2]))) : ev (run D.FT 11) (.call "_law_minutes" (.cons (.lst (.cons (.var i) .nil)) .nil)) τ S = .ok (.lst ((rng p).map .int)) S := by
  have m := r_min1 (S := S) p hp bp
  have z := sizeLine_eq
  rw [ev_call, ev_cons, ev_lst, ev_cons, ev_v h]
  simp only [bind_ok, ev_nil, List.length_cons, List.length_nil, z]
  simpa using m
include hs ho bs bo h14 h15
theorem t13 (hn : σ.length = 32) : ex (run D.FT 11) b13 σ S = .nx (σ.set 16 (some (.lst ((shL s o).map .int)))) S := by
  unfold b13
  have hz : (rng s).length ≤ 40 := by rw [rng_len]; omega
  rw [ex_set, lc_map Wv.int (rng s) (w := .lst ((rng s).map .int)) (S1 := S) (ev_min hs bs h14) (itW_lst (by simp; omega)) (fun m => if (fun m => decide (m ∈ rng o)) m = true then [.int m] else []) fun m hm => ?_]
  · rw [flat_filter, sh_filter]
    rfl
  · have k25 : ((σ.set 25 none).set 25 (some (.int m)))[25]? = some (some (.int m)) := gset0 (by simp only [List.length_set]; omega)
    have k15 : ((σ.set 25 none).set 25 (some (.int m)))[15]? = some (some (.tup [.int o.1, .int o.2])) := by rw [gset (by decide), gset (by decide), h15]
    show lcF (.nm 25) _ _ (wipeW σ [25]) (.int m) S = _
    rw [lcF_at (σ' := (σ.set 25 none).set 25 (some (.int m))) rfl, ev_cmp, ev_v k25, bind_ok, ev_min ho bo k15]
    simp only [bind_ok, w_inS, rd_lstS, mem_ints, ofB_someF, iteK_bl, ev_v k25]
    split <;> rfl
theorem t14 (h16 : σ[16]? = some (some (.lst ((shL s o).map .int)))) : ex (run D.FT 11) b14 σ S = .nx (σ.set 17 (some (.str (lie1 s o)))) S := by
  have e := eq_enc s o (by decide)
  have e : eqD (.tup [.int s.1, .int s.2]) (.tup [.int o.1, .int o.2]) = some (decide (s = o)) := e
  have e0 := eq_lst0 (shL s o)
  have e0 : eqD (.lst ((shL s o).map .int)) (.lst []) = some (decide (shL s o = [])) := e0
  have z := sizeLine_eq
  generalize hL : lie1 s o = L
  unfold lie1 at hL
  generalize shL s o = M at *
  by_cases c1 : s = o
  · rw [if_pos c1] at hL
    subst hL
    rw [decide_eq_true c1] at e
    simp [b14, h14, h15, e]
  · rw [if_neg c1] at hL
    rw [decide_eq_false c1] at e
    by_cases c2 : s.2 < o.1
    · rw [if_pos c2] at hL
      subst hL
      simp [b14, h14, h15, e, c2]
    · rw [if_neg c2] at hL
      by_cases c3 : o.2 < s.1
      · rw [if_pos c3] at hL
        subst hL
        simp [b14, h14, h15, e, c2, c3]
      · rw [if_neg c3] at hL
        by_cases c4 : M = []
        · rw [if_pos c4] at hL
          subst hL
          rw [decide_eq_true c4] at e0
          simp [b14, h14, h15, h16, e, c2, c3, e0, z]
        · rw [if_neg c4] at hL
          subst hL
          rw [decide_eq_false c4] at e0
          simp [b14, h14, h15, h16, e, c2, c3, e0, z]
theorem t15 (h16 : σ[16]? = some (some (.lst ((shL s o).map .int)))) (h17 : σ[17]? = some (some (.str (lie1 s o)))) : ex (run D.FT 11) b15 σ S = .nx (σ.set 17 (some (.str (lieS s o)))) S := by
  have e := eq_enc (lie1 s o) ("" : Str) (by decide)
  have e : eqD (.str (lie1 s o)) (.str "") = some (decide (lie1 s o = "")) := e
  unfold b15
  by_cases c : lie1 s o = ""
  · rw [decide_eq_true c] at e
    have l := lie_b hs ho c
    have e1 := eq_lst (shL s o) (rng o)
    have e1 : eqD (.lst ((shL s o).map .int)) (.lst ((rng o).map .int)) = some (decide (shL s o = rng o)) := e1
    have e2 := eq_lst (shL s o) (rng s)
    have e2 : eqD (.lst ((shL s o).map .int)) (.lst ((rng s).map .int)) = some (decide (shL s o = rng s)) := e2
    have m1 := ev_min (S := S) ho bo h15
    have m2 := ev_min (S := S) hs bs h14
    rw [ex_ifs, ev_cmp, ev_v h17]
    simp only [bind_ok, ev_lit, w_eqS, rd_strS, e, ofB_someF, bs_ok, iteS_bl, if_true]
    rw [ex_seq', ex_set, ev_ite, ev_cmp, ev_v h16, bind_ok, m1]
    simp only [bind_ok, w_eqS, rd_lstS, e1, ofB_someF, iteK_bl]
    rw [l]
    by_cases c1 : shL s o = rng o
    · rw [if_pos c1, if_pos (decide_eq_true c1)]
      simp
    · rw [if_neg c1, if_neg (by simp [c1]), ev_ite, ev_cmp, ev_v h16, bind_ok, m2]
      simp only [bind_ok, w_eqS, rd_lstS, e2, ofB_someF, iteK_bl]
      by_cases c2 : shL s o = rng s
      · rw [if_pos c2, if_pos (decide_eq_true c2)]
        simp
      · rw [if_neg c2, if_neg (by simp [c2])]
        simp
  · rw [decide_eq_false c] at e
    have l := lie_a hs ho c
    rw [l, set_same h17]
    simp [h17, e]
theorem t16 (h16 : σ[16]? = some (some (.lst ((shL s o).map .int)))) : ex (run D.FT 11) b16 σ S = .nx σ S := by
  have j := r_meet 9 S s o hs ho
  simp only [Nat.reduceAdd, enc_sp] at j
  have e0 := eq_lst0 (shL s o)
  have e0 : eqD (.lst ((shL s o).map .int)) (.lst []) = some (decide (shL s o = [])) := e0
  have e := eq_enc (decide (s.1 < o.2) && decide (o.1 < s.2)) (!decide (shL s o = [])) (by decide)
  have e : eqD (.bl (decide (s.1 < o.2) && decide (o.1 < s.2))) (.bl (!decide (shL s o = []))) = some (decide ((decide (s.1 < o.2) && decide (o.1 < s.2)) = (!decide (shL s o = [])))) := e
  have hv : (decide (s.1 < o.2) && decide (o.1 < s.2)) = (!decide (shL s o = [])) := by
    have := sh_nil s o
    by_cases c : shL s o = []
    · have := this.mp c
      rw [decide_eq_true c]
      simp
      omega
    · have : ¬ min s.2 o.2 ≤ max s.1 o.1 := fun z => c (this.mpr z)
      rw [decide_eq_false c]
      simp
      omega
  rw [decide_eq_true hv] at e
  unfold b16
  rw [ex_ifs, ev_cmp]
  have sv : ev (run D.FT 11) (.call "spans_meet" (.cons (.var 14) (.cons (.var 15) .nil))) σ S = .ok (.bl (decide (s.1 < o.2) && decide (o.1 < s.2))) S := by
    rw [ev_call, ev_cons, ev_v h14, bind_ok, ev_cons, ev_v h15]
    simp only [bind_ok, ev_nil]
    exact j
  rw [sv]
  simp only [bind_ok, ev_cmp, ev_v h16, ev_lst, ev_nil, List.length_nil, Nat.zero_le, if_true, w_neS, rd_lstS, e0, ofB_someT, rd_bl, e]
  simp
theorem t17 (h16 : σ[16]? = some (some (.lst ((shL s o).map .int)))) : ex (run D.FT 11) b17 σ S = .nx σ S := by
  have j := r_shared 8 S s o hs ho
  simp only [Nat.reduceAdd, enc_sp] at j
  have z := sizeLine_eq
  have e0 := eq_lst0 (shL s o)
  have e0 : eqD (.lst ((shL s o).map .int)) (.lst []) = some (decide (shL s o = [])) := e0
  have sv : ev (run D.FT 11) (.call "shared_span" (.cons (.var 14) (.cons (.var 15) .nil))) σ S = .ok (shareW s o) S := by
    rw [ev_call, ev_cons, ev_v h14, bind_ok, ev_cons, ev_v h15]
    simp only [bind_ok, ev_nil]
    exact j
  unfold b17
  rw [ex_ifs, ev_cmp, sv, bind_ok]
  unfold shareW
  by_cases c : shL s o = []
  · have c' := (sh_nil s o).mp c
    rw [decide_eq_true c] at e0
    rw [if_neg (by omega)]
    have en : eqD .non .non = some true := by rfl
    simp [h16, e0, z, en]
  · have c' : ¬ min s.2 o.2 ≤ max s.1 o.1 := fun z => c ((sh_nil s o).mpr z)
    rw [decide_eq_false c] at e0
    rw [if_pos (by omega)]
    have hlt : (max s.1 o.1, min s.2 o.2).1 < (max s.1 o.1, min s.2 o.2).2 := by simp only []; omega
    have a0 := rng_at0 hlt
    have a1 := rng_last hlt
    simp only [] at a0 a1
    have hsh : rng (max s.1 o.1, min s.2 o.2) = shL s o := rfl
    rw [hsh] at a0 a1
    have e := eq_enc ((max s.1 o.1, min s.2 o.2) : Sp) (max s.1 o.1, min s.2 o.2) (by decide)
    rw [decide_eq_true rfl] at e
    have e : eqD (.tup [.int (max s.1 o.1), .int (min s.2 o.2)]) (.tup [.int (max s.1 o.1), .int (min s.2 o.2)]) = some true := e
    rw [enc_sp]
    generalize (shL s o).map Wv.int = L at *
    have fix : min s.2 o.2 - 1 + 1 = min s.2 o.2 := by omega
    simp [h16, e0, z, a0, a1, fix, e]
theorem t18 (h17 : σ[17]? = some (some (.str (lieS s o)))) : ex (run D.FT 11) b18 σ S = .nx σ S := by
  have j := r_lie 9 S s o hs ho
  have k := r_long 9 S s hs
  simp only [Nat.reduceAdd, enc_sp] at j k
  have e := eq_enc (lieS s o) (lieS s o) (by decide)
  rw [decide_eq_true rfl] at e
  have e : eqD (.str (lieS s o)) (.str (lieS s o)) = some true := e
  simp [b18, h14, h15, h17, j, k, e, orK_b]
end
end
end K02

end
section
set_option Elab.async false
set_option linter.all false
set_option maxRecDepth 100000
set_option maxHeartbeats 1000000
/-! k02: statements 19 to 27. -/
namespace K02
open PySem Dy L2
open Enc (enc)
theorem rng2_ok {a b : Int} (S : Sto) (h1 : -1000000 ≤ a ∧ a ≤ 1000000) (h2 : -1000000 ≤ b ∧ b ≤ 1000000) : rng2W (.int a) (.int b) S = .ok (.lst ((rng (a, b)).map .int)) S := by
  show (if -(2 ^ 62) ≤ a ∧ a < 2 ^ 62 ∧ -(2 ^ 62) ≤ b ∧ b < 2 ^ 62 then Res.ok (.lst ((List.range (b - a).toNat).map fun k : Nat => Wv.int (a + (k : Int)))) S else .bad) = _
  rw [if_pos (by omega)]
  unfold rng
  rw [List.map_map]
  rfl
theorem sum_telB (f F : Nat → Int) (N : Nat) (h0 : F 0 = 0) (hs : ∀ n, n < N → F (n + 1) = F n + f n) : ∀ n, n ≤ N → ((List.range n).map f).sum = F n
  | 0, _ => by simp [h0]
  | n + 1, h => by
    rw [List.range_succ, List.map_append, List.sum_append, sum_telB f F N h0 hs n (by omega), hs n (by omega)]
    simp
theorem days_sum (p : Sp) (h : p.1 < p.2) (h0 : 0 ≤ p.1) : ((daysL p).map fun t => t.c - t.b).sum = p.2 - p.1 := by
  unfold daysL
  rw [List.map_map, sum_telB _ (fun n : Nat => max 0 (min p.2 (1440 * (p.1 / 1440 + (n : Int))) - p.1)) ((p.2 - 1) / 1440 + 1 - p.1 / 1440).toNat ?_ ?_ _ (Nat.le_refl _)]
  · omega
  · omega
  · intro n hn
    show _ = _ + ((dayT p (p.1 / 1440 + (n : Int))).c - (dayT p (p.1 / 1440 + (n : Int))).b)
    unfold dayT
    simp only []
    omega
def lawDs (p : Sp) : List Int := ((List.range 6).map fun i : Nat => (0 + (i : Int))).filter fun d => decide (1440 * d < p.2) && decide (p.1 < 1440 * d + 1440)
theorem days_law (p : Sp) (h : p.1 < p.2) (h0 : 0 ≤ p.1) (h1 : p.2 ≤ 8640) : lawDs p = rng (p.1 / 1440, (p.2 - 1) / 1440 + 1) := by
  refine rise_eq (List.Pairwise.filter _ ?_) (rng_rise _) fun x => ?_
  · rw [List.pairwise_map]
    exact List.pairwise_lt_range.imp fun {a b} h => by omega
  · unfold lawDs
    rw [List.mem_filter, rng_mem, List.mem_map]
    simp only [Bool.and_eq_true, decide_eq_true_eq]
    constructor
    · rintro ⟨⟨i, hi, rfl⟩, h1, h2⟩
      omega
    · rintro ⟨a, b⟩
      refine ⟨⟨x.toNat, by rw [List.mem_range]; omega, by omega⟩, by omega, by omega⟩
theorem days_eq (p : Sp) (h : p.1 < p.2) (h0 : 0 ≤ p.1) (h1 : p.2 ≤ 8640) : (lawDs p).map (fun d => (⟨d, max p.1 (1440 * d) - 1440 * d, min p.2 (1440 * d + 1440) - 1440 * d⟩ : T3 Int Int Int)) = daysL p := by
  rw [days_law p h h0 h1]
  unfold rng daysL
  rw [List.map_map]
  refine List.map_congr_left fun i hi => ?_
  have hi := List.mem_range.mp hi
  show (⟨p.1 / 1440 + (i : Int), max p.1 (1440 * (p.1 / 1440 + (i : Int))) - 1440 * (p.1 / 1440 + (i : Int)), min p.2 (1440 * (p.1 / 1440 + (i : Int)) + 1440) - 1440 * (p.1 / 1440 + (i : Int))⟩ : T3 Int Int Int) = dayT p (p.1 / 1440 + (i : Int))
  unfold dayT
  congr 1 <;> omega
section
variable {σ : Sl} {S : Sto}
theorem t19 (p : Int × Int × Int) (T : Sto) (h1 : σ[1]? = some (some (.ref 0))) :
    ∃ (a b c d : Int) (p' : Int × Int × Int), (1 ≤ a ∧ a ≤ 5) ∧ (1 ≤ b ∧ b ≤ 6) ∧ (0 ≤ c ∧ c ≤ 3) ∧ (0 ≤ d ∧ d ≤ 3) ∧ ex (run D.FT 11) b19 σ (dT p T) = .nx ((((σ.set 18 (some (.int a))).set 19 (some (.int b))).set 20 (some (.int c))).set 21 (some (.int d))) (dT p' T) := by
  obtain ⟨a, p1, ha, e1⟩ := r_rollT 10 p T (many := 5) (by omega)
  obtain ⟨b, p2, hb, e2⟩ := r_rollT 10 p1 T (many := 6) (by omega)
  obtain ⟨c, p3, hc, e3⟩ := r_rollT 10 p2 T (many := 4) (by omega)
  obtain ⟨d, p4, hd, e4⟩ := r_rollT 10 p3 T (many := 4) (by omega)
  simp only [Nat.reduceAdd] at e1 e2 e3 e4
  refine ⟨1 + a, 1 + b, c, d, p4, by omega, by omega, by omega, by omega, ?_⟩
  simp [b19, h1, e1, e2, e3, e4, sizeLine_eq]
theorem t25 (p : Int × Int × Int) (T : Sto) (h1 : σ[1]? = some (some (.ref 0))) :
    ∃ (f : Sp) (p' : Int × Int × Int), (0 ≤ f.1 ∧ f.1 < 4000 ∧ 4001 ≤ f.2 ∧ f.2 ≤ 8000) ∧ ex (run D.FT 11) b25 σ (dT p T) = .nx (σ.set 23 (some (.tup [.int f.1, .int f.2]))) (dT p' T) := by
  obtain ⟨a, p1, ha, e1⟩ := r_rollT 10 p T (many := 4000) (by omega)
  obtain ⟨b, p2, hb, e2⟩ := r_rollT 10 p1 T (many := 4000) (by omega)
  simp only [Nat.reduceAdd] at e1 e2
  refine ⟨(a, 4001 + b), p2, by simp only []; omega, ?_⟩
  simp [b25, h1, e1, e2, sizeLine_eq]
section
variable {s : Sp} (hs : s.1 < s.2) (bs : 5 ≤ s.1 ∧ s.1 ≤ 12 ∧ 14 ≤ s.2 ∧ s.2 ≤ 21) (h14 : σ[14]? = some (some (.tup [.int s.1, .int s.2])))
include hs bs h14
theorem t20 {one : List Sp} (d1 : Drawn one) (l1 : one.length ≤ 10) (hn : σ.length = 32) {b : Int} (hb : 1 ≤ b ∧ b ≤ 6) (h4 : σ[4]? = some (some (.lst ((mins one).map .int)))) (h19 : σ[19]? = some (some (.int b))) :
    ex (run D.FT 11) b20 σ S = .nx (σ.set 22 (some (.lst ((gapsL one s.1 s.2 b).map .int)))) S := by
  have z := sizeLine_eq
  have ml := mins_len d1 l1
  have inner : ∀ (τ : Sl) (m : Int), τ.length = 32 → (0 ≤ m ∧ m ≤ 100) → τ[4]? = some (some (.lst ((mins one).map .int))) → τ[19]? = some (some (.int b)) → τ[25]? = some (some (.int m)) →
      ev (run D.FT 11) (.cmp .eq (.lc (.nm 2) (.rng2 (.var 25) (.bin .add (.var 25) (.var 19))) (.cmp .isin (.var 2) (.var 4)) (.var 2) [("one", 2)]) (.lst .nil)) τ S = .ok (.bl (decide ((rng (m, m + b)).filter (fun x => decide (x ∈ mins one)) = []))) S := by
    intro τ m hl hm g4 g19 g25
    have hr : ev (run D.FT 11) (.rng2 (.var 25) (.bin .add (.var 25) (.var 19))) τ S = .ok (.lst ((rng (m, m + b)).map .int)) S := by
      rw [ev_rng2, ev_v g25, bind_ok, ev_bin, ev_v g25, bind_ok, ev_v g19, bind_ok, w_add, bind_ok]
      exact rng2_ok S (by omega) (by omega)
    have e0 := eq_lst0 ((rng (m, m + b)).filter (fun x => decide (x ∈ mins one)))
    have e0 : eqD (.lst (((rng (m, m + b)).filter (fun x => decide (x ∈ mins one))).map .int)) (.lst []) = some (decide ((rng (m, m + b)).filter (fun x => decide (x ∈ mins one)) = [])) := e0
    have hz : (rng (m, m + b)).length ≤ 40 := by rw [rng_len]; simp only []; omega
    rw [ev_cmp, lc_map Wv.int (rng (m, m + b)) hr (itW_lst (by simp; omega)) (fun x => if (fun x => decide (x ∈ mins one)) x = true then [.int x] else []) fun x hx => ?_]
    · rw [flat_filter]
      simp only [bind_ok, ev_lst, ev_nil, List.length_nil, Nat.zero_le, if_true, w_eqS, rd_lstS, e0, ofB_someF]
    · have k2 : ((τ.set 2 none).set 2 (some (.int x)))[2]? = some (some (.int x)) := gset0 (by simp only [List.length_set]; omega)
      have k4 : ((τ.set 2 none).set 2 (some (.int x)))[4]? = some (some (.lst ((mins one).map .int))) := by rw [gset (by decide), gset (by decide), g4]
      show lcF (.nm 2) _ _ (wipeW τ [2]) (.int x) S = _
      rw [lcF_at (σ' := (τ.set 2 none).set 2 (some (.int x))) rfl]
      simp only [ev_cmp, ev_v k2, ev_v k4, bind_ok, w_inS, rd_lstS, mem_ints, ofB_someF, iteK_bl]
      split <;> rfl
  have hr : ev (run D.FT 11) (.rng2 (.idx (.var 14) (.lit (.int 0))) (.bin .add (.bin .sub (.idx (.var 14) (.lit (.int 1))) (.var 19)) (.lit (.int 1)))) σ S = .ok (.lst ((rng (s.1, s.2 - b + 1)).map .int)) S := by
    have := rng2_ok (a := s.1) (b := s.2 - b + 1) S (by omega) (by omega)
    simp [h14, h19, this]
  have hz : (rng (s.1, s.2 - b + 1)).length ≤ 40 := by rw [rng_len]; simp only []; omega
  unfold b20
  rw [ex_set, lc_map Wv.int (rng (s.1, s.2 - b + 1)) hr (itW_lst (by simp; omega)) (fun m => if (fun m => decide ((rng (m, m + b)).filter (fun x => decide (x ∈ mins one)) = [])) m = true then [.int m] else []) fun m hm => ?_]
  · rw [flat_filter]
    rfl
  · have hm := (rng_mem _ _).mp hm
    simp only [] at hm
    have k25 : ((σ.set 25 none).set 25 (some (.int m)))[25]? = some (some (.int m)) := gset0 (by simp only [List.length_set]; omega)
    show lcF (.nm 25) _ _ (wipeW σ [25]) (.int m) S = _
    have inn := inner ((σ.set 25 none).set 25 (some (.int m))) m (by simp only [List.length_set, hn]) (by omega) (by rw [gset (by decide), gset (by decide), h4]) (by rw [gset (by decide), gset (by decide), h19]) k25
    rw [lcF_at (σ' := (σ.set 25 none).set 25 (some (.int m))) rfl, inn]
    simp only [bind_ok, iteK_bl, ev_v k25]
    split <;> rfl
theorem t21 {one : List Sp} (d1 : Drawn one) (l1 : one.length ≤ 10) {b : Int} (hb : 1 ≤ b ∧ b ≤ 6) (h2 : σ[2]? = some (some (.lst (one.map enc)))) (h19 : σ[19]? = some (some (.int b))) (h22 : σ[22]? = some (some (.lst ((gapsL one s.1 s.2 b).map .int)))) :
    ex (run D.FT 11) b21 σ S = .nx σ S := by
  have z := sizeLine_eq
  have j := r_gap 7 S (itL one l1) d1.oks (by omega) s.1 s.2 b hs (by omega)
  rw [gap_ok d1.oks hs (by omega)] at j
  simp only [Nat.reduceAdd] at j
  have sv : ev (run D.FT 11) (.call "first_gap" (.cons (.var 2) (.cons (.idx (.var 14) (.lit (.int 0))) (.cons (.idx (.var 14) (.lit (.int 1))) (.cons (.var 19) .nil))))) σ S = .ok (gapR b (gapsL one s.1 s.2 b)) S := by
    simp [h2, h14, h19, j]
  have e0 := eq_lst0 (gapsL one s.1 s.2 b)
  have e0 : eqD (.lst ((gapsL one s.1 s.2 b).map .int)) (.lst []) = some (decide (gapsL one s.1 s.2 b = [])) := e0
  unfold b21
  rw [ex_ifs, ev_cmp, sv, bind_ok]
  generalize gapsL one s.1 s.2 b = G at *
  cases G with
  | nil =>
    have en : eqD .non .non = some true := by rfl
    rw [decide_eq_true rfl] at e0
    have : gapR b [] = .non := rfl
    simp [h22, this, en]
  | cons m G =>
    rw [decide_eq_false (by simp)] at e0
    have e := eq_enc ((m, m + b) : Sp) (m, m + b) (by decide)
    rw [decide_eq_true rfl] at e
    have e : eqD (.tup [.int m, .int (m + b)]) (.tup [.int m, .int (m + b)]) = some true := e
    have g : gapR b (m :: G) = .tup [.int m, .int (m + b)] := rfl
    rw [List.map_cons] at h22 e0
    simp [h22, h19, g, e0, e, z]
theorem t22 {c : Int} (hc : 1 ≤ c ∧ c ≤ 5) (hn : σ.length = 32) (h18 : σ[18]? = some (some (.int c))) : ex (run D.FT 11) b22 σ S = .nx σ S := by
  have z := sizeLine_eq
  have j := r_parts 9 S s c (by omega) (by omega) (by omega) hs
  simp only [Nat.reduceAdd, enc_sp] at j
  obtain ⟨r3, hl⟩ := rng3_ok (a := s.1) (b := s.2) (c := c) S (by omega) (by omega) (by omega) hs
  have hr : ev (run D.FT 11) (.rng3 (.idx (.var 14) (.lit (.int 0))) (.idx (.var 14) (.lit (.int 1))) (.var 18)) σ S = .ok (.lst ((begs s c).map .int)) S := by
    simp only [ev_rng3, ev_idx, ev_v h14, ev_v h18, ev_lit, bind_ok, w_idxT, at0, at1]
    exact r3
  have sv : ev (run D.FT 11) (.bn .lst1 (.cons (.call "span_parts" (.cons (.var 14) (.cons (.var 18) .nil))) .nil)) σ S = .ok (.lst ((partsL s c).map enc)) S := by
    simp [h14, h18, j]
  have e := eq_lst (partsL s c) (partsL s c)
  rw [decide_eq_true rfl] at e
  unfold b22
  rw [ex_ifs, ev_cmp, sv, bind_ok, lc_map Wv.int (begs s c) hr (itW_lst (by rw [List.length_map]; have : (begs s c).length ≤ 1000 := hl; omega)) (fun b : Int => [enc ((b, min (b + c) s.2) : Sp)]) fun b hb => ?_]
  · rw [flat_one]
    have : (begs s c).map (fun b : Int => enc ((b, min (b + c) s.2) : Sp)) = (partsL s c).map enc := by unfold partsL; rw [List.map_map]; rfl
    rw [this]
    simp only [bind_ok, w_neS, rd_lstS, e, ofB_someT]
    simp
  · have k11 : ((σ.set 11 none).set 11 (some (.int b)))[11]? = some (some (.int b)) := gset0 (by simp only [List.length_set]; omega)
    have k14 : ((σ.set 11 none).set 11 (some (.int b)))[14]? = some (some (.tup [.int s.1, .int s.2])) := by rw [gset (by decide), gset (by decide), h14]
    have k18 : ((σ.set 11 none).set 11 (some (.int b)))[18]? = some (some (.int c)) := by rw [gset (by decide), gset (by decide), h18]
    show lcF (.nm 11) _ _ (wipeW σ [11]) (.int b) S = _
    rw [lcF_at (σ' := (σ.set 11 none).set 11 (some (.int b))) rfl]
    simp only [ev_lit, bind_ok, iteK_bl, if_true, ev_tup, ev_cons, ev_nil, ev_idx, ev_bi, ev_bin, ev_v k11, ev_v k14, ev_v k18, w_idxT, at0, at1, w_add, w_min2, List.length_cons, List.length_nil, z]
    simp [enc_sp]
theorem t23 {c d : Int} (hc : 0 ≤ c) (hd : 0 ≤ d) (h20 : σ[20]? = some (some (.int c))) (h21 : σ[21]? = some (some (.int d))) : ex (run D.FT 11) b23 σ S = .nx σ S := by
  have z := sizeLine_eq
  have j := r_padded 9 S s c d hs hc hd
  simp only [Nat.reduceAdd, enc_sp] at j
  have e := eq_enc ((s.1 - c, s.2 + d) : Sp) (s.1 - c, s.2 + d) (by decide)
  rw [decide_eq_true rfl] at e
  have e : eqD (.tup [.int (s.1 - c), .int (s.2 + d)]) (.tup [.int (s.1 - c), .int (s.2 + d)]) = some true := e
  simp [b23, h14, h20, h21, j, e, z]
theorem t24 {c d : Int} (h20 : σ[20]? = some (some (.int c))) (h21 : σ[21]? = some (some (.int d))) : ex (run D.FT 11) b24 σ S = .nx σ S := by
  have z := sizeLine_eq
  have j := r_moved 9 S s (c - d) hs
  simp only [Nat.reduceAdd, enc_sp] at j
  have e := eq_enc ((s.1 + (c - d), s.2 + (c - d)) : Sp) (s.1 + c - d, s.2 + c - d) (by decide)
  rw [decide_eq_true (Prod.ext (by simp only []; omega) (by simp only []; omega))] at e
  have e : eqD (.tup [.int (s.1 + (c - d)), .int (s.2 + (c - d))]) (.tup [.int (s.1 + c - d), .int (s.2 + c - d)]) = some true := e
  simp [b24, h14, h20, h21, j, e, z]
end
section
variable {f : Sp} (bf : 0 ≤ f.1 ∧ f.1 < 4000 ∧ 4001 ≤ f.2 ∧ f.2 ≤ 8000) (hn : σ.length = 32) (h23 : σ[23]? = some (some (.tup [.int f.1, .int f.2])))
include bf hn h23
theorem t26 : ex (run D.FT 11) b26 σ S = .nx (σ.set 24 (some (.lst ((daysL f).map enc)))) S := by
  have z := sizeLine_eq
  have hr : ev (run D.FT 11) (.rng1 (.lit (.int 6))) σ S = .ok (.lst (((List.range 6).map fun i : Nat => (0 + (i : Int))).map Wv.int)) S := by
    rw [ev_rng1, ev_lit, bind_ok, List.map_map]
    exact rng1_ok (by decide) (by decide)
  unfold b26
  rw [ex_set, lc_map Wv.int ((List.range 6).map fun i : Nat => (0 + (i : Int))) hr (itW_lst (by simp)) (fun d => if (fun d => decide (1440 * d < f.2) && decide (f.1 < 1440 * d + 1440)) d = true then [(fun d => enc (⟨d, max f.1 (1440 * d) - 1440 * d, min f.2 (1440 * d + 1440) - 1440 * d⟩ : T3 Int Int Int)) d] else []) fun d hd => ?_]
  · rw [flat_if]
    have : (((List.range 6).map fun i : Nat => (0 + (i : Int))).filter fun d => decide (1440 * d < f.2) && decide (f.1 < 1440 * d + 1440)).map (fun d => enc (⟨d, max f.1 (1440 * d) - 1440 * d, min f.2 (1440 * d + 1440) - 1440 * d⟩ : T3 Int Int Int)) = (daysL f).map enc := by
      rw [← days_eq f (by omega) (by omega) (by omega), List.map_map]
      rfl
    rw [this]
    rfl
  · have k26 : ((σ.set 26 none).set 26 (some (.int d)))[26]? = some (some (.int d)) := gset0 (by simp only [List.length_set]; omega)
    have k23 : ((σ.set 26 none).set 26 (some (.int d)))[23]? = some (some (.tup [.int f.1, .int f.2])) := by rw [gset (by decide), gset (by decide), h23]
    have m := w_mul (S := S) 1440 d (cm_l (i := 1440) (by omega))
    show lcF (.nm 26) _ _ (wipeW σ [26]) (.int d) S = _
    rw [lcF_at (σ' := (σ.set 26 none).set 26 (some (.int d))) rfl]
    simp only [ev_lit, bind_ok, iteK_bl, if_true, ev_and, ev_cmp, ev_tup, ev_cons, ev_nil, ev_idx, ev_bi, ev_bin, ev_v k26, ev_v k23, w_idxT, at0, at1, w_add, w_sub, m, w_min2, w_max2, w_lt, w_gt, andK_bl, List.length_cons, List.length_nil, z]
    by_cases c1 : 1440 * d < f.2 <;> by_cases c2 : f.1 < 1440 * d + 1440 <;> simp [c1, c2, enc_t3]
theorem t27 (h24 : σ[24]? = some (some (.lst ((daysL f).map enc)))) : ex (run D.FT 11) b27 σ S = .nx σ S := by
  have z := sizeLine_eq
  have j := r_days 9 S f (by omega) (by omega) (by omega)
  simp only [Nat.reduceAdd, enc_sp] at j
  have e := eq_lst (daysL f) (daysL f)
  rw [decide_eq_true rfl] at e
  have sv : ev (run D.FT 11) (.bn .lst1 (.cons (.call "span_days" (.cons (.var 23) .nil)) .nil)) σ S = .ok (.lst ((daysL f).map enc)) S := by
    simp [h23, j]
  have hl : (daysL f).length ≤ 10 := by unfold daysL; rw [List.length_map, List.length_range]; omega
  have lc : ev (run D.FT 11) (.lc (.tup (.cons (.nm 26) (.cons (.nm 30) (.cons (.nm 31) .nil)))) (.var 24) (.lit (.bl true)) (.bin .sub (.var 31) (.var 30)) [("day", 26), ("first", 30), ("last", 31)]) σ S = .ok (.lst (((daysL f).map fun t => t.c - t.b).map .int)) S := by
    rw [lc_map enc (daysL f) (w := .lst ((daysL f).map enc)) (S1 := S) (ev_v h24) (itW_lst (by rw [List.length_map]; omega)) (fun t => [.int (t.c - t.b)]) fun t ht => ?_]
    · rw [flat_one, List.map_map]; rfl
    · obtain ⟨a, b, c⟩ := t
      have k30 : ((((((σ.set 31 none).set 30 none).set 26 none).set 26 (some (.int a))).set 30 (some (.int b))).set 31 (some (.int c)))[30]? = some (some (.int b)) := by simp only [List.getElem?_set, List.length_set, hn]; rfl
      have k31 : ((((((σ.set 31 none).set 30 none).set 26 none).set 26 (some (.int a))).set 30 (some (.int b))).set 31 (some (.int c)))[31]? = some (some (.int c)) := by simp only [List.getElem?_set, List.length_set, hn]; rfl
      show lcF (.tup (.cons (.nm 26) (.cons (.nm 30) (.cons (.nm 31) .nil)))) _ _ (wipeW σ [26, 30, 31]) (.tup [.int a, .int b, .int c]) S = _
      rw [lcF_at (σ' := (((((σ.set 31 none).set 30 none).set 26 none).set 26 (some (.int a))).set 30 (some (.int b))).set 31 (some (.int c))) rfl]
      simp only [ev_lit, bind_ok, iteK_bl, if_true, ev_bin, ev_v k31, ev_v k30, w_sub]
  unfold b27
  rw [ex_ifs, ev_or, ev_cmp, sv, bind_ok, ev_v h24]
  simp only [bind_ok, w_neS, rd_lstS, e, ofB_someT, Bool.not_true, orK_b, Bool.false_eq_true, if_false]
  rw [ev_cmp, ev_bi, ev_cons, lc]
  simp only [bind_ok, ev_nil, w_sum, days_sum f (by omega) (by omega)]
  simp [h23]
end
end
end K02

end
section
set_option Elab.async false
set_option linter.all false
set_option maxRecDepth 100000
set_option maxHeartbeats 0
namespace K02
open PySem Dy L2
open Enc (enc)
theorem same_lit {a0 a1 a2 a3 a4 a5 a6 a7 a8 a9 a10 a11 a12 a13 a14 a15 a16 a17 a18 a19 a20 a21 a22 a23 a24 a25 a26 a27 a28 a29 a30 a31 : Option Wv} {τ : Sl} (h : SameBut [a0, a1, a2, a3, a4, a5, a6, a7, a8, a9, a10, a11, a12, a13, a14, a15, a16, a17, a18, a19, a20, a21, a22, a23, a24, a25, a26, a27, a28, a29, a30, a31] τ) : ∃ x10 x11 x12 x13, τ = [a0, a1, a2, a3, a4, a5, a6, a7, a8, a9, x10, x11, x12, x13, a14, a15, a16, a17, a18, a19, a20, a21, a22, a23, a24, a25, a26, a27, a28, a29, a30, a31] := by
  obtain ⟨hl, hq⟩ := h
  match τ, hl with
  | [b0, b1, b2, b3, b4, b5, b6, b7, b8, b9, b10, b11, b12, b13, b14, b15, b16, b17, b18, b19, b20, b21, b22, b23, b24, b25, b26, b27, b28, b29, b30, b31], _ =>
    have e0 : b0 = a0 := Option.some.inj (hq 0 (by decide) (by decide) (by decide) (by decide))
    have e1 : b1 = a1 := Option.some.inj (hq 1 (by decide) (by decide) (by decide) (by decide))
    have e2 : b2 = a2 := Option.some.inj (hq 2 (by decide) (by decide) (by decide) (by decide))
    have e3 : b3 = a3 := Option.some.inj (hq 3 (by decide) (by decide) (by decide) (by decide))
    have e4 : b4 = a4 := Option.some.inj (hq 4 (by decide) (by decide) (by decide) (by decide))
    have e5 : b5 = a5 := Option.some.inj (hq 5 (by decide) (by decide) (by decide) (by decide))
    have e6 : b6 = a6 := Option.some.inj (hq 6 (by decide) (by decide) (by decide) (by decide))
    have e7 : b7 = a7 := Option.some.inj (hq 7 (by decide) (by decide) (by decide) (by decide))
    have e8 : b8 = a8 := Option.some.inj (hq 8 (by decide) (by decide) (by decide) (by decide))
    have e9 : b9 = a9 := Option.some.inj (hq 9 (by decide) (by decide) (by decide) (by decide))
    have e14 : b14 = a14 := Option.some.inj (hq 14 (by decide) (by decide) (by decide) (by decide))
    have e15 : b15 = a15 := Option.some.inj (hq 15 (by decide) (by decide) (by decide) (by decide))
    have e16 : b16 = a16 := Option.some.inj (hq 16 (by decide) (by decide) (by decide) (by decide))
    have e17 : b17 = a17 := Option.some.inj (hq 17 (by decide) (by decide) (by decide) (by decide))
    have e18 : b18 = a18 := Option.some.inj (hq 18 (by decide) (by decide) (by decide) (by decide))
    have e19 : b19 = a19 := Option.some.inj (hq 19 (by decide) (by decide) (by decide) (by decide))
    have e20 : b20 = a20 := Option.some.inj (hq 20 (by decide) (by decide) (by decide) (by decide))
    have e21 : b21 = a21 := Option.some.inj (hq 21 (by decide) (by decide) (by decide) (by decide))
    have e22 : b22 = a22 := Option.some.inj (hq 22 (by decide) (by decide) (by decide) (by decide))
    have e23 : b23 = a23 := Option.some.inj (hq 23 (by decide) (by decide) (by decide) (by decide))
    have e24 : b24 = a24 := Option.some.inj (hq 24 (by decide) (by decide) (by decide) (by decide))
    have e25 : b25 = a25 := Option.some.inj (hq 25 (by decide) (by decide) (by decide) (by decide))
    have e26 : b26 = a26 := Option.some.inj (hq 26 (by decide) (by decide) (by decide) (by decide))
    have e27 : b27 = a27 := Option.some.inj (hq 27 (by decide) (by decide) (by decide) (by decide))
    have e28 : b28 = a28 := Option.some.inj (hq 28 (by decide) (by decide) (by decide) (by decide))
    have e29 : b29 = a29 := Option.some.inj (hq 29 (by decide) (by decide) (by decide) (by decide))
    have e30 : b30 = a30 := Option.some.inj (hq 30 (by decide) (by decide) (by decide) (by decide))
    have e31 : b31 = a31 := Option.some.inj (hq 31 (by decide) (by decide) (by decide) (by decide))
    subst e0 e1 e2 e3 e4 e5 e6 e7 e8 e9 e14 e15 e16 e17 e18 e19 e20 e21 e22 e23 e24 e25 e26 e27 e28 e29 e30 e31
    exact ⟨b10, b11, b12, b13, rfl⟩
def VS : List Nat := [2, 3, 4, 5, 6, 7, 8, 9, 10, 11, 12, 13, 14, 15, 16, 17, 18, 19, 20, 21, 22, 23, 24]
theorem go {cl : Clr} {a b : Sm} {σ σ1 σ0 : Sl} {S S1 : Sto} {T : Sto} (h : ex cl a σ S = .nx σ1 S1) (k : ∃ σ' p', ex cl b σ1 S1 = .nx σ' (dT p' T) ∧ wipeW σ' VS = σ0) : ∃ σ' p', ex cl (.seq a b) σ S = .nx σ' (dT p' T) ∧ wipeW σ' VS = σ0 := by
  obtain ⟨σ', p', e, e2⟩ := k
  exact ⟨σ', p', by rw [ex_seq', h]; exact e, e2⟩
def lit0 (ns : List Int) : Sl := [some (.arg ns), some (.ref 0), none, none, none, none, none, none, none, none, none, none, none, none, none, none, none, none, none, none, none, none, none, none, none, none, none, none, none, none, none, none]
theorem body_ok (ns : List Int) (p : Int × Int × Int) : ∃ one σ' p', ex (run D.FT 11) bodyB [some (.arg ns), some (.ref 0), none, none, none, none, none, none, none, none, none, none, none, none, none, none, none, none, none, none, none, none, none, none, none, none, none, none, none, none, none, none] (dS p) = .nx σ' (dT p' [.dct ((cols one).as.map kvE)]) ∧ wipeW σ' VS = lit0 ns := by
  unfold bodyB
  obtain ⟨one, two, p1, d1, l1, d2, l2, e0⟩ := t0 (σ := [some (.arg ns), some (.ref 0), none, none, none, none, none, none, none, none, none, none, none, none, none, none, none, none, none, none, none, none, none, none, none, none, none, none, none, none, none, none]) p rfl
  refine ⟨one, ?_⟩
  refine go (σ1 := [some (.arg ns), some (.ref 0), some (.lst (one.map enc)), some (.lst (two.map enc)), none, none, none, none, none, none, none, none, none, none, none, none, none, none, none, none, none, none, none, none, none, none, none, none, none, none, none, none]) e0 ?_
  refine go (σ1 := [some (.arg ns), some (.ref 0), some (.lst (one.map enc)), some (.lst (two.map enc)), some (.lst ((mins one).map .int)), some (.lst ((mins two).map .int)), none, none, none, none, none, none, none, none, none, none, none, none, none, none, none, none, none, none, none, none, none, none, none, none, none, none]) (S1 := dS p1) (t1 d1 l1 d2 l2 rfl rfl) ?_
  refine go (σ1 := [some (.arg ns), some (.ref 0), some (.lst (one.map enc)), some (.lst (two.map enc)), some (.lst ((mins one).map .int)), some (.lst ((mins two).map .int)), none, none, none, none, none, none, none, none, none, none, none, none, none, none, none, none, none, none, none, none, none, none, none, none, none, none]) (t2 d1 l1 d2 l2 rfl rfl) ?_
  refine go (σ1 := [some (.arg ns), some (.ref 0), some (.lst (one.map enc)), some (.lst (two.map enc)), some (.lst ((mins one).map .int)), some (.lst ((mins two).map .int)), none, none, none, none, none, none, none, none, none, none, none, none, none, none, none, none, none, none, none, none, none, none, none, none, none, none]) (t3 d1 l1 d2 l2 rfl rfl rfl rfl rfl) ?_
  refine go (σ1 := [some (.arg ns), some (.ref 0), some (.lst (one.map enc)), some (.lst (two.map enc)), some (.lst ((mins one).map .int)), some (.lst ((mins two).map .int)), none, none, none, none, none, none, none, none, none, none, none, none, none, none, none, none, none, none, none, none, none, none, none, none, none, none]) (t4 d1 l1 d2 l2 rfl rfl) ?_
  refine go (σ1 := [some (.arg ns), some (.ref 0), some (.lst (one.map enc)), some (.lst (two.map enc)), some (.lst ((mins one).map .int)), some (.lst ((mins two).map .int)), none, none, none, none, none, none, none, none, none, none, none, none, none, none, none, none, none, none, none, none, none, none, none, none, none, none]) (t5 d1 l1 d2 l2 rfl rfl rfl rfl rfl) ?_
  refine go (σ1 := [some (.arg ns), some (.ref 0), some (.lst (one.map enc)), some (.lst (two.map enc)), some (.lst ((mins one).map .int)), some (.lst ((mins two).map .int)), some (.lst ((counts one).map .int)), none, none, none, none, none, none, none, none, none, none, none, none, none, none, none, none, none, none, none, none, none, none, none, none, none]) (t6 d1 l1 rfl rfl) ?_
  refine go (σ1 := [some (.arg ns), some (.ref 0), some (.lst (one.map enc)), some (.lst (two.map enc)), some (.lst ((mins one).map .int)), some (.lst ((mins two).map .int)), some (.lst ((counts one).map .int)), some (.int (most one).best), none, none, none, none, none, none, none, none, none, none, none, none, none, none, none, none, none, none, none, none, none, none, none, none]) (t7 d1 l1 rfl) ?_
  refine go (σ1 := [some (.arg ns), some (.ref 0), some (.lst (one.map enc)), some (.lst (two.map enc)), some (.lst ((mins one).map .int)), some (.lst ((mins two).map .int)), some (.lst ((counts one).map .int)), some (.int (most one).best), none, none, none, none, none, none, none, none, none, none, none, none, none, none, none, none, none, none, none, none, none, none, none, none]) (t8 d1 l1 rfl rfl rfl) ?_
  refine go (σ1 := [some (.arg ns), some (.ref 0), some (.lst (one.map enc)), some (.lst (two.map enc)), some (.lst ((mins one).map .int)), some (.lst ((mins two).map .int)), some (.lst ((counts one).map .int)), some (.int (most one).best), some (.lst ((columnsL one).map .int)), some (.ref 1), some (.lst []), none, none, none, none, none, none, none, none, none, none, none, none, none, none, none, none, none, none, none, none, none]) (S1 := dT p1 [.dct []]) (t9 d1 l1 rfl rfl) ?_
  obtain ⟨τ, hτ, e10⟩ := t10 (σ := [some (.arg ns), some (.ref 0), some (.lst (one.map enc)), some (.lst (two.map enc)), some (.lst ((mins one).map .int)), some (.lst ((mins two).map .int)), some (.lst ((counts one).map .int)), some (.int (most one).best), some (.lst ((columnsL one).map .int)), some (.ref 1), some (.lst []), none, none, none, none, none, none, none, none, none, none, none, none, none, none, none, none, none, none, none, none, none]) (S := dS p1) d1 l1 rfl rfl rfl rfl
  obtain ⟨x10, x11, x12, x13, rfl⟩ := same_lit hτ
  refine go (σ1 := [some (.arg ns), some (.ref 0), some (.lst (one.map enc)), some (.lst (two.map enc)), some (.lst ((mins one).map .int)), some (.lst ((mins two).map .int)), some (.lst ((counts one).map .int)), some (.int (most one).best), some (.lst ((columnsL one).map .int)), some (.ref 1), x10, x11, x12, x13, none, none, none, none, none, none, none, none, none, none, none, none, none, none, none, none, none, none]) (S1 := dT p1 [.dct ((cols one).as.map kvE)]) e10 ?_
  refine go (σ1 := [some (.arg ns), some (.ref 0), some (.lst (one.map enc)), some (.lst (two.map enc)), some (.lst ((mins one).map .int)), some (.lst ((mins two).map .int)), some (.lst ((counts one).map .int)), some (.int (most one).best), some (.lst ((columnsL one).map .int)), some (.ref 1), x10, x11, x12, x13, none, none, none, none, none, none, none, none, none, none, none, none, none, none, none, none, none, none]) (t11 (n := 1) d1 l1 rfl rfl rfl rfl rfl (rd_endD (dS p1) _)) ?_
  obtain ⟨s, w, p2, bs, bw, e12⟩ := t12 (σ := [some (.arg ns), some (.ref 0), some (.lst (one.map enc)), some (.lst (two.map enc)), some (.lst ((mins one).map .int)), some (.lst ((mins two).map .int)), some (.lst ((counts one).map .int)), some (.int (most one).best), some (.lst ((columnsL one).map .int)), some (.ref 1), x10, x11, x12, x13, none, none, none, none, none, none, none, none, none, none, none, none, none, none, none, none, none, none]) d1 l1 p1 [.dct ((cols one).as.map kvE)] rfl rfl
  refine go (σ1 := [some (.arg ns), some (.ref 0), some (.lst (one.map enc)), some (.lst (two.map enc)), some (.lst ((mins one).map .int)), some (.lst ((mins two).map .int)), some (.lst ((counts one).map .int)), some (.int (most one).best), some (.lst ((columnsL one).map .int)), some (.ref 1), x10, x11, x12, x13, some (.tup [.int s.1, .int s.2]), some (.tup [.int w.1, .int w.2]), none, none, none, none, none, none, none, none, none, none, none, none, none, none, none, none]) e12 ?_
  have hs : s.1 < s.2 := by omega
  have hw : w.1 < w.2 := by omega
  have bs2 : 0 ≤ s.1 ∧ s.2 ≤ 40 := by omega
  have bw2 : 0 ≤ w.1 ∧ w.2 ≤ 40 := by omega
  refine go (σ1 := [some (.arg ns), some (.ref 0), some (.lst (one.map enc)), some (.lst (two.map enc)), some (.lst ((mins one).map .int)), some (.lst ((mins two).map .int)), some (.lst ((counts one).map .int)), some (.int (most one).best), some (.lst ((columnsL one).map .int)), some (.ref 1), x10, x11, x12, x13, some (.tup [.int s.1, .int s.2]), some (.tup [.int w.1, .int w.2]), some (.lst ((shL s w).map .int)), none, none, none, none, none, none, none, none, none, none, none, none, none, none, none]) (t13 hs hw bs2 bw2 rfl rfl rfl) ?_
  refine go (σ1 := [some (.arg ns), some (.ref 0), some (.lst (one.map enc)), some (.lst (two.map enc)), some (.lst ((mins one).map .int)), some (.lst ((mins two).map .int)), some (.lst ((counts one).map .int)), some (.int (most one).best), some (.lst ((columnsL one).map .int)), some (.ref 1), x10, x11, x12, x13, some (.tup [.int s.1, .int s.2]), some (.tup [.int w.1, .int w.2]), some (.lst ((shL s w).map .int)), some (.str (lie1 s w)), none, none, none, none, none, none, none, none, none, none, none, none, none, none]) (t14 hs hw bs2 bw2 rfl rfl rfl) ?_
  refine go (σ1 := [some (.arg ns), some (.ref 0), some (.lst (one.map enc)), some (.lst (two.map enc)), some (.lst ((mins one).map .int)), some (.lst ((mins two).map .int)), some (.lst ((counts one).map .int)), some (.int (most one).best), some (.lst ((columnsL one).map .int)), some (.ref 1), x10, x11, x12, x13, some (.tup [.int s.1, .int s.2]), some (.tup [.int w.1, .int w.2]), some (.lst ((shL s w).map .int)), some (.str (lieS s w)), none, none, none, none, none, none, none, none, none, none, none, none, none, none]) (t15 hs hw bs2 bw2 rfl rfl rfl rfl) ?_
  refine go (σ1 := [some (.arg ns), some (.ref 0), some (.lst (one.map enc)), some (.lst (two.map enc)), some (.lst ((mins one).map .int)), some (.lst ((mins two).map .int)), some (.lst ((counts one).map .int)), some (.int (most one).best), some (.lst ((columnsL one).map .int)), some (.ref 1), x10, x11, x12, x13, some (.tup [.int s.1, .int s.2]), some (.tup [.int w.1, .int w.2]), some (.lst ((shL s w).map .int)), some (.str (lieS s w)), none, none, none, none, none, none, none, none, none, none, none, none, none, none]) (t16 hs hw bs2 bw2 rfl rfl rfl) ?_
  refine go (σ1 := [some (.arg ns), some (.ref 0), some (.lst (one.map enc)), some (.lst (two.map enc)), some (.lst ((mins one).map .int)), some (.lst ((mins two).map .int)), some (.lst ((counts one).map .int)), some (.int (most one).best), some (.lst ((columnsL one).map .int)), some (.ref 1), x10, x11, x12, x13, some (.tup [.int s.1, .int s.2]), some (.tup [.int w.1, .int w.2]), some (.lst ((shL s w).map .int)), some (.str (lieS s w)), none, none, none, none, none, none, none, none, none, none, none, none, none, none]) (t17 hs hw bs2 bw2 rfl rfl rfl) ?_
  refine go (σ1 := [some (.arg ns), some (.ref 0), some (.lst (one.map enc)), some (.lst (two.map enc)), some (.lst ((mins one).map .int)), some (.lst ((mins two).map .int)), some (.lst ((counts one).map .int)), some (.int (most one).best), some (.lst ((columnsL one).map .int)), some (.ref 1), x10, x11, x12, x13, some (.tup [.int s.1, .int s.2]), some (.tup [.int w.1, .int w.2]), some (.lst ((shL s w).map .int)), some (.str (lieS s w)), none, none, none, none, none, none, none, none, none, none, none, none, none, none]) (t18 hs hw bs2 bw2 rfl rfl rfl) ?_
  obtain ⟨a, b, c, d, p3, ha, hb, hc, hd, e19⟩ := t19 (σ := [some (.arg ns), some (.ref 0), some (.lst (one.map enc)), some (.lst (two.map enc)), some (.lst ((mins one).map .int)), some (.lst ((mins two).map .int)), some (.lst ((counts one).map .int)), some (.int (most one).best), some (.lst ((columnsL one).map .int)), some (.ref 1), x10, x11, x12, x13, some (.tup [.int s.1, .int s.2]), some (.tup [.int w.1, .int w.2]), some (.lst ((shL s w).map .int)), some (.str (lieS s w)), none, none, none, none, none, none, none, none, none, none, none, none, none, none]) p2 [.dct ((cols one).as.map kvE)] rfl
  refine go (σ1 := [some (.arg ns), some (.ref 0), some (.lst (one.map enc)), some (.lst (two.map enc)), some (.lst ((mins one).map .int)), some (.lst ((mins two).map .int)), some (.lst ((counts one).map .int)), some (.int (most one).best), some (.lst ((columnsL one).map .int)), some (.ref 1), x10, x11, x12, x13, some (.tup [.int s.1, .int s.2]), some (.tup [.int w.1, .int w.2]), some (.lst ((shL s w).map .int)), some (.str (lieS s w)), some (.int a), some (.int b), some (.int c), some (.int d), none, none, none, none, none, none, none, none, none, none]) e19 ?_
  refine go (σ1 := [some (.arg ns), some (.ref 0), some (.lst (one.map enc)), some (.lst (two.map enc)), some (.lst ((mins one).map .int)), some (.lst ((mins two).map .int)), some (.lst ((counts one).map .int)), some (.int (most one).best), some (.lst ((columnsL one).map .int)), some (.ref 1), x10, x11, x12, x13, some (.tup [.int s.1, .int s.2]), some (.tup [.int w.1, .int w.2]), some (.lst ((shL s w).map .int)), some (.str (lieS s w)), some (.int a), some (.int b), some (.int c), some (.int d), some (.lst ((gapsL one s.1 s.2 b).map .int)), none, none, none, none, none, none, none, none, none]) (t20 hs bs rfl d1 l1 rfl hb rfl rfl) ?_
  refine go (σ1 := [some (.arg ns), some (.ref 0), some (.lst (one.map enc)), some (.lst (two.map enc)), some (.lst ((mins one).map .int)), some (.lst ((mins two).map .int)), some (.lst ((counts one).map .int)), some (.int (most one).best), some (.lst ((columnsL one).map .int)), some (.ref 1), x10, x11, x12, x13, some (.tup [.int s.1, .int s.2]), some (.tup [.int w.1, .int w.2]), some (.lst ((shL s w).map .int)), some (.str (lieS s w)), some (.int a), some (.int b), some (.int c), some (.int d), some (.lst ((gapsL one s.1 s.2 b).map .int)), none, none, none, none, none, none, none, none, none]) (t21 hs bs rfl d1 l1 hb rfl rfl rfl) ?_
  refine go (σ1 := [some (.arg ns), some (.ref 0), some (.lst (one.map enc)), some (.lst (two.map enc)), some (.lst ((mins one).map .int)), some (.lst ((mins two).map .int)), some (.lst ((counts one).map .int)), some (.int (most one).best), some (.lst ((columnsL one).map .int)), some (.ref 1), x10, x11, x12, x13, some (.tup [.int s.1, .int s.2]), some (.tup [.int w.1, .int w.2]), some (.lst ((shL s w).map .int)), some (.str (lieS s w)), some (.int a), some (.int b), some (.int c), some (.int d), some (.lst ((gapsL one s.1 s.2 b).map .int)), none, none, none, none, none, none, none, none, none]) (t22 hs bs rfl ha rfl rfl) ?_
  refine go (σ1 := [some (.arg ns), some (.ref 0), some (.lst (one.map enc)), some (.lst (two.map enc)), some (.lst ((mins one).map .int)), some (.lst ((mins two).map .int)), some (.lst ((counts one).map .int)), some (.int (most one).best), some (.lst ((columnsL one).map .int)), some (.ref 1), x10, x11, x12, x13, some (.tup [.int s.1, .int s.2]), some (.tup [.int w.1, .int w.2]), some (.lst ((shL s w).map .int)), some (.str (lieS s w)), some (.int a), some (.int b), some (.int c), some (.int d), some (.lst ((gapsL one s.1 s.2 b).map .int)), none, none, none, none, none, none, none, none, none]) (t23 hs bs rfl hc.1 hd.1 rfl rfl) ?_
  refine go (σ1 := [some (.arg ns), some (.ref 0), some (.lst (one.map enc)), some (.lst (two.map enc)), some (.lst ((mins one).map .int)), some (.lst ((mins two).map .int)), some (.lst ((counts one).map .int)), some (.int (most one).best), some (.lst ((columnsL one).map .int)), some (.ref 1), x10, x11, x12, x13, some (.tup [.int s.1, .int s.2]), some (.tup [.int w.1, .int w.2]), some (.lst ((shL s w).map .int)), some (.str (lieS s w)), some (.int a), some (.int b), some (.int c), some (.int d), some (.lst ((gapsL one s.1 s.2 b).map .int)), none, none, none, none, none, none, none, none, none]) (t24 hs bs rfl rfl rfl) ?_
  obtain ⟨f, p4, bf, e25⟩ := t25 (σ := [some (.arg ns), some (.ref 0), some (.lst (one.map enc)), some (.lst (two.map enc)), some (.lst ((mins one).map .int)), some (.lst ((mins two).map .int)), some (.lst ((counts one).map .int)), some (.int (most one).best), some (.lst ((columnsL one).map .int)), some (.ref 1), x10, x11, x12, x13, some (.tup [.int s.1, .int s.2]), some (.tup [.int w.1, .int w.2]), some (.lst ((shL s w).map .int)), some (.str (lieS s w)), some (.int a), some (.int b), some (.int c), some (.int d), some (.lst ((gapsL one s.1 s.2 b).map .int)), none, none, none, none, none, none, none, none, none]) p3 [.dct ((cols one).as.map kvE)] rfl
  refine go (σ1 := [some (.arg ns), some (.ref 0), some (.lst (one.map enc)), some (.lst (two.map enc)), some (.lst ((mins one).map .int)), some (.lst ((mins two).map .int)), some (.lst ((counts one).map .int)), some (.int (most one).best), some (.lst ((columnsL one).map .int)), some (.ref 1), x10, x11, x12, x13, some (.tup [.int s.1, .int s.2]), some (.tup [.int w.1, .int w.2]), some (.lst ((shL s w).map .int)), some (.str (lieS s w)), some (.int a), some (.int b), some (.int c), some (.int d), some (.lst ((gapsL one s.1 s.2 b).map .int)), some (.tup [.int f.1, .int f.2]), none, none, none, none, none, none, none, none]) e25 ?_
  refine go (σ1 := [some (.arg ns), some (.ref 0), some (.lst (one.map enc)), some (.lst (two.map enc)), some (.lst ((mins one).map .int)), some (.lst ((mins two).map .int)), some (.lst ((counts one).map .int)), some (.int (most one).best), some (.lst ((columnsL one).map .int)), some (.ref 1), x10, x11, x12, x13, some (.tup [.int s.1, .int s.2]), some (.tup [.int w.1, .int w.2]), some (.lst ((shL s w).map .int)), some (.str (lieS s w)), some (.int a), some (.int b), some (.int c), some (.int d), some (.lst ((gapsL one s.1 s.2 b).map .int)), some (.tup [.int f.1, .int f.2]), some (.lst ((daysL f).map enc)), none, none, none, none, none, none, none]) (t26 bf rfl rfl) ?_
  refine go (σ1 := [some (.arg ns), some (.ref 0), some (.lst (one.map enc)), some (.lst (two.map enc)), some (.lst ((mins one).map .int)), some (.lst ((mins two).map .int)), some (.lst ((counts one).map .int)), some (.int (most one).best), some (.lst ((columnsL one).map .int)), some (.ref 1), x10, x11, x12, x13, some (.tup [.int s.1, .int s.2]), some (.tup [.int w.1, .int w.2]), some (.lst ((shL s w).map .int)), some (.str (lieS s w)), some (.int a), some (.int b), some (.int c), some (.int d), some (.lst ((gapsL one s.1 s.2 b).map .int)), some (.tup [.int f.1, .int f.2]), some (.lst ((daysL f).map enc)), none, none, none, none, none, none, none]) (t27 bf rfl rfl rfl) ?_
  exact ⟨_, p4, ex_nil, by simp [VS, wipeW, lit0]⟩
theorem turn_ok (ns : List Int) (p : Int × Int × Int) : ∃ p', ex (run D.FT 11) turnB (lit0 ns) (dS p) = .nx (lit0 ns) (dS p') := by
  obtain ⟨one, σ', p', e, e2⟩ := body_ok ns p
  refine ⟨p', ?_⟩
  have e : ex (run D.FT 11) bodyB (lit0 ns) (dS p) = _ := e
  show blkR (dS p) VS (ex (run D.FT 11) bodyB (lit0 ns) (dS p)) = _
  rw [e]
  show (if decide ((dS p).length ≤ (dT p' [.dct ((cols one).as.map kvE)]).length) && (keepS (dS p).length (dS p) (dT p' [.dct ((cols one).as.map kvE)]) && closedSl (dS p).length (wipeW σ' VS)) then SR.nx (wipeW σ' VS) ((dT p' [.dct ((cols one).as.map kvE)]).take (dS p).length) else .nx σ' (dT p' [.dct ((cols one).as.map kvE)])) = _
  rw [e2]
  rw [if_pos]
  · rfl
  · rfl
theorem ft_law : D.FT "law" = some d_law := by rfl
theorem plain : Plain := by
  intro ns _ _
  obtain ⟨p, e1⟩ := r_rounds 9 ns
  simp only [Nat.reduceAdd] at e1
  obtain ⟨p', e2⟩ := turn_ok ns p
  obtain ⟨S', e3⟩ := plain_ok p'
  refine ⟨S', ?_⟩
  show run D.FT 12 "law" [.arg ns] [] = _
  rw [run_at' ft_law rfl rfl, law_eq]
  have hst : startW d_law.ns [.arg ns] = (lit0 ns).set 1 none := rfl
  rw [hst]
  have hf : ex (run D.FT 11) (.forr (.nm 1) (.call "_law_rounds" (.cons (.var 0) (.cons (.lit (.int 1)) .nil))) turnB) ((lit0 ns).set 1 none) [] = .nx (lit0 ns) (dS p') := by
    rw [ex_forr]
    have h : ev (run D.FT 11) (.call "_law_rounds" (.cons (.var 0) (.cons (.lit (.int 1)) .nil))) ((lit0 ns).set 1 none) [] = .ok (.lst [.ref 0]) (dS p) := by simp [e1, lit0]
    rw [h]
    simp only [bs_ok, itW]
    rw [if_pos (by rw [sizeLine_eq]; simp)]
    simp only [fLoop, asg_nm]
    show (match ex (run D.FT 11) turnB (lit0 ns) (dS p) with
      | .nx σ S => SR.nx σ S
      | .ct σ S => .nx σ S
      | .bk σ S => .nx σ S
      | r => r) = _
    rw [e2]
  simp only [ex_seq']
  rw [hf, then_nx]
  simp [e3]
end K02

end
section
set_option Elab.async false
set_option linter.all false
namespace K02
theorem law_holds : PySem.Challenge.rw_diarystack_k02_spans_of_time.Holds := holds plain
end K02

end
theorem PySem.Challenge.cw_diarystack_k02_spans_of_time_holds : PySem.Challenge.rw_diarystack_k02_spans_of_time.Holds :=
  K02.law_holds
