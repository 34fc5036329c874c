import PyProof.Rows.All
import Wide.All
import OpenK.AllK
import Wide.FinOn
import HandS.ForMost
import HandS.ForExc
import HandS.Style
import HandS.FStr
import HandS.DictComp
import HandS.Lambda
import HandS.AnyAll
import HandS.EndTab
import HandS.Walk
import HandS.HeadHook4
import HandS.HeadWalk
import HandS.Defaults
import PySem.Challenge.RW_diarystack_k01_days_and_dates
import HandS.Head0
import HandS.Head1
import HandS.Head2
import KE.KStateDown
import Lean
import PyProof.StrLawsTight
import PyProof.StrLawsChain
section
set_option Elab.async false
set_option linter.all false
set_option maxRecDepth 100000
/-! Dy, part A: tree values, the store, what stands for what in the abstract heap, how a heap may go on. -/
namespace Dy
open PySem PySem.Spec PyProof.Rows L2

/-- values: trees; ref: an object with identity, in the store -/
inductive Wv where
  | non | bl (b : Bool) | int (i : Int) | str (s : Str)
  | tup (xs : List Wv) | lst (xs : List Wv) | dct (kvs : List (Key × Wv))
  | ref (i : Nat)
  | arg (ns : List Int)
/-- objects of the store -/
inductive SO where
  | lst (xs : List Wv) | dct (kvs : List (Key × Wv)) | ins (C : Str) (fs : List (Str × Wv)) | lam (k : Nat)
abbrev Io := Nat → Option Addr
abbrev Sto := List SO
abbrev Sl := List (Option Wv)

/-- p is none of the store's objects, and none of those set aside -/
def Free (ι : Io) (Y : Addr → Prop) (p : Addr) : Prop := ¬ Y p ∧ ∀ i, ι i ≠ some p

/-- a list of the written part -/
def KLst (K : PySem.W.Frag) (a : Addr) (xs : List V) : Prop :=
  ∃ (o : Obj) (its : Array Value) (n : Nat), K.lookup a = some o ∧ o.cls = .type "list" ∧ o.dict = none ∧ o.data = .seq its n ∧ its.size ≤ sizeLine ∧ Vals xs its.toList
/-- a tuple of the written part -/
def KTup (K : PySem.W.Frag) (a : Addr) (xs : List V) : Prop :=
  ∃ (o : Obj) (its : Array Value) (n : Nat), K.lookup a = some o ∧ o.cls = .type "tuple" ∧ o.data = .seq its n ∧ its.size ≤ sizeLine ∧ Vals xs its.toList

mutual
inductive RepV (K : PySem.W.Frag) (H : Hp) (ι : Io) (Y : Addr → Prop) : Wv → V → Prop
  | non : RepV K H ι Y .non .non
  | bl (b : Bool) : RepV K H ι Y (.bl b) (.bl b)
  | int (i : Int) : RepV K H ι Y (.int i) (.int i)
  | str (s : Str) : RepV K H ι Y (.str s) (.str s)
  | tup {p : Addr} {ws : List Wv} {vs : List V} : Rd H p (.tup vs) → Free ι Y p → RepL K H ι Y ws vs → RepV K H ι Y (.tup ws) (.ref p)
  | ktup {p : Addr} {ws : List Wv} {vs : List V} : KTup K p vs → RepL K H ι Y ws vs → RepV K H ι Y (.tup ws) (.ref p)
  | lst {p : Addr} {ws : List Wv} {vs : List V} : H p = some (.lst vs) → Free ι Y p → RepL K H ι Y ws vs → RepV K H ι Y (.lst ws) (.ref p)
  | dct {p : Addr} {ws : List (Key × Wv)} {vs : List (Key × V)} : H p = some (.dK vs) → Free ι Y p → RepD K H ι Y ws vs → RepV K H ι Y (.dct ws) (.ref p)
  | ref {i : Nat} {p : Addr} : ι i = some p → RepV K H ι Y (.ref i) (.ref p)
  | arg {p : Addr} {ns : List Int} : Rd H p (.lst (ns.map V.int)) → Free ι Y p → RepV K H ι Y (.arg ns) (.ref p)
  | karg {p : Addr} {ns : List Int} : KLst K p (ns.map V.int) → RepV K H ι Y (.arg ns) (.ref p)
inductive RepL (K : PySem.W.Frag) (H : Hp) (ι : Io) (Y : Addr → Prop) : List Wv → List V → Prop
  | nil : RepL K H ι Y [] []
  | cons {w : Wv} {v : V} {ws : List Wv} {vs : List V} : RepV K H ι Y w v → RepL K H ι Y ws vs → RepL K H ι Y (w :: ws) (v :: vs)
inductive RepD (K : PySem.W.Frag) (H : Hp) (ι : Io) (Y : Addr → Prop) : List (Key × Wv) → List (Key × V) → Prop
  | nil : RepD K H ι Y [] []
  | cons {k : Key} {w : Wv} {v : V} {ws : List (Key × Wv)} {vs : List (Key × V)} : RepV K H ι Y w v → RepD K H ι Y ws vs → RepD K H ι Y ((k, w) :: ws) ((k, v) :: vs)
end

/-- how store map and heap may go on -/
structure Evo (ι : Io) (H : Hp) (ι' : Io) (H' : Hp) : Prop where
  keep : ∀ a o, H a = some o → (∀ i, ι i ≠ some a) → (∀ ps, o ≠ .tbl ps) → H' a = some o
  ext : ∀ i a, ι i = some a → ι' i = some a
  new : ∀ i a, ι' i = some a → ι i = some a ∨ H a = none
  stay : ∀ a, H a ≠ none → H' a ≠ none

section
variable {K : PySem.W.Frag} {H H' H1 H2 : Hp} {ι ι' ι1 ι2 : Io} {Y Y' : Addr → Prop}
theorem Evo.refl (ι : Io) (H : Hp) : Evo ι H ι H := ⟨fun _ _ e _ _ => e, fun _ _ e => e, fun _ _ e => .inl e, fun _ e => e⟩
theorem Evo.trans (a : Evo ι H ι1 H1) (b : Evo ι1 H1 ι2 H2) : Evo ι H ι2 H2 where
  keep := fun p o e n t => b.keep p o (a.keep p o e n t) (fun i z => by
    rcases a.new i p z with q | q
    · exact n i q
    · rw [e] at q; cases q) t
  ext := fun i p e => b.ext i p (a.ext i p e)
  new := fun i p e => by
    rcases b.new i p e with q | q
    · exact a.new i p q
    · refine .inr ?_
      cases z : H p with
      | none => rfl
      | some o => exact absurd q (a.stay p (by rw [z]; simp))
  stay := fun p n => b.stay p (a.stay p n)
theorem Free.evo {p : Addr} (f : Free ι Y p) (e : Evo ι H ι' H') (h : H p ≠ none) : Free ι' Y p :=
  ⟨f.1, fun i z => by
    rcases e.new i p z with q | q
    · exact f.2 i q
    · exact h q⟩
theorem _root_.L2.Rd.tracked {p : Addr} {u : HO} (r : Rd H p u) : H p ≠ none := by
  rcases r with r | ⟨o, r⟩ <;> rw [r] <;> simp
theorem _root_.L2.Rd.evo {p : Addr} {u : HO} (r : Rd H p u) (f : Free ι Y p) (e : Evo ι H ι' H') (n : ∀ ps, u ≠ .tbl ps) : Rd H' p u := by
  rcases r with r | ⟨o, r⟩
  · exact .inl (e.keep p _ r f.2 n)
  · exact .inr ⟨o, e.keep p _ r f.2 (fun ps z => by cases z)⟩
mutual
theorem RepV.evo (e : Evo ι H ι' H') : ∀ {w : Wv} {v : V}, RepV K H ι Y w v → RepV K H' ι' Y w v
  | _, _, .non => .non
  | _, _, .bl b => .bl b
  | _, _, .int i => .int i
  | _, _, .str s => .str s
  | _, _, .tup h f r => .tup (h.evo f e (fun _ z => by cases z)) (f.evo e h.tracked) (RepL.evo e r)
  | _, _, .ktup h r => .ktup h (RepL.evo e r)
  | _, _, .lst h f r => .lst (e.keep _ _ h f.2 (fun _ z => by cases z)) (f.evo e (by rw [h]; simp)) (RepL.evo e r)
  | _, _, .dct h f r => .dct (e.keep _ _ h f.2 (fun _ z => by cases z)) (f.evo e (by rw [h]; simp)) (RepD.evo e r)
  | _, _, .ref h => .ref (e.ext _ _ h)
  | _, _, .arg h f => .arg (h.evo f e (fun _ z => by cases z)) (f.evo e h.tracked)
  | _, _, .karg h => .karg h
theorem RepL.evo (e : Evo ι H ι' H') : ∀ {ws : List Wv} {vs : List V}, RepL K H ι Y ws vs → RepL K H' ι' Y ws vs
  | _, _, .nil => .nil
  | _, _, .cons r t => .cons (RepV.evo e r) (RepL.evo e t)
theorem RepD.evo (e : Evo ι H ι' H') : ∀ {ws : List (Key × Wv)} {vs : List (Key × V)}, RepD K H ι Y ws vs → RepD K H' ι' Y ws vs
  | _, _, .nil => .nil
  | _, _, .cons r t => .cons (RepV.evo e r) (RepD.evo e t)
end
/-- what is set aside may be fewer -/
theorem Free.less {p : Addr} (h : ∀ a, Y' a → Y a) (f : Free ι Y p) : Free ι Y' p := ⟨fun z => f.1 (h p z), f.2⟩
mutual
theorem RepV.less (h : ∀ a, Y' a → Y a) : ∀ {w : Wv} {v : V}, RepV K H ι Y w v → RepV K H ι Y' w v
  | _, _, .non => .non
  | _, _, .bl b => .bl b
  | _, _, .int i => .int i
  | _, _, .str s => .str s
  | _, _, .tup q f r => .tup q (f.less h) (RepL.less h r)
  | _, _, .ktup q r => .ktup q (RepL.less h r)
  | _, _, .lst q f r => .lst q (f.less h) (RepL.less h r)
  | _, _, .dct q f r => .dct q (f.less h) (RepD.less h r)
  | _, _, .ref q => .ref q
  | _, _, .arg q f => .arg q (f.less h)
  | _, _, .karg q => .karg q
theorem RepL.less (h : ∀ a, Y' a → Y a) : ∀ {ws : List Wv} {vs : List V}, RepL K H ι Y ws vs → RepL K H ι Y' ws vs
  | _, _, .nil => .nil
  | _, _, .cons r t => .cons (RepV.less h r) (RepL.less h t)
theorem RepD.less (h : ∀ a, Y' a → Y a) : ∀ {ws : List (Key × Wv)} {vs : List (Key × V)}, RepD K H ι Y ws vs → RepD K H ι Y' ws vs
  | _, _, .nil => .nil
  | _, _, .cons r t => .cons (RepV.less h r) (RepD.less h t)
end
/-- what is not tracked may be set aside too -/
def plus (Y : Addr → Prop) (p : Addr) : Addr → Prop := fun a => Y a ∨ a = p
theorem Free.plus {p q : Addr} (f : Free ι Y p) (h : H p ≠ none) (n : H q = none) : Free ι (Dy.plus Y q) p :=
  ⟨fun z => by
    rcases z with z | z
    · exact f.1 z
    · exact h (z ▸ n), f.2⟩
mutual
theorem RepV.plus {q : Addr} (n : H q = none) : ∀ {w : Wv} {v : V}, RepV K H ι Y w v → RepV K H ι (Dy.plus Y q) w v
  | _, _, .non => .non
  | _, _, .bl b => .bl b
  | _, _, .int i => .int i
  | _, _, .str s => .str s
  | _, _, .tup h f r => .tup h (f.plus h.tracked n) (RepL.plus n r)
  | _, _, .ktup h r => .ktup h (RepL.plus n r)
  | _, _, .lst h f r => .lst h (f.plus (by rw [h]; simp) n) (RepL.plus n r)
  | _, _, .dct h f r => .dct h (f.plus (by rw [h]; simp) n) (RepD.plus n r)
  | _, _, .ref h => .ref h
  | _, _, .arg h f => .arg h (f.plus h.tracked n)
  | _, _, .karg h => .karg h
theorem RepL.plus {q : Addr} (n : H q = none) : ∀ {ws : List Wv} {vs : List V}, RepL K H ι Y ws vs → RepL K H ι (Dy.plus Y q) ws vs
  | _, _, .nil => .nil
  | _, _, .cons r t => .cons (RepV.plus n r) (RepL.plus n t)
theorem RepD.plus {q : Addr} (n : H q = none) : ∀ {ws : List (Key × Wv)} {vs : List (Key × V)}, RepD K H ι Y ws vs → RepD K H ι (Dy.plus Y q) ws vs
  | _, _, .nil => .nil
  | _, _, .cons r t => .cons (RepV.plus n r) (RepD.plus n t)
end
theorem plus_less {q : Addr} : ∀ a, Y a → plus Y q a := fun _ h => .inl h

/-! ### lists of values -/
theorem RepL.length : ∀ {ws : List Wv} {vs : List V}, RepL K H ι Y ws vs → ws.length = vs.length
  | _, _, .nil => rfl
  | _, _, .cons _ t => by simp [RepL.length t]
theorem RepL.get : ∀ {ws : List Wv} {vs : List V} {i : Nat} {w : Wv}, RepL K H ι Y ws vs → ws[i]? = some w → ∃ v, vs[i]? = some v ∧ RepV K H ι Y w v
  | _, _, _, _, .nil, e => by simp at e
  | _, _, 0, _, .cons r _, e => by simp at e; subst e; exact ⟨_, rfl, r⟩
  | _, _, i + 1, w, .cons _ t, e => by
    obtain ⟨u, h1, h2⟩ := RepL.get (i := i) (w := w) t (by simpa using e)
    exact ⟨u, by simpa using h1, h2⟩
theorem RepL.getV : ∀ {ws : List Wv} {vs : List V} {i : Nat} {v : V}, RepL K H ι Y ws vs → vs[i]? = some v → ∃ w, ws[i]? = some w ∧ RepV K H ι Y w v
  | _, _, _, _, .nil, e => by simp at e
  | _, _, 0, _, .cons r _, e => by simp at e; subst e; exact ⟨_, rfl, r⟩
  | _, _, i + 1, w, .cons _ t, e => by
    obtain ⟨u, h1, h2⟩ := RepL.getV (i := i) (v := w) t (by simpa using e)
    exact ⟨u, by simpa using h1, h2⟩
theorem RepL.append : ∀ {ws us : List Wv} {vs xs : List V}, RepL K H ι Y ws vs → RepL K H ι Y us xs → RepL K H ι Y (ws ++ us) (vs ++ xs)
  | _, _, _, _, .nil, s => s
  | _, _, _, _, .cons r t, s => .cons r (RepL.append t s)
theorem RepL.take : ∀ {ws : List Wv} {vs : List V} (n : Nat), RepL K H ι Y ws vs → RepL K H ι Y (ws.take n) (vs.take n)
  | _, _, 0, _ => .nil
  | _, _, _ + 1, .nil => .nil
  | _, _, n + 1, .cons r t => .cons r (RepL.take n t)
theorem RepL.drop : ∀ {ws : List Wv} {vs : List V} (n : Nat), RepL K H ι Y ws vs → RepL K H ι Y (ws.drop n) (vs.drop n)
  | _, _, 0, r => r
  | _, _, _ + 1, .nil => .nil
  | _, _, n + 1, .cons _ t => RepL.drop n t
theorem RepL.set {w : Wv} {v : V} (r : RepV K H ι Y w v) : ∀ {ws : List Wv} {vs : List V} (i : Nat), RepL K H ι Y ws vs → RepL K H ι Y (ws.set i w) (vs.set i v)
  | _, _, _, .nil => .nil
  | _, _, 0, .cons _ t => .cons r t
  | _, _, i + 1, .cons q t => .cons q (RepL.set r i t)
theorem RepL.ints : ∀ {ns : List Int} {vs : List V}, RepL K H ι Y (ns.map Wv.int) vs → vs = ns.map V.int
  | [], _, h => by cases h; rfl
  | n :: ns, _, h => by
    cases h with
    | cons r t =>
      cases r
      rw [RepL.ints t]
      rfl
theorem RepL.of_ints : ∀ (ns : List Int), RepL K H ι Y (ns.map Wv.int) (ns.map V.int)
  | [] => .nil
  | n :: ns => .cons (.int n) (RepL.of_ints ns)
theorem RepV.seqT {p : Addr} {ws : List Wv} (h : RepV K H ι Y (.tup ws) (.ref p)) : ∃ vs, SqT K H p vs ∧ RepL K H ι Y ws vs := by
  cases h with
  | tup h f r => exact ⟨_, .inl h, r⟩
  | ktup h r => exact ⟨_, .inr h, r⟩
theorem RepV.tup_ref {v : V} {ws : List Wv} (h : RepV K H ι Y (.tup ws) v) : ∃ p, v = .ref p ∧ ∃ vs, SqT K H p vs ∧ RepL K H ι Y ws vs := by
  cases h with
  | tup h f r => exact ⟨_, rfl, _, .inl h, r⟩
  | ktup h r => exact ⟨_, rfl, _, .inr h, r⟩
theorem RepV.lst_ref {v : V} {ws : List Wv} (h : RepV K H ι Y (.lst ws) v) : ∃ p, v = .ref p ∧ ∃ vs, H p = some (.lst vs) ∧ RepL K H ι Y ws vs := by
  cases h with
  | lst h f r => exact ⟨_, rfl, _, h, r⟩
theorem RepV.arg_ref {v : V} {ns : List Int} (h : RepV K H ι Y (.arg ns) v) : ∃ p, v = .ref p ∧ SqL K H p (ns.map V.int) := by
  cases h with
  | arg h f => exact ⟨_, rfl, .inl h⟩
  | karg h => exact ⟨_, rfl, .inr h⟩
end

/-! ### objects, slots, the state -/
inductive RepF (K : PySem.W.Frag) (H : Hp) (ι : Io) (Y : Addr → Prop) : List (Str × Wv) → List (Str × V) → Prop
  | nil : RepF K H ι Y [] []
  | cons {k : Str} {w : Wv} {v : V} {ws : List (Str × Wv)} {vs : List (Str × V)} : RepV K H ι Y w v → RepF K H ι Y ws vs → RepF K H ι Y ((k, w) :: ws) ((k, v) :: vs)
/-- what is known of the whole: the written part, the tables of code objects, the classes by names -/
structure Glob where
  tabs : List (Addr × Str)
  gens : List Addr
  cls : Str → Option Addr
  lamB : Nat → Expr → Scope → Prop
/-- no parameters; no names of its own, none captured -/
def noArgs : Arguments → Bool
  | ⟨[], [], none, [], [], none, []⟩ => true
  | _ => false
theorem noArgs_eq {p : Arguments} (h : noArgs p = true) : p = ⟨[], [], none, [], [], none, []⟩ := by
  unfold noArgs at h
  split at h
  · rfl
  · cases h
def closedB (scope : Scope) : Bool :=
  decide (scope.kind = .function) && (!scope.isCoroutine && (!scope.isGenerator && scope.names.all fun y => !decide (y.2 = .local) && (!decide (y.2 = .cell) && !decide (y.2 = .free))))
/-- the object of a lambda without parameters that captures nothing; its code object stands at c -/
def LamAt (G : Glob) (k : Nat) (a c : Addr) (q : Str) (h : Heap) : Prop :=
  ∃ (params : Arguments) (body : Expr) (scope : Scope) (pm ctv : Value), noArgs params = true ∧ closedB scope = true ∧ G.lamB k body scope ∧ h.get? a = some (PySem.W.kla_obj "<lambda>" q params body scope [] pm c ctv)
inductive RepO (K : PySem.W.Frag) (G : Glob) (H : Hp) (ι : Io) (Y : Addr → Prop) (a : Addr) : SO → HO → Prop
  | lst {ws : List Wv} {vs : List V} : RepL K H ι Y ws vs → RepO K G H ι Y a (.lst ws) (.lst vs)
  | dct {ws : List (Key × Wv)} {vs : List (Key × V)} : RepD K H ι Y ws vs → RepO K G H ι Y a (.dct ws) (.dK vs)
  | ins {c : Str} {C dx : Addr} {ws : List (Str × Wv)} {vs : List (Str × V)} : G.cls c = some C → RepF K H ι Y ws vs → RepO K G H ι Y a (.ins c ws) (.ins C dx vs)
  | lam {k : Nat} {c : Addr} {q : Str} : H c = some (LamX.CodeO c q) → Free ι Y c → RepO K G H ι Y a (.lam k) (.ext (LamAt G k a c q))
section
variable {K : PySem.W.Frag} {H H' H1 H2 : Hp} {ι ι' ι1 ι2 : Io} {Y Y' : Addr → Prop} {G : Glob}
theorem RepF.evo (e : Evo ι H ι' H') : ∀ {ws : List (Str × Wv)} {vs : List (Str × V)}, RepF K H ι Y ws vs → RepF K H' ι' Y ws vs
  | _, _, .nil => .nil
  | _, _, .cons r t => .cons (r.evo e) (RepF.evo e t)
theorem RepO.evo (e : Evo ι H ι' H') {a : Addr} {o : SO} {ho : HO} (h : RepO K G H ι Y a o ho) : RepO K G H' ι' Y a o ho := by
  cases h with
  | lst r => exact .lst (r.evo e)
  | dct r => exact .dct (r.evo e)
  | ins c r => exact .ins c (r.evo e)
  | lam h f => exact .lam (e.keep _ _ h f.2 (fun ps z => LamX.codeO_ne ps z)) (f.evo e (by rw [h]; simp))
theorem RepF.less (h : ∀ a, Y' a → Y a) : ∀ {ws : List (Str × Wv)} {vs : List (Str × V)}, RepF K H ι Y ws vs → RepF K H ι Y' ws vs
  | _, _, .nil => .nil
  | _, _, .cons r t => .cons (r.less h) (RepF.less h t)
theorem RepO.less (h : ∀ a, Y' a → Y a) {a : Addr} {o : SO} {ho : HO} (r : RepO K G H ι Y a o ho) : RepO K G H ι Y' a o ho := by
  cases r with
  | lst r => exact .lst (r.less h)
  | dct r => exact .dct (r.less h)
  | ins c r => exact .ins c (r.less h)
  | lam q f => exact .lam q (f.less h)
theorem RepF.plus {q : Addr} (n : H q = none) : ∀ {ws : List (Str × Wv)} {vs : List (Str × V)}, RepF K H ι Y ws vs → RepF K H ι (Dy.plus Y q) ws vs
  | _, _, .nil => .nil
  | _, _, .cons r t => .cons (r.plus n) (RepF.plus n t)
theorem RepO.plus {q : Addr} (n : H q = none) {a : Addr} {o : SO} {ho : HO} (r : RepO K G H ι Y a o ho) : RepO K G H ι (Dy.plus Y q) a o ho := by
  cases r with
  | lst r => exact .lst (r.plus n)
  | dct r => exact .dct (r.plus n)
  | ins c r => exact .ins c (r.plus n)
  | lam h f => exact .lam h (f.plus (by rw [h]; simp) n)
theorem RepO.notTbl {a : Addr} {o : SO} {ho : HO} (r : RepO K G H ι Y a o ho) : ∀ ps, ho ≠ .tbl ps := by
  intro ps z
  cases r <;> cases z

/-- a list's, a dict's object -/
def IsLD : HO → Prop
  | .lst _ => True
  | .dK _ => True
  | _ => False
structure Rel (K : PySem.W.Frag) (G : Glob) (ι : Io) (Y : Addr → Prop) (S : Sto) (H : Hp) : Prop where
  inj : ∀ i j a, ι i = some a → ι j = some a → i = j
  lt : ∀ i a, ι i = some a → i < S.length
  obj : ∀ i o, S[i]? = some o → ∃ a ho, ι i = some a ∧ H a = some ho ∧ RepO K G H ι Y a o ho
  yt : ∀ a, Y a → ∃ o, H a = some o ∧ IsLD o
  ny : ∀ i a, ι i = some a → ¬ Y a
  tabs : LamX.Tabs G.tabs H
  gens : ∀ P ∈ G.gens, GxR.TabG H P
theorem Rel.live {S : Sto} (R : Rel K G ι Y S H) {i : Nat} {a : Addr} (e : ι i = some a) : H a ≠ none := by
  have hl := R.lt i a e
  obtain ⟨b, ho, e2, h, _⟩ := R.obj i S[i] (List.getElem?_eq_getElem hl)
  rw [e] at e2
  cases e2
  rw [h]; simp
theorem Rel.yn {S : Sto} (R : Rel K G ι Y S H) {a : Addr} (y : Y a) : H a ≠ none := by
  obtain ⟨o, h, _⟩ := R.yt a y
  rw [h]; simp
theorem IsLD.keep {a : Addr} (e : Evo ι H ι' H') (f : ∀ i, ι i ≠ some a) (h : ∃ o, H a = some o ∧ IsLD o) : ∃ o, H' a = some o ∧ IsLD o := by
  obtain ⟨o, h1, h2⟩ := h
  exact ⟨o, e.keep a o h1 f (fun ps z => by rw [z] at h2; exact h2), h2⟩
theorem Rel.ni {S : Sto} (R : Rel K G ι Y S H) {a : Addr} (y : Y a) : ∀ i, ι i ≠ some a := fun i z => R.ny i a z y
theorem Rel.fresh {S : Sto} (R : Rel K G ι Y S H) {p : Addr} (n : H p = none) : Free ι Y p := ⟨fun z => R.yn z n, fun i z => R.live z n⟩
/-- a new object of the heap alone -/
theorem evo_new (ι : Io) {p : Addr} {o : HO} (n : H p = none) : Evo ι H ι (upd H p o) where
  keep := fun a u e _ _ => by rw [upd_ne (ne_of_none e n)]; exact e
  ext := fun _ _ e => e
  new := fun _ _ e => .inl e
  stay := fun a h => by
    by_cases z : a = p
    · subst z; rw [upd_same]; simp
    · rw [upd_ne z]; exact h
theorem tabs_new {T : List (Addr × Str)} {p : Addr} {o : HO} (n : H p = none) (t : LamX.Tabs T H) : LamX.Tabs T (upd H p o) :=
  t.ext fun b u e => by rw [upd_ne (ne_of_none e n)]; exact e
theorem gens_new {T : List Addr} {p : Addr} {o : HO} (n : H p = none) (t : ∀ P ∈ T, GxR.TabG H P) : ∀ P ∈ T, GxR.TabG (upd H p o) P := fun P hP => by
  obtain ⟨ps, h1, h2⟩ := t P hP
  exact ⟨ps, by rw [upd_ne (ne_of_none h1 n)]; exact h1, h2⟩
theorem Rel.newHp {S : Sto} (R : Rel K G ι Y S H) {p : Addr} {o : HO} (n : H p = none) : Rel K G ι Y S (upd H p o) where
  inj := R.inj
  lt := R.lt
  obj := fun i u e => by
    obtain ⟨a, ho, h1, h2, h3⟩ := R.obj i u e
    exact ⟨a, ho, h1, by rw [upd_ne (ne_of_none h2 n)]; exact h2, h3.evo (evo_new ι n)⟩
  yt := fun a h => IsLD.keep (evo_new ι n) (R.ni h) (R.yt a h)
  ny := R.ny
  tabs := tabs_new n R.tabs
  gens := gens_new n R.gens
theorem Rel.plus {S : Sto} (R : Rel K G ι Y S H) {p : Addr} {o : HO} (n : H p = none) (ld : IsLD o) : Rel K G ι (Dy.plus Y p) S (upd H p o) where
  inj := R.inj
  lt := R.lt
  obj := fun i u e => by
    obtain ⟨a, ho, h1, h2, h3⟩ := R.obj i u e
    exact ⟨a, ho, h1, by rw [upd_ne (ne_of_none h2 n)]; exact h2, (h3.plus n).evo (evo_new ι n)⟩
  yt := fun a h => by
    rcases h with h | h
    · exact IsLD.keep (evo_new ι n) (R.ni h) (R.yt a h)
    · subst h; exact ⟨o, upd_same, ld⟩
  ny := fun i a e h => by
    rcases h with h | h
    · exact R.ny i a e h
    · subst h; exact R.live e n
  tabs := tabs_new n R.tabs
  gens := gens_new n R.gens
theorem Rel.less {S : Sto} (h : ∀ a, Y' a → Y a) (R : Rel K G ι Y S H) : Rel K G ι Y' S H where
  inj := R.inj
  lt := R.lt
  obj := fun i u e => by
    obtain ⟨a, ho, h1, h2, h3⟩ := R.obj i u e
    exact ⟨a, ho, h1, h2, h3.less h⟩
  yt := fun a z => R.yt a (h a z)
  ny := fun i a e z => R.ny i a e (h a z)
  tabs := R.tabs
  gens := R.gens

def RepS (K : PySem.W.Frag) (H : Hp) (ι : Io) (Y : Addr → Prop) (σd : Sl) (σ : L2.St) : Prop :=
  σd.length = σ.length ∧ ∀ (i : Nat) (w : Wv), σd[i]? = some (some w) → ∃ v : V, σ[i]? = some (some v) ∧ RepV K H ι Y w v
theorem RepS.evo {σd : Sl} {σ : L2.St} (e : Evo ι H ι' H') (h : RepS K H ι Y σd σ) : RepS K H' ι' Y σd σ :=
  ⟨h.1, fun i w q => by
    obtain ⟨v, h1, h2⟩ := h.2 i w q
    exact ⟨v, h1, h2.evo e⟩⟩
theorem RepS.less {σd : Sl} {σ : L2.St} (h : ∀ a, Y' a → Y a) (r : RepS K H ι Y σd σ) : RepS K H ι Y' σd σ :=
  ⟨r.1, fun i w q => by
    obtain ⟨v, h1, h2⟩ := r.2 i w q
    exact ⟨v, h1, h2.less h⟩⟩
theorem RepS.plus {σd : Sl} {σ : L2.St} {q : Addr} (n : H q = none) (r : RepS K H ι Y σd σ) : RepS K H ι (Dy.plus Y q) σd σ :=
  ⟨r.1, fun i w z => by
    obtain ⟨v, h1, h2⟩ := r.2 i w z
    exact ⟨v, h1, h2.plus n⟩⟩
theorem RepS.set {σd : Sl} {σ : L2.St} {w : Wv} {v : V} (i : Nat) (r : RepV K H ι Y w v) (h : RepS K H ι Y σd σ) : RepS K H ι Y (σd.set i (some w)) (σ.set i (some v)) := by
  refine ⟨by simp [h.1], fun j u q => ?_⟩
  by_cases e : j = i
  · subst e
    have hl : j < σd.length := by
      have := (List.getElem?_eq_some_iff.mp q).1
      simpa using this
    rw [List.getElem?_set_self hl] at q
    cases q
    exact ⟨v, by rw [List.getElem?_set_self (by rw [← h.1]; exact hl)], r⟩
  · rw [List.getElem?_set_ne (Ne.symm e)] at q
    obtain ⟨x, h1, h2⟩ := h.2 j u q
    exact ⟨x, by rw [List.getElem?_set_ne (Ne.symm e)]; exact h1, h2⟩
end

/-! ### results -/
inductive Res where
  | ok (w : Wv) (S : Sto) | exc (c : Str) (S : Sto) | bad
def Res.bind (r : Res) (k : Wv → Sto → Res) : Res := match r with
  | .ok w S => k w S
  | .exc c S => .exc c S
  | .bad => .bad
@[simp] theorem bind_ok (w : Wv) (S : Sto) (k : Wv → Sto → Res) : (Res.ok w S).bind k = k w S := rfl
@[simp] theorem bind_exc (c : Str) (S : Sto) (k : Wv → Sto → Res) : (Res.exc c S).bind k = .exc c S := rfl
@[simp] theorem bind_bad (k : Wv → Sto → Res) : Res.bad.bind k = .bad := rfl
/-- what is wanted of a result: Q of a value and a heap, E of an exception -/
def Post (K : PySem.W.Frag) (G : Glob) (Y : Addr → Prop) (ι : Io) (H : Hp) (r : Res) (Q : VK) (E : XK) : Prop := match r with
  | .ok w S => ∀ ι' H' v, Evo ι H ι' H' → Rel K G ι' Y S H' → RepV K H' ι' Y w v → Q v H'
  | .exc c S => ∃ C, G.cls c = some C ∧ ∀ ι' H', Evo ι H ι' H' → Rel K G ι' Y S H' → E (.ref C) none H'
  | .bad => False
section
variable {K : PySem.W.Frag} {G : Glob} {Y : Addr → Prop} {ι ι' : Io} {H H' : Hp} {r : Res} {Q : VK} {E : XK} {k : Wv → Sto → Res}
theorem Post.evo (h : Post K G Y ι H r Q E) (e : Evo ι H ι' H') : Post K G Y ι' H' r Q E := by
  cases r with
  | ok w S => exact fun ι2 H2 v e2 R r => h ι2 H2 v (e.trans e2) R r
  | exc c S =>
    obtain ⟨C, hc, h⟩ := h
    exact ⟨C, hc, fun ι2 H2 e2 R => h ι2 H2 (e.trans e2) R⟩
  | bad => exact h
theorem Post.bind (h : Post K G Y ι H (r.bind k) Q E) : Post K G Y ι H r (fun v H' => ∃ ι' w S', Evo ι H ι' H' ∧ Rel K G ι' Y S' H' ∧ RepV K H' ι' Y w v ∧ Post K G Y ι' H' (k w S') Q E) E := by
  cases r with
  | ok w S => exact fun ι' H' v e R r => ⟨ι', w, S, e, R, r, Post.evo h e⟩
  | exc c S => exact h
  | bad => exact h
theorem Post.mono {Q' : VK} {E' : XK} (h : Post K G Y ι H r Q E) (hq : ∀ v H', Q v H' → Q' v H') (he : ∀ c d H', E c d H' → E' c d H') : Post K G Y ι H r Q' E' := by
  cases r with
  | ok w S => exact fun ι2 H2 v e2 R r => hq _ _ (h ι2 H2 v e2 R r)
  | exc c S =>
    obtain ⟨C, hc, h⟩ := h
    exact ⟨C, hc, fun ι2 H2 e2 R => he _ _ _ (h ι2 H2 e2 R)⟩
  | bad => exact h
theorem Post.here {w : Wv} {S : Sto} {v : V} (h : Post K G Y ι H (.ok w S) Q E) (R : Rel K G ι Y S H) (r : RepV K H ι Y w v) : Q v H := h ι H v (Evo.refl _ _) R r
end

/-! ### what is set aside may be written -/
section
variable {K : PySem.W.Frag} {G : Glob} {H : Hp} {ι : Io} {Y : Addr → Prop} {q : Addr} {o : HO}
theorem upd_free {p : Addr} {u : HO} (f : Free ι Y p) (y : Y q) (h : H p = some u) : (upd H q o) p = some u := by
  rw [upd_ne (fun z : p = q => f.1 (z ▸ y))]; exact h
theorem upd_rd {p : Addr} {u : HO} (f : Free ι Y p) (y : Y q) (h : Rd H p u) : Rd (upd H q o) p u := by
  rcases h with h | ⟨ob, h⟩
  · exact .inl (upd_free f y h)
  · exact .inr ⟨ob, upd_free f y h⟩
mutual
theorem RepV.updY (y : Y q) : ∀ {w : Wv} {v : V}, RepV K H ι Y w v → RepV K (upd H q o) ι Y w v
  | _, _, .non => .non
  | _, _, .bl b => .bl b
  | _, _, .int i => .int i
  | _, _, .str s => .str s
  | _, _, .tup h f r => .tup (upd_rd f y h) f (RepL.updY y r)
  | _, _, .ktup h r => .ktup h (RepL.updY y r)
  | _, _, .lst h f r => .lst (upd_free f y h) f (RepL.updY y r)
  | _, _, .dct h f r => .dct (upd_free f y h) f (RepD.updY y r)
  | _, _, .ref h => .ref h
  | _, _, .arg h f => .arg (upd_rd f y h) f
  | _, _, .karg h => .karg h
theorem RepL.updY (y : Y q) : ∀ {ws : List Wv} {vs : List V}, RepL K H ι Y ws vs → RepL K (upd H q o) ι Y ws vs
  | _, _, .nil => .nil
  | _, _, .cons r t => .cons (RepV.updY y r) (RepL.updY y t)
theorem RepD.updY (y : Y q) : ∀ {ws : List (Key × Wv)} {vs : List (Key × V)}, RepD K H ι Y ws vs → RepD K (upd H q o) ι Y ws vs
  | _, _, .nil => .nil
  | _, _, .cons r t => .cons (RepV.updY y r) (RepD.updY y t)
end
theorem RepF.updY (y : Y q) : ∀ {ws : List (Str × Wv)} {vs : List (Str × V)}, RepF K H ι Y ws vs → RepF K (upd H q o) ι Y ws vs
  | _, _, .nil => .nil
  | _, _, .cons r t => .cons (r.updY y) (RepF.updY y t)
theorem RepO.updY (y : Y q) {a : Addr} {so : SO} {ho : HO} (r : RepO K G H ι Y a so ho) : RepO K G (upd H q o) ι Y a so ho := by
  cases r with
  | lst r => exact .lst (r.updY y)
  | dct r => exact .dct (r.updY y)
  | ins c r => exact .ins c (r.updY y)
  | lam h f => exact .lam (upd_free f y h) f
theorem RepS.updY {σd : Sl} {σ : L2.St} (y : Y q) (h : RepS K H ι Y σd σ) : RepS K (upd H q o) ι Y σd σ :=
  ⟨h.1, fun i w e => by
    obtain ⟨v, h1, h2⟩ := h.2 i w e
    exact ⟨v, h1, h2.updY y⟩⟩
/-- the object at q is no table -/
theorem Rel.updY {S : Sto} (R : Rel K G ι Y S H) (ld : IsLD o) (y : Y q) (n : ∀ ps, H q ≠ some (.tbl ps)) (n2 : ∀ c s, H q ≠ some (LamX.CodeO c s)) : Rel K G ι Y S (upd H q o) where
  inj := R.inj
  lt := R.lt
  obj := fun i u e => by
    obtain ⟨a, ho, h1, h2, h3⟩ := R.obj i u e
    exact ⟨a, ho, h1, by rw [upd_ne (fun z : a = q => R.ny i a h1 (z ▸ y))]; exact h2, h3.updY y⟩
  yt := fun a h => by
    by_cases e : a = q
    · subst e; exact ⟨o, upd_same, ld⟩
    · rw [upd_ne e]; exact R.yt a h
  ny := R.ny
  tabs := fun p hp => by
    obtain ⟨ps, h1, h2, h3⟩ := R.tabs p hp
    refine ⟨ps, ?_, h2, fun pos cv hc => ?_⟩
    · rw [upd_ne (fun z : p.1 = q => n ps (z ▸ h1))]; exact h1
    · obtain ⟨c, e1, e2⟩ := h3 pos cv hc
      exact ⟨c, e1, by rw [upd_ne (fun z : c = q => n2 c p.2 (z ▸ e2))]; exact e2⟩
  gens := fun P hP => by
    obtain ⟨ps, h1, h2⟩ := R.gens P hP
    exact ⟨ps, by rw [upd_ne (fun z : P = q => n ps (z ▸ h1))]; exact h1, h2⟩
/-- a store object comes: the heap object at p, fresh -/
def ext (ι : Io) (n : Nat) (p : Addr) : Io := fun i => if i = n then some p else ι i
theorem evo_ext {S : Sto} (R : Rel K G ι Y S H) {p : Addr} (n : H p = none) : Evo ι H (ext ι S.length p) (upd H p o) where
  keep := (evo_new ι n).keep
  ext := fun i a e => by
    have hl := R.lt i a e
    unfold ext
    rw [if_neg (Nat.ne_of_lt hl)]; exact e
  new := fun i a e => by
    unfold ext at e
    by_cases h : i = S.length
    · rw [if_pos h] at e; cases e; exact .inr n
    · rw [if_neg h] at e; exact .inl e
  stay := (evo_new ι n).stay
theorem Rel.push {S : Sto} (R : Rel K G ι Y S H) {p : Addr} {so : SO} (n : H p = none) (r : RepO K G H ι Y p so o) : Rel K G (Dy.ext ι S.length p) Y (S ++ [so]) (upd H p o) := by
  have E : Evo ι H (ext ι S.length p) (upd H p o) := evo_ext R n
  refine ⟨fun i j a h1 h2 => ?_, fun i a h => ?_, fun i u e => ?_, fun a h => IsLD.keep E (R.ni h) (R.yt a h), fun i a h y => ?_, tabs_new n R.tabs, gens_new n R.gens⟩
  · unfold ext at h1 h2
    by_cases e1 : i = S.length <;> by_cases e2 : j = S.length
    · rw [e1, e2]
    · rw [if_pos e1] at h1; rw [if_neg e2] at h2; cases h1; exact absurd n (R.live h2)
    · rw [if_neg e1] at h1; rw [if_pos e2] at h2; cases h2; exact absurd n (R.live h1)
    · rw [if_neg e1] at h1; rw [if_neg e2] at h2; exact R.inj i j a h1 h2
  · unfold ext at h
    rw [List.length_append]
    by_cases e : i = S.length
    · rw [e]; exact Nat.lt_succ_self _
    · rw [if_neg e] at h; exact Nat.lt_succ_of_lt (R.lt i a h)
  · by_cases hi : i < S.length
    · rw [List.getElem?_append_left hi] at e
      obtain ⟨a, ho, h1, h2, h3⟩ := R.obj i u e
      exact ⟨a, ho, E.ext i a h1, by rw [upd_ne (ne_of_none h2 n)]; exact h2, h3.evo E⟩
    · have hl : i < (S ++ [so]).length := (List.getElem?_eq_some_iff.mp e).1
      rw [List.length_append] at hl
      have e1 : i = S.length := by simp at hl; omega
      subst e1
      have e2 : so = u := by simpa using e
      subst e2
      exact ⟨p, o, by unfold ext; rw [if_pos rfl], upd_same, r.evo E⟩
  · unfold ext at h
    by_cases e : i = S.length
    · rw [if_pos e] at h; cases h; exact R.yn y n
    · rw [if_neg e] at h; exact R.ny i a h y
end
end Dy

end
section
set_option Elab.async false
set_option linter.all false
set_option maxRecDepth 100000
/-! Dy, part B: the small language and its evaluator. -/
namespace Dy
open PySem L2

/-! ### operations on values -/
mutual
def toD : Wv → Option PyData
  | .non => some .none
  | .bl b => some (.bool b)
  | .int i => some (.int i)
  | .str s => some (.str s)
  | .tup xs => (toDs xs).map .tuple
  | .lst xs => (toDs xs).map .list
  | .dct _ => none
  | .ref _ => none
  | .arg _ => none
def toDs : List Wv → Option (List PyData)
  | [] => some []
  | x :: xs => match toD x, toDs xs with
    | some d, some ds => some (d :: ds)
    | _, _ => none
end
inductive Bop where | add | sub | mul | fdiv | mod | pow
inductive Cop where | eq | ne | lt | le | gt | ge | isN | notN | isin | notin
/-- the object that a value names, read -/
def rd (S : Sto) : Wv → Wv
  | .ref i => match S[i]? with
    | some (.lst ws) => .lst ws
    | some (.dct ws) => .dct ws
    | _ => .ref i
  | w => w
def cutW (xs : List Wv) (lo hi : Option Int) : List Wv := (xs.drop (HT.sIx xs.length 0 lo)).take (HT.sIx xs.length xs.length hi - HT.sIx xs.length 0 lo)
instance (i j : Int) : Decidable (CMul i j) := inferInstanceAs (Decidable ((_ ∧ _) ∨ (_ ∧ _)))
instance (i j : Int) : Decidable (CDivN i j) := inferInstanceAs (Decidable (_ ∧ _))
instance (i j : Int) : Decidable (CPow i j) := inferInstanceAs (Decidable (_ ∧ _ ∧ _))
def strRepW (x : Str) (n : Int) : Str := if n < 1 then Str.empty else if (n == 1 || x.length == 0) = true then x else ⟨(List.replicate n.toNat x.cps).foldl (· ++ ·) #[]⟩
def binW : Bop → Wv → Wv → Sto → Res
  | .add, .int i, .int j, S => .ok (.int (i + j)) S
  | .add, .str a, .str b, S => if a.length + b.length ≤ sizeLine then .ok (.str (a ++ b)) S else .bad
  | .add, .lst a, .lst b, S => if a.length + b.length ≤ sizeLine then .ok (.lst (a ++ b)) S else .bad
  | .sub, .int i, .int j, S => .ok (.int (i - j)) S
  | .mul, .int i, .int j, S => if CMul i j then .ok (.int (i * j)) S else .bad
  | .mul, .str x, .int n, S => if -(2 ^ 62) ≤ n ∧ n < 2 ^ 62 ∧ x.length * n.toNat ≤ 100000 ∧ (strRepW x n).length ≤ sizeLine then .ok (.str (strRepW x n)) S else .bad
  | .fdiv, .int i, .int j, S => if CDivN i j then .ok (.int (i.fdiv j)) S else .bad
  | .mod, .int i, .int j, S => if j ≠ 0 then .ok (.int (i.fmod j)) S else .bad
  | .pow, .int i, .int j, S => if CPow i j then .ok (.int (i ^ j.toNat)) S else .bad
  | _, _, _, _ => .bad
def eqD (a b : Wv) : Option Bool := match toD a, toD b with
  | some d, some e => if SeqAt.shaped d = true ∧ SeqAt.shaped e = true then some (PyData.eqv d e) else none
  | _, _ => none
def flatW : Wv → Bool
  | .non => true
  | .bl _ => true
  | .int _ => true
  | .str _ => true
  | _ => false
def eqW : Wv → Wv → Bool
  | .non, .non => true
  | .bl a, .bl b => a == b
  | .bl a, .int b => (if a then 1 else 0) == b
  | .int a, .bl b => a == (if b then 1 else 0)
  | .int a, .int b => a == b
  | .str a, .str b => a == b
  | _, _ => false
def inW (x : Wv) (xs : List Wv) : Bool := xs.any fun y => eqW y x
def keyW : Wv → Option Key
  | .int i => some (.inl i)
  | .str s => some (.inr s)
  | _ => none
def valW (kvs : List (Key × Wv)) (k : Key) : Option Wv := (kvs.find? fun p => decide (p.1 = k)).map (·.2)
/-- is x in y -/
def memW (x y : Wv) : Option Bool := match y with
  | .lst ys => if flatW x = true ∧ ys.all flatW = true then some (inW x ys) else none
  | .tup ys => if flatW x = true ∧ ys.all flatW = true then some (inW x ys) else none
  | .str z => match x with
    | .str a => some (!(Builtin.Str.occurrences z a 0 z.length 1).isEmpty)
    | _ => none
  | .dct kvs => match keyW x with
    | some k => some (valW kvs k).isSome
    | none => none
  | _ => none
def ofB (o : Option Bool) (neg : Bool) (S : Sto) : Res := match o with
  | some b => .ok (.bl (if neg then !b else b)) S
  | none => .bad
def cmpW : Cop → Wv → Wv → Sto → Res
  | .lt, .int i, .int j, S => .ok (.bl (decide (i < j))) S
  | .le, .int i, .int j, S => .ok (.bl (decide (i ≤ j))) S
  | .gt, .int i, .int j, S => .ok (.bl (decide (j < i))) S
  | .ge, .int i, .int j, S => .ok (.bl (decide (j ≤ i))) S
  | .eq, a, b, S => ofB (eqD a b) false S
  | .ne, a, b, S => ofB (eqD a b) true S
  | .isin, a, b, S => ofB (memW a (rd S b)) false S
  | .notin, a, b, S => ofB (memW a (rd S b)) true S
  | _, _, _, _ => .bad
def isNonW : Wv → Bool
  | .non => true
  | _ => false
def idxW (a b : Wv) (S : Sto) : Res := match rd S a, b with
  | .lst xs, .int i => match atI xs i with
    | some w => .ok w S
    | none => .bad
  | .tup xs, .int i => match atI xs i with
    | some w => .ok w S
    | none => .bad
  | .str z, .int i => if z.length ≤ sizeLine then match atI z.cps.toList i with
    | some c => .ok (.str ⟨#[c]⟩) S
    | none => .bad else .bad
  | _, _ => .bad
def bndW : Wv → Option (Option Int)
  | .non => some none
  | .int i => some (some i)
  | _ => none
def slW (a lo hi : Wv) (S : Sto) : Res := match bndW lo, bndW hi with
  | some l, some h => match rd S a with
    | .lst xs => .ok (.lst (cutW xs l h)) S
    | .arg ns => .ok (.lst (cutW (ns.map .int) l h)) S
    | .str z => if z.length ≤ sizeLine then .ok (.str (cutS z l h)) S else .bad
    | _ => .bad
  | _, _ => .bad
inductive BI where | len | str | int | abs | min2 | max2 | sum
def intsW : List Wv → Option (List Int)
  | [] => some []
  | .int i :: r => (intsW r).map (i :: ·)
  | _ => none
def strsW : List Wv → Option (List Str)
  | [] => some []
  | .str i :: r => (strsW r).map (i :: ·)
  | _ => none
def biW : BI → List Wv → Sto → Res
  | .len, [a], S => match rd S a with
    | .lst xs => .ok (.int xs.length) S
    | .tup xs => .ok (.int xs.length) S
    | .str z => if z.length ≤ sizeLine then .ok (.int z.length) S else .bad
    | _ => .bad
  | .str, [.int i], S => if i.natAbs.log2 < 1920 then .ok (.str (Str.ofString (toString i))) S else .bad
  | .int, [.int i], S => .ok (.int i) S
  | .int, [.bl b], S => .ok (.int (if b then 1 else 0)) S
  | .int, [.str a], S => match PySem.intText? a with
    | some n => if a.length ≤ 640 then .ok (.int n) S else .bad
    | none => .bad
  | .abs, [.int i], S => .ok (.int (if i < 0 then -i else i)) S
  | .min2, [.int i, .int j], S => .ok (.int (if j < i then j else i)) S
  | .max2, [.int i, .int j], S => .ok (.int (if j > i then j else i)) S
  | .sum, [.lst xs], S => match intsW xs with
    | some ns => .ok (.int ns.sum) S
    | none => .bad
  | _, _, _ => .bad
inductive MI where | split | partition | join
  deriving DecidableEq
def miW : MI → Wv → List Wv → Sto → Res
  | .split, .str a, [.str b], S => if (b.length == 0) = false ∧ a.length + 2 ≤ sizeLine then .ok (.lst ((Txt.split a b).map .str)) S else .bad
  | .partition, .str a, [.str b], S => if (b.length == 0) = false ∧ a.length ≤ sizeLine then .ok (.tup [.str (Txt.partition a b).1, .str (Txt.partition a b).2.1, .str (Txt.partition a b).2.2]) S else .bad
  | .join, .str a, [b], S => match rd S b with
    | .lst xs => match strsW xs with
      | some ys => if (ys.map Str.length).sum + ys.length * a.length ≤ 16777216 then .ok (.str (Txt.join a ys)) S else .bad
      | none => .bad
    | _ => .bad
  | _, _, _, _ => .bad

/-! ### the language -/
/-- constants of a module -/
inductive Cst where
  | int (i : Int) | str (s : Str) | ints (l : List Int) | strs (l : List Str)
  deriving DecidableEq
def Cst.w : Cst → Wv
  | .int i => .int i
  | .str s => .str s
  | .ints l => .tup (l.map .int)
  | .strs l => .tup (l.map .str)
/-- targets -/
inductive Tg where
  | nm (i : Nat) | tup (ts : Tg) | nil | cons (t ts : Tg)
inductive E where
  | var (i : Nat) | lit (w : Wv) | glob (x : Str) (c : Cst)
  | bin (o : Bop) (a b : E) | neg (a : E)
  | isN (a : E) | notN (a : E) | cmp (o : Cop) (a b : E) | chain (o o' : Cop) (a b c : E)
  | and (a b : E) | or (a b : E) | not (a : E) | ite (c a b : E)
  | tup (es : E) | lst (es : E) | new (es : E) | nil | cons (e es : E)
  | idx (a b : E) | sl (a lo hi : E)
  | call (f : Str) (es : E) | bi (b : BI) (es : E) | mi (m : MI) (a es : E)
  | rng1 (a : E) | rng2 (a b : E)
  | lc (g : Tg) (it c e : E) (own : List (Str × Nat)) | dc (g : Tg) (it c k e : E) (own : List (Str × Nat))
  | fmt (e : E) | fs (es : E) | anyOut (e : E) (z : Str) (x : Str)
  | told (f : Str) (x : Str) (e : E) | lam (k : Nat) | toldV (f : Str) (x : Str) (e : E)
mutual
def asg : Tg → Wv → Sl → Option Sl
  | .nm i, w, σ => some (σ.set i (some w))
  | .tup ts, .tup ws, σ => asgs ts ws σ
  | _, _, _ => none
def asgs : Tg → List Wv → Sl → Option Sl
  | .nil, [], σ => some σ
  | .cons t ts, w :: ws, σ => (asg t w σ).bind fun σ' => asgs ts ws σ'
  | _, _, _ => none
end
def lcLoop (f : Wv → Sto → Res) : List Wv → List Wv → Sto → Res
  | [], acc, S => .ok (.lst acc) S
  | x :: xs, acc, S => match f x S with
    | .ok (.lst ys) S' => lcLoop f xs (acc ++ ys) S'
    | _ => .bad
def putW (kvs : List (Key × Wv)) (k : Key) (w : Wv) : List (Key × Wv) :=
  if (kvs.any fun kv => decide (kv.1 = k)) = true then kvs.map (fun kv => if kv.1 = k then (kv.1, w) else kv) else kvs ++ [(k, w)]
/-- what is walked: the items -/
def itW (w : Wv) : Option (List Wv) := match w with
  | .lst xs => if xs.length ≤ sizeLine then some xs else none
  | .tup xs => if xs.length ≤ sizeLine then some xs else none
  | _ => none
def itK (x : Wv) (S : Sto) : Res := match itW x with
  | some items => .ok (.lst items) S
  | none => .bad
def dcLoop (f : Wv → Sto → Res) : List Wv → List (Key × Wv) → Sto → Res
  | [], acc, S => .ok (.dct acc) S
  | x :: xs, acc, S => match f x S with
    | .ok (.lst [k, w]) S' => match keyW k with
      | some k => dcLoop f xs (putW acc k w) S'
      | none => .bad
    | .ok (.lst []) S' => dcLoop f xs acc S'
    | _ => .bad
def rng1W (x : Wv) (S : Sto) : Res := match x with
  | .int j => if -(2 ^ 62) ≤ j ∧ j < 2 ^ 62 then .ok (.lst ((List.range j.toNat).map fun i => .int (0 + (i : Nat)))) S else .bad
  | _ => .bad
def rng2W (x y : Wv) (S : Sto) : Res := match x, y with
  | .int i, .int j => if -(2 ^ 62) ≤ i ∧ i < 2 ^ 62 ∧ -(2 ^ 62) ≤ j ∧ j < 2 ^ 62 then .ok (.lst ((List.range (j - i).toNat).map fun k => .int (i + (k : Nat)))) S else .bad
  | _, _ => .bad
/-- a part of an f-string -/
def fmtW : Wv → Option Str
  | .str y => if y.length ≤ sizeLine then some y else none
  | .int i => if i.natAbs.log2 < 1920 then some (Str.ofString (toString i)) else none
  | _ => none
def joinF : List Wv → Str → Option Str
  | [], acc => some acc
  | .str y :: ws, acc => if (acc ++ y).length ≤ sizeLine then joinF ws (acc ++ y) else none
  | _, _ => none
/-- slots forgotten -/
def wipeW (σ : Sl) : List Nat → Sl
  | [] => σ
  | v :: vs => (wipeW σ vs).set v none
def toldW (x : Str) (r : Res) : Res := match r with
  | .ok w S => .ok w S
  | .exc c S => if c = x then .ok (.str x) S else .bad
  | .bad => .bad
def isStr : Wv → Bool
  | .str _ => true
  | _ => false
/-- a slice's bound -/
def noB : E → Bool
  | .lit .non => true
  | _ => false
def intO (b : Bool) (w : Wv) (S : Sto) : Res := if b then .ok .non S else match w with
  | .int i => .ok (.int i) S
  | _ => .bad
def lamName (k : Nat) : Str := ⟨#[60, k]⟩
abbrev Clr := Str → List Wv → Sto → Res
def andK (w : Wv) (r : Res) (S : Sto) : Res := match w with
  | .bl true => r
  | .bl false => .ok (.bl false) S
  | _ => .bad
def orK (w : Wv) (r : Res) (S : Sto) : Res := match w with
  | .bl false => r
  | .bl true => .ok (.bl true) S
  | _ => .bad
def iteK (w : Wv) (a b : Res) : Res := match w with
  | .bl true => a
  | .bl false => b
  | _ => .bad
def ev (cl : Clr) : E → Sl → Sto → Res
  | .var i, σ, S => match σ[i]? with
    | some (some w) => .ok w S
    | _ => .bad
  | .lit w, _, S => .ok w S
  | .glob _ c, _, S => .ok c.w S
  | .bin o a b, σ, S => (ev cl a σ S).bind fun x S => (ev cl b σ S).bind fun y S => binW o x y S
  | .neg a, σ, S => (ev cl a σ S).bind fun x S => match x with
    | .int i => .ok (.int (-i)) S
    | _ => .bad
  | .isN a, σ, S => (ev cl a σ S).bind fun x S => .ok (.bl (isNonW x)) S
  | .notN a, σ, S => (ev cl a σ S).bind fun x S => .ok (.bl (!isNonW x)) S
  | .cmp o a b, σ, S => (ev cl a σ S).bind fun x S => (ev cl b σ S).bind fun y S => cmpW o x y S
  | .chain o o' a b c, σ, S => (ev cl a σ S).bind fun x S => (ev cl b σ S).bind fun y S => (cmpW o x y S).bind fun t S => andK t ((ev cl c σ S).bind fun z S => cmpW o' y z S) S
  | .and a b, σ, S => (ev cl a σ S).bind fun t S => andK t (ev cl b σ S) S
  | .or a b, σ, S => (ev cl a σ S).bind fun t S => orK t (ev cl b σ S) S
  | .not a, σ, S => (ev cl a σ S).bind fun x S => match x with
    | .bl c => .ok (.bl (!c)) S
    | _ => .bad
  | .ite c a b, σ, S => (ev cl c σ S).bind fun t S => iteK t (ev cl a σ S) (ev cl b σ S)
  | .tup es, σ, S => (ev cl es σ S).bind fun x S => match x with
    | .tup ws => if ws.length ≤ sizeLine then .ok (.tup ws) S else .bad
    | _ => .bad
  | .lst es, σ, S => (ev cl es σ S).bind fun x S => match x with
    | .tup ws => if ws.length ≤ sizeLine then .ok (.lst ws) S else .bad
    | _ => .bad
  | .new es, σ, S => (ev cl es σ S).bind fun x S => match x with
    | .tup ws => if ws.length ≤ sizeLine then .ok (.ref S.length) (S ++ [.lst ws]) else .bad
    | _ => .bad
  | .nil, _, S => .ok (.tup []) S
  | .cons e es, σ, S => (ev cl e σ S).bind fun x S => (ev cl es σ S).bind fun y S => match y with
    | .tup ws => .ok (.tup (x :: ws)) S
    | _ => .bad
  | .idx a b, σ, S => (ev cl a σ S).bind fun x S => (ev cl b σ S).bind fun y S => idxW x y S
  | .sl a lo hi, σ, S => (ev cl a σ S).bind fun x S => ((ev cl lo σ S).bind (intO (noB lo))).bind fun l S => ((ev cl hi σ S).bind (intO (noB hi))).bind fun h S => slW x l h S
  | .call f es, σ, S => (ev cl es σ S).bind fun x S => match x with
    | .tup ws => cl f ws S
    | _ => .bad
  | .bi b es, σ, S => (ev cl es σ S).bind fun x S => match x with
    | .tup ws => biW b ws S
    | _ => .bad
  | .mi m a es, σ, S => (ev cl a σ S).bind fun x S => if isStr x = true then (ev cl es σ S).bind fun y S => match y with
    | .tup ws => miW m x ws S
    | _ => .bad
    else .bad
  | .rng1 a, σ, S => (ev cl a σ S).bind rng1W
  | .rng2 a b, σ, S => (ev cl a σ S).bind fun x S => (ev cl b σ S).bind fun y S => rng2W x y S
  | .lc g it c e own, σ, S => (ev cl it σ S).bind fun x S => match itW x with
    | some items => lcLoop (fun x S => match asg g x (wipeW σ (own.map (·.2))) with
        | some σ' => (ev cl c σ' S).bind fun t S => iteK t ((ev cl e σ' S).bind fun y S => .ok (.lst [y]) S) (.ok (.lst []) S)
        | none => .bad) items [] S
    | none => .bad
  | .dc g it c k e own, σ, S => (ev cl it σ S).bind fun x S => match itW x with
    | some items => dcLoop (fun x S => match asg g x (wipeW σ (own.map (·.2))) with
        | some σ' => (ev cl c σ' S).bind fun t S => iteK t ((ev cl k σ' S).bind fun y S => (ev cl e σ' S).bind fun z S => .ok (.lst [y, z]) S) (.ok (.lst []) S)
        | none => .bad) items [] S
    | none => .bad
  | .fmt e, σ, S => (ev cl e σ S).bind fun x S => match fmtW x with
    | some y => .ok (.str y) S
    | none => .bad
  | .fs es, σ, S => match ev cl es σ S with
    | .ok (.tup ws) S => match joinF ws Str.empty with
      | some y => .ok (.str y) S
      | none => .bad
    | _ => .bad
  | .anyOut e z _, σ, S => (ev cl e σ S).bind fun x S => match x with
    | .str a => .ok (.bl (a.cps.toList.any fun c => !(decide (c ∈ z.cps.toList)))) S
    | _ => .bad
  | .told _ x e, σ, S => toldW x (ev cl e σ S)
  | .lam k, _, S => .ok (.ref S.length) (S ++ [.lam k])
  | .toldV _ x e, σ, S => (ev cl e σ S).bind fun w S => match w with
    | .ref i => match S[i]? with
      | some (.lam k) => toldW x (cl (lamName k) [] S)
      | _ => .bad
    | _ => .bad
/-! ### statements -/
inductive Sm where
  | set (g : Tg) (e : E) | par2 (i j : Nat) (a b : E) | par3 (i j l : Nat) (a b c : E)
  | setIx (o i v : E) | aug (i : Nat) (o : Bop) (e : E)
  | expr (e : E) | ifs (c : E) (a b : Sm) | whl (c : E) (b : Sm) | forr (g : Tg) (it : E) (b : Sm)
  | ret (e : E) | rais (c : Str) | pass | brk | cnt
  | nil | seq (a b : Sm)
inductive SR where
  | nx (σ : Sl) (S : Sto) | rt (w : Wv) (S : Sto) | bk (σ : Sl) (S : Sto) | ct (σ : Sl) (S : Sto) | xc (c : Str) (σ : Sl) (S : Sto) | bad
def Res.bs (r : Res) (σ : Sl) (k : Wv → Sto → SR) : SR := match r with
  | .ok w S => k w S
  | .exc c S => .xc c σ S
  | .bad => .bad
@[simp] theorem bs_ok (w : Wv) (σ : Sl) (S : Sto) (k : Wv → Sto → SR) : (Res.ok w S).bs σ k = k w S := rfl
@[simp] theorem bs_exc (c : Str) (σ : Sl) (S : Sto) (k : Wv → Sto → SR) : (Res.exc c S).bs σ k = .xc c σ S := rfl
@[simp] theorem bs_bad (σ : Sl) (k : Wv → Sto → SR) : Res.bad.bs σ k = .bad := rfl
def iteS (w : Wv) (a b : SR) : SR := match w with
  | .bl true => a
  | .bl false => b
  | _ => .bad
def wLoop (c : Sl → Sto → Res) (b : Sl → Sto → SR) : Nat → Sl → Sto → SR
  | 0, _, _ => .bad
  | n + 1, σ, S => (c σ S).bs σ fun t S => iteS t (match b σ S with
      | .nx σ S => wLoop c b n σ S
      | .ct σ S => wLoop c b n σ S
      | .bk σ S => .nx σ S
      | r => r) (.nx σ S)
def fLoop (g : Tg) (b : Sl → Sto → SR) : List Wv → Sl → Sto → SR
  | [], σ, S => .nx σ S
  | x :: xs, σ, S => match asg g x σ with
    | some σ' => match b σ' S with
      | .nx σ S => fLoop g b xs σ S
      | .ct σ S => fLoop g b xs σ S
      | .bk σ S => .nx σ S
      | r => r
    | none => .bad
/-- how many turns a while may take -/
def fuelW : Nat := 100000
def setIxW (o i v : Wv) (S : Sto) : Option Sto := match o, i with
  | .ref n, .int k => match S[n]? with
    | some (.lst ws) => match ixN ws.length k with
      | some j => some (S.set n (.lst (ws.set j v)))
      | none => none
    | _ => none
  | _, _ => none
def augW : Bop → Wv → Wv → Sto → Res
  | .add, .int i, .int j, S => .ok (.int (i + j)) S
  | .sub, .int i, .int j, S => .ok (.int (i - j)) S
  | _, _, _, _ => .bad
def ex (cl : Clr) : Sm → Sl → Sto → SR
  | .set g e, σ, S => (ev cl e σ S).bs σ fun w S => match asg g w σ with
    | some σ' => .nx σ' S
    | none => .bad
  | .par2 i j a b, σ, S => (ev cl a σ S).bs σ fun x S => (ev cl b σ S).bs σ fun y S => .nx ((σ.set i (some x)).set j (some y)) S
  | .par3 i j l a b c, σ, S => (ev cl a σ S).bs σ fun x S => (ev cl b σ S).bs σ fun y S => (ev cl c σ S).bs σ fun z S => .nx (((σ.set i (some x)).set j (some y)).set l (some z)) S
  | .setIx o i v, σ, S => (ev cl v σ S).bs σ fun w S => (ev cl o σ S).bs σ fun x S => (ev cl i σ S).bs σ fun y S => match setIxW x y w S with
    | some S' => .nx σ S'
    | none => .bad
  | .aug i o e, σ, S => match σ[i]? with
    | some (some x) => (ev cl e σ S).bs σ fun y S => (augW o x y S).bs σ fun z S => .nx (σ.set i (some z)) S
    | _ => .bad
  | .expr e, σ, S => (ev cl e σ S).bs σ fun _ S => .nx σ S
  | .ifs c a b, σ, S => (ev cl c σ S).bs σ fun t S => iteS t (ex cl a σ S) (ex cl b σ S)
  | .whl c b, σ, S => wLoop (ev cl c) (ex cl b) fuelW σ S
  | .forr g it b, σ, S => (ev cl it σ S).bs σ fun x S => match itW x with
    | some items => fLoop g (ex cl b) items σ S
    | none => .bad
  | .ret e, σ, S => (ev cl e σ S).bs σ fun w S => .rt w S
  | .rais c, σ, S => .xc c σ S
  | .pass, σ, S => .nx σ S
  | .brk, σ, S => .bk σ S
  | .cnt, σ, S => .ct σ S
  | .nil, σ, S => .nx σ S
  | .seq a b, σ, S => match ex cl a σ S with
    | .nx σ S => ex cl b σ S
    | r => r
/-! ### functions -/
structure FD where
  np : Nat
  ns : Nat
  body : Sm
def leave : SR → Res
  | .rt w S => .ok w S
  | .nx _ S => .ok .non S
  | .xc c _ S => .exc c S
  | _ => .bad
def startW (n : Nat) (ws : List Wv) : Sl := ws.map some ++ List.replicate (n - ws.length) none
def run (T : Str → Option FD) : Nat → Clr
  | 0, _, _, _ => .bad
  | k + 1, f, ws, S => match T f with
    | none => .bad
    | some d => if ws.length = d.np then leave (ex (run T k) d.body (startW d.ns ws) S) else .bad
end Dy

end
section
set_option Elab.async false
set_option linter.all false
set_option maxRecDepth 100000
set_option maxHeartbeats 400000
/-! Dy, part C: the operations on values are the machine's. -/
namespace Dy
open PySem PySem.Spec PyProof.Rows L2

section
variable {K : PySem.W.Frag} {H : Hp} {ι : Io} {Y : Addr → Prop} {G : Glob} {S : Sto} {Q : VK} {E : XK}
theorem RepV.int_eq {v : V} {i : Int} (h : RepV K H ι Y (.int i) v) : v = .int i := by cases h; rfl
theorem RepV.str_eq {v : V} {i : Str} (h : RepV K H ι Y (.str i) v) : v = .str i := by cases h; rfl
theorem RepV.bl_eq {v : V} {i : Bool} (h : RepV K H ι Y (.bl i) v) : v = .bl i := by cases h; rfl
theorem RepV.non_eq {v : V} (h : RepV K H ι Y .non v) : v = .non := by cases h; rfl
/-- a new list, a new tuple -/
theorem Post.newL {ws : List Wv} {vs : List V} (p : Post K G Y ι H (.ok (.lst ws) S) Q E) (R : Rel K G ι Y S H) (r : RepL K H ι Y ws vs) : ∀ q, H q = none → Q (.ref q) (upd H q (.lst vs)) := fun q n =>
  p ι _ _ (evo_new ι n) (R.newHp n) (.lst upd_same (R.fresh n) (r.evo (evo_new ι n)))
theorem Post.newT {ws : List Wv} {vs : List V} (p : Post K G Y ι H (.ok (.tup ws) S) Q E) (R : Rel K G ι Y S H) (r : RepL K H ι Y ws vs) : ∀ q, H q = none → Q (.ref q) (upd H q (.tup vs)) := fun q n =>
  p ι _ _ (evo_new ι n) (R.newHp n) (.tup (.inl upd_same) (R.fresh n) (r.evo (evo_new ι n)))
end

def bopA : Bop → Operator
  | .add => .Add | .sub => .Sub | .mul => .Mult | .fdiv => .FloorDiv | .mod => .Mod | .pow => .Pow
def rBin (K : PySem.W.Frag) (G : Glob) (o : Bop) : R2 := fun x y H Q => ∃ ι Y S w w' E, Rel K G ι Y S H ∧ RepV K H ι Y w x ∧ RepV K H ι Y w' y ∧ Post K G Y ι H (binW o w w' S) Q E
theorem op_mulS {X : Cx} : OpR X (binaryOp .Mult) (fun x y H Q => ∃ z n, x = .str z ∧ y = .int n ∧ (-(2 ^ 62) ≤ n ∧ n < 2 ^ 62 ∧ z.length * n.toNat ≤ 100000 ∧ (strRepW z n).length ≤ sizeLine) ∧ Q (.str (strRepW z n)) H) := by
  intro pins s σ H x y v u Q I rx ry h
  obtain ⟨z, n, rfl, rfl, ⟨h1, h2, h3, h4⟩, q⟩ := h
  obtain ⟨t, rfl⟩ := rx
  obtain ⟨t', rfl⟩ := ry
  have e1 : decide (n < -(2 ^ 63 : Int)) = false := decide_eq_false (by omega)
  have e2 : decide (n ≥ (2 ^ 63 : Int)) = false := decide_eq_false (by omega)
  refine PySem.P.mul_str (by rw [e1, e2]; rfl) (fun hn _ hc => ?_) (fun hn _ => ?_) ?_
  · have hz : (z.length : Int) * n ≤ 100000 := by
      have e : (n.toNat : Int) = n := Int.toNat_of_nonneg (by omega)
      rw [← e, ← Int.natCast_mul]
      exact Int.ofNat_le.mpr h3
    have := (Int.le_ediv_iff_mul_le (by omega : 0 < n) (a := (z.length : Int)) (b := 2 ^ 63 - 1)).mpr (by omega)
    omega
  · exact decide_eq_false (by rw [sizeLine_eq]; omega)
  · unfold strRepW at q h4
    by_cases a : n < 1
    · rw [if_pos a] at q ⊢
      exact ⟨by decide, ⟨.str _, H, I.tok _, ⟨_, rfl⟩, q⟩⟩
    · rw [if_neg a] at q ⊢
      by_cases b : (n == 1 || z.length == 0) = true
      · rw [if_pos b] at q ⊢
        exact ⟨.str _, H, I, ⟨_, rfl⟩, q⟩
      · rw [if_neg b] at q ⊢
        rw [if_neg a, if_neg b] at h4
        exact ⟨h4, ⟨.str _, H, I.tok _, ⟨_, rfl⟩, q⟩⟩
section
variable {X : Cx} {G : Glob}
theorem op_bin (o : Bop) : OpR X (binaryOp (bopA o)) (rBin X.K G o) := by
  intro pins s σ H x y v u Q I rx ry h
  obtain ⟨ι, Y, S, w, w', E, R, r1, r2, p⟩ := h
  cases o with
  | add =>
    cases w <;> cases w' <;> first | exact p.elim | skip
    · cases r1.int_eq; cases r2.int_eq
      exact op_add pins s σ H _ _ v u Q I rx ry ⟨_, _, rfl, rfl, p.here R (.int _)⟩
    · rename_i a b
      cases r1.str_eq; cases r2.str_eq
      by_cases hz : a.length + b.length ≤ sizeLine
      · simp only [binW, if_pos hz] at p
        exact op_add_str pins s σ H _ _ v u Q I rx ry ⟨_, _, rfl, rfl, hz, p.here R (.str _)⟩
      · simp only [binW, if_neg hz] at p
        exact p.elim
    · rename_i a b
      obtain ⟨p1, rfl, vs, h1, l1⟩ := r1.lst_ref
      obtain ⟨p2, rfl, us, h2, l2⟩ := r2.lst_ref
      by_cases hz : a.length + b.length ≤ sizeLine
      · simp only [binW, if_pos hz] at p
        exact op_cat pins s σ H _ _ v u Q I rx ry ⟨_, _, _, _, rfl, rfl, h1, h2, by rw [← l1.length, ← l2.length]; exact hz, p.newL R (l1.append l2)⟩
      · simp only [binW, if_neg hz] at p
        exact p.elim
  | sub =>
    cases w <;> cases w' <;> first | exact p.elim | skip
    cases r1.int_eq; cases r2.int_eq
    exact op_sub pins s σ H _ _ v u Q I rx ry ⟨_, _, rfl, rfl, p.here R (.int _)⟩
  | mul =>
    cases w <;> cases w' <;> first | exact p.elim | skip
    · rename_i i j
      cases r1.int_eq; cases r2.int_eq
      by_cases hz : CMul i j
      · simp only [binW, if_pos hz] at p
        exact op_mul pins s σ H _ _ v u Q I rx ry ⟨_, _, rfl, rfl, hz, p.here R (.int _)⟩
      · simp only [binW, if_neg hz] at p
        exact p.elim
    · rename_i z n
      cases r1.str_eq; cases r2.int_eq
      by_cases hz : -(2 ^ 62) ≤ n ∧ n < 2 ^ 62 ∧ z.length * n.toNat ≤ 100000 ∧ (strRepW z n).length ≤ sizeLine
      · simp only [binW, if_pos hz] at p
        exact op_mulS pins s σ H _ _ v u Q I rx ry ⟨_, _, rfl, rfl, hz, p.here R (.str _)⟩
      · simp only [binW, if_neg hz] at p
        exact p.elim
  | fdiv =>
    cases w <;> cases w' <;> first | exact p.elim | skip
    rename_i i j
    cases r1.int_eq; cases r2.int_eq
    by_cases hz : CDivN i j
    · simp only [binW, if_pos hz] at p
      exact op_fdivN pins s σ H _ _ v u Q I rx ry ⟨_, _, rfl, rfl, hz, p.here R (.int _)⟩
    · simp only [binW, if_neg hz] at p
      exact p.elim
  | mod =>
    cases w <;> cases w' <;> first | exact p.elim | skip
    rename_i i j
    cases r1.int_eq; cases r2.int_eq
    by_cases hz : j ≠ 0
    · simp only [binW, if_pos hz] at p
      exact op_modN pins s σ H _ _ v u Q I rx ry ⟨_, _, rfl, rfl, hz, p.here R (.int _)⟩
    · simp only [binW, if_neg hz] at p
      exact p.elim
  | pow =>
    cases w <;> cases w' <;> first | exact p.elim | skip
    rename_i i j
    cases r1.int_eq; cases r2.int_eq
    by_cases hz : CPow i j
    · simp only [binW, if_pos hz] at p
      exact op_pow pins s σ H _ _ v u Q I rx ry ⟨_, _, rfl, rfl, hz, p.here R (.int _)⟩
    · simp only [binW, if_neg hz] at p
      exact p.elim
end

/-! ### comparisons -/
section
variable {K : PySem.W.Frag} {ι : Io} {Y : Addr → Prop} {H : Hp}
mutual
theorem toD_Dp : ∀ (w : Wv) (v : V) (d : PyData), RepV K H ι Y w v → toD w = some d → Dp K H v d
  | .non, v, d, r, e => by
    have e : some PyData.none = some d := e
    cases e
    cases r
    exact .non
  | .bl b, v, d, r, e => by
    have e : some (PyData.bool b) = some d := e
    cases e
    cases r
    exact .bl b
  | .int b, v, d, r, e => by
    have e : some (PyData.int b) = some d := e
    cases e
    cases r
    exact .int b
  | .str b, v, d, r, e => by
    have e : some (PyData.str b) = some d := e
    cases e
    cases r
    exact .str b
  | .tup ws, v, d, r, e => by
    have e : (toDs ws).map PyData.tuple = some d := e
    obtain ⟨ds, e1, rfl⟩ := Option.map_eq_some_iff.mp e
    obtain ⟨p, rfl, vs, h, l⟩ := r.tup_ref
    exact .tup h (toDs_Dp ws vs ds l e1)
  | .lst ws, v, d, r, e => by
    have e : (toDs ws).map PyData.list = some d := e
    obtain ⟨ds, e1, rfl⟩ := Option.map_eq_some_iff.mp e
    obtain ⟨p, rfl, vs, h, l⟩ := r.lst_ref
    exact .lst (SqL.of h) (toDs_Dp ws vs ds l e1)
  | .dct _, _, d, _, e => nomatch (show none = some d from e)
  | .ref _, _, d, _, e => nomatch (show none = some d from e)
  | .arg _, _, d, _, e => nomatch (show none = some d from e)
theorem toDs_Dp : ∀ (ws : List Wv) (vs : List V) (ds : List PyData), RepL K H ι Y ws vs → toDs ws = some ds → DpAll K H vs ds
  | [], vs, ds, r, e => by
    have e : some [] = some ds := e
    cases e
    cases r
    exact .nil
  | w :: ws, vs, ds, r, e => by
    cases r with
    | cons r t =>
      have e' : (match toD w, toDs ws with | some d, some ds => some (d :: ds) | _, _ => none) = some ds := e
      cases e1 : toD w with
      | none => rw [e1] at e'; cases e'
      | some d =>
        cases e2 : toDs ws with
        | none => rw [e1, e2] at e'; cases e'
        | some ds' =>
          rw [e1, e2] at e'
          cases e'
          exact .cons (toD_Dp w _ d r e1) (toDs_Dp ws _ ds' t e2)
end
end
theorem flatW_V {K : PySem.W.Frag} {H : Hp} {ι : Io} {Y : Addr → Prop} {w : Wv} {v : V} (r : RepV K H ι Y w v) : flatV v = flatW w := by cases r <;> rfl
theorem eqW_V {K : PySem.W.Frag} {H : Hp} {ι : Io} {Y : Addr → Prop} {w w' : Wv} {v v' : V} (r : RepV K H ι Y w v) (r' : RepV K H ι Y w' v') (f : flatW w = true) (f' : flatW w' = true) : eqV v v' = eqW w w' := by
  cases r <;> first | (cases f; done) | (cases r' <;> first | (cases f'; done) | rfl)
theorem flatL_V {K : PySem.W.Frag} {H : Hp} {ι : Io} {Y : Addr → Prop} : ∀ {ws : List Wv} {vs : List V}, RepL K H ι Y ws vs → vs.all flatV = ws.all flatW
  | _, _, .nil => rfl
  | _, _, .cons r t => by rw [List.all_cons, List.all_cons, flatW_V r, flatL_V t]
theorem inW_V {K : PySem.W.Frag} {H : Hp} {ι : Io} {Y : Addr → Prop} {w : Wv} {v : V} (r : RepV K H ι Y w v) (f : flatW w = true) : ∀ {ws : List Wv} {vs : List V}, RepL K H ι Y ws vs → ws.all flatW = true → inV v vs = inW w ws
  | _, _, .nil, _ => rfl
  | _, _, .cons (w := w1) r1 t, h => by
    rw [List.all_cons, Bool.and_eq_true] at h
    have ih := inW_V r f t h.2
    unfold inV inW at ih ⊢
    rw [List.any_cons, List.any_cons, eqW_V r1 r h.1 f, ih]
theorem valW_V {K : PySem.W.Frag} {H : Hp} {ι : Io} {Y : Addr → Prop} {k : Key} : ∀ {ws : List (Key × Wv)} {vs : List (Key × V)}, RepD K H ι Y ws vs → (match valW ws k, valV vs k with | some w, some v => RepV K H ι Y w v | none, none => True | _, _ => False)
  | _, _, .nil => by trivial
  | _, _, .cons (k := k') (w := w) (v := v) (ws := ws) (vs := vs) r t => by
    have ih := valW_V (k := k) t
    unfold valW valV at ih ⊢
    by_cases e : k' = k
    · simp only [List.find?_cons, decide_eq_true e]
      exact r
    · simp only [List.find?_cons, decide_eq_false e]
      exact ih
theorem RepD.length {K : PySem.W.Frag} {H : Hp} {ι : Io} {Y : Addr → Prop} : ∀ {ws : List (Key × Wv)} {vs : List (Key × V)}, RepD K H ι Y ws vs → ws.length = vs.length
  | _, _, .nil => rfl
  | _, _, .cons _ t => by simp [RepD.length t]
/-- what a value is when it is read -/
theorem rd_lst {K : PySem.W.Frag} {G : Glob} {ι : Io} {Y : Addr → Prop} {S : Sto} {H : Hp} {w : Wv} {v : V} {ws : List Wv} (R : Rel K G ι Y S H) (r : RepV K H ι Y w v) (e : rd S w = .lst ws) : ∃ p vs, v = .ref p ∧ H p = some (.lst vs) ∧ RepL K H ι Y ws vs := by
  cases w with
  | ref i =>
    simp only [rd] at e
    cases r with
    | ref hi =>
      cases ho : S[i]? with
      | none => rw [ho] at e; cases e
      | some o =>
        rw [ho] at e
        obtain ⟨a, h, h1, h2, h3⟩ := R.obj i o ho
        rw [hi] at h1
        cases h1
        cases h3 with
        | lst l => cases e; exact ⟨_, _, rfl, h2, l⟩
        | dct l => cases e
        | ins c l => cases e
        | lam _ _ => cases e
  | lst xs =>
    cases e
    obtain ⟨p, rfl, vs, h1, h2⟩ := r.lst_ref
    exact ⟨p, vs, rfl, h1, h2⟩
  | _ => cases e
theorem rd_tup {S : Sto} {w : Wv} {ws : List Wv} (e : rd S w = .tup ws) : w = .tup ws := by
  cases w with
  | ref i =>
    simp only [rd] at e
    split at e <;> cases e
  | _ => exact e
theorem rd_str {S : Sto} {w : Wv} {z : Str} (e : rd S w = .str z) : w = .str z := by
  cases w with
  | ref i =>
    simp only [rd] at e
    split at e <;> cases e
  | _ => exact e
theorem rd_arg {S : Sto} {w : Wv} {z : List Int} (e : rd S w = .arg z) : w = .arg z := by
  cases w with
  | ref i =>
    simp only [rd] at e
    split at e <;> cases e
  | _ => exact e
theorem rd_dct {K : PySem.W.Frag} {G : Glob} {ι : Io} {Y : Addr → Prop} {S : Sto} {H : Hp} {w : Wv} {v : V} {ws : List (Key × Wv)} (R : Rel K G ι Y S H) (r : RepV K H ι Y w v) (e : rd S w = .dct ws) : ∃ p vs, v = .ref p ∧ H p = some (.dK vs) ∧ RepD K H ι Y ws vs := by
  cases w with
  | ref i =>
    simp only [rd] at e
    cases r with
    | ref hi =>
      cases ho : S[i]? with
      | none => rw [ho] at e; cases e
      | some o =>
        rw [ho] at e
        obtain ⟨a, h, h1, h2, h3⟩ := R.obj i o ho
        rw [hi] at h1
        cases h1
        cases h3 with
        | lst l => cases e
        | dct l => cases e; exact ⟨_, _, rfl, h2, l⟩
        | ins c l => cases e
        | lam _ _ => cases e
  | dct xs =>
    cases e
    cases r with
    | dct h f l => exact ⟨_, _, rfl, h, l⟩
  | _ => cases e
theorem keyW_V {K : PySem.W.Frag} {H : Hp} {ι : Io} {Y : Addr → Prop} {w : Wv} {v : V} {k : Key} (r : RepV K H ι Y w v) (e : keyW w = some k) : v = kV k := by
  cases r <;> first | (cases e; done) | (cases e; rfl)

def copA : Cop → CmpOp
  | .eq => .Eq | .ne => .NotEq | .lt => .Lt | .le => .LtE | .gt => .Gt | .ge => .GtE | .isN => .Is | .notN => .IsNot | .isin => .In | .notin => .NotIn
def rCmp (K : PySem.W.Frag) (G : Glob) (o : Cop) : R2 := fun x y H Q => ∃ ι Y S w w' E, Rel K G ι Y S H ∧ RepV K H ι Y w x ∧ RepV K H ι Y w' y ∧ Post K G Y ι H (cmpW o w w' S) Q E
section
variable {X : Cx} {G : Glob}
theorem ofB_post {K : PySem.W.Frag} {Y : Addr → Prop} {ι : Io} {H : Hp} {o : Option Bool} {neg : Bool} {S : Sto} {Q : VK} {E : XK} (R : Rel K G ι Y S H) (p : Post K G Y ι H (ofB o neg S) Q E) : ∃ b, o = some b ∧ Q (.bl (if neg then !b else b)) H := by
  cases o with
  | none => exact p.elim
  | some b => exact ⟨b, rfl, p.here R (.bl _)⟩
/-- x in y, by its answer -/
theorem mem_in {pins : List (Addr × Obj)} {s : Shared} {σ : L2.St} {H : Hp} {x y : V} {v u : Value} {Q : VK} {ι : Io} {Y : Addr → Prop} {S : Sto} {w w' : Wv} {b neg : Bool} (hu : X.A.units + 1 < cLine) (I : Inv X pins σ H s) (rx : RelV x v) (ry : RelV y u) (R : Rel X.K G ι Y S H)
    (r1 : RepV X.K H ι Y w x) (r2 : RepV X.K H ι Y w' y) (hm : memW w (rd S w') = some b) (q : Q (.bl (if neg then !b else b)) H) :
    wpAny (model X.prog X.w) X.A (compareOp (if neg then .NotIn else .In) v u) (EP X pins σ Q) X.xe s := by
  have seq : ∀ {p : Addr} {ws : List Wv} {vs : List V}, y = .ref p → (SqL X.K H p vs ∨ SqT X.K H p vs) → RepL X.K H ι Y ws vs → (if flatW w = true ∧ ws.all flatW = true then some (inW w ws) else none) = some b →
      wpAny (model X.prog X.w) X.A (compareOp (if neg then .NotIn else .In) v u) (EP X pins σ Q) X.xe s := by
    intro p ws vs ey hs l e
    subst ey
    by_cases f : flatW w = true ∧ ws.all flatW = true
    · rw [if_pos f] at e
      cases e
      cases neg with
      | false => exact op_in_seq pins s σ H _ _ v u Q I rx ry ⟨p, vs, rfl, hs, by rw [flatW_V r1]; exact f.1, by rw [flatL_V l]; exact f.2, by rw [inW_V r1 f.1 l f.2]; exact q⟩
      | true => exact op_notIn_seq pins s σ H _ _ v u Q I rx ry ⟨p, vs, rfl, hs, by rw [flatW_V r1]; exact f.1, by rw [flatL_V l]; exact f.2, by rw [inW_V r1 f.1 l f.2]; exact q⟩
    · rw [if_neg f] at e; cases e
  cases e : rd S w' with
  | lst ws =>
    rw [e] at hm
    obtain ⟨p, vs, ey, h, l⟩ := rd_lst R r2 e
    exact seq ey (.inl (SqL.of h)) l hm
  | tup ws =>
    rw [e] at hm
    rw [rd_tup e] at r2
    obtain ⟨p, ey, vs, h, l⟩ := r2.tup_ref
    exact seq ey (.inr h) l hm
  | str z =>
    rw [e] at hm
    rw [rd_str e] at r2
    cases r2.str_eq
    cases w with
    | str a =>
      cases r1.str_eq
      cases hm
      cases neg with
      | false => exact op_in_str pins s σ H _ _ v u Q I rx ry ⟨_, _, rfl, rfl, q⟩
      | true => exact op_notin_str pins s σ H _ _ v u Q I rx ry ⟨_, _, rfl, rfl, q⟩
    | _ => cases hm
  | dct kvs =>
    rw [e] at hm
    obtain ⟨p, vs, rfl, h, l⟩ := rd_dct R r2 e
    have hm' : (match keyW w with | some k => some (valW kvs k).isSome | none => none) = some b := hm
    cases ek : keyW w with
    | none => rw [ek] at hm'; cases hm'
    | some k =>
      rw [ek] at hm'
      cases hm'
      cases keyW_V r1 ek
      have hv := valW_V (k := k) l
      have es : (valV vs k).isSome = (valW kvs k).isSome := by
        cases e1 : valW kvs k <;> cases e2 : valV vs k <;> rw [e1, e2] at hv <;> first | rfl | exact hv.elim
      obtain rfl : u = Value.ref p := ry
      cases neg with
      | false => exact d_in hu I (DGet.k (k := k) h) rx fun s3 I3 => ⟨.bl _, H, I3, rfl, by rw [es]; exact q⟩
      | true => exact d_notIn hu I (DGet.k (k := k) h) rx fun s3 I3 => ⟨.bl _, H, I3, rfl, by rw [es]; exact q⟩
  | non => rw [e] at hm; cases hm
  | bl _ => rw [e] at hm; cases hm
  | int _ => rw [e] at hm; cases hm
  | ref _ => rw [e] at hm; cases hm
  | arg _ => rw [e] at hm; cases hm
theorem op_cmp (hu : X.A.units + 64 < cLine) (o : Cop) (ho : o ≠ .isN) (ho' : o ≠ .notN) : OpR X (compareOp (copA o)) (rCmp X.K G o) := by
  intro pins s σ H x y v u Q I rx ry h
  obtain ⟨ι, Y, S, w, w', E, R, r1, r2, p⟩ := h
  have hu1 : X.A.units + 1 < cLine := Nat.lt_of_le_of_lt (Nat.add_le_add_left (by decide : 1 ≤ 64) _) hu
  have eqc : ∀ b, eqD w w' = some b → ∃ d e, Dp X.K H x d ∧ Dp X.K H y e ∧ SeqAt.shaped d = true ∧ SeqAt.shaped e = true ∧ PyData.eqv d e = b := by
    intro b e
    unfold eqD at e
    cases e1 : toD w with
    | none => rw [e1] at e; cases e
    | some d =>
      cases e2 : toD w' with
      | none => rw [e1, e2] at e; cases e
      | some d' =>
        rw [e1, e2] at e
        have e : (if SeqAt.shaped d = true ∧ SeqAt.shaped d' = true then some (PyData.eqv d d') else none) = some b := e
        by_cases hs : SeqAt.shaped d = true ∧ SeqAt.shaped d' = true
        · rw [if_pos hs] at e
          cases e
          exact ⟨d, d', toD_Dp w x d r1 e1, toD_Dp w' y d' r2 e2, hs.1, hs.2, rfl⟩
        · rw [if_neg hs] at e; cases e
  cases o with
  | isN => exact absurd rfl ho
  | notN => exact absurd rfl ho'
  | eq =>
    obtain ⟨b, e, q⟩ := ofB_post R p
    obtain ⟨d, d', h1, h2, s1, s2, eb⟩ := eqc b e
    exact op_eqD hu pins s σ H x y v u Q I rx ry ⟨d, d', h1, h2, s1, s2, by rw [eb]; exact q⟩
  | ne =>
    obtain ⟨b, e, q⟩ := ofB_post R p
    obtain ⟨d, d', h1, h2, s1, s2, eb⟩ := eqc b e
    exact op_neD hu pins s σ H x y v u Q I rx ry ⟨d, d', h1, h2, s1, s2, by rw [eb]; exact q⟩
  | isin =>
    obtain ⟨b, e, q⟩ := ofB_post R p
    exact mem_in (neg := false) hu1 I rx ry R r1 r2 e q
  | notin =>
    obtain ⟨b, e, q⟩ := ofB_post R p
    exact mem_in (neg := true) hu1 I rx ry R r1 r2 e q
  | lt =>
    cases w <;> first | exact p.elim | skip
    cases w' <;> first | exact p.elim | skip
    cases r1.int_eq; cases r2.int_eq
    exact op_lt pins s σ H _ _ v u Q I rx ry ⟨_, _, rfl, rfl, p.here R (.bl _)⟩
  | le =>
    cases w <;> first | exact p.elim | skip
    cases w' <;> first | exact p.elim | skip
    cases r1.int_eq; cases r2.int_eq
    exact op_le pins s σ H _ _ v u Q I rx ry ⟨_, _, rfl, rfl, p.here R (.bl _)⟩
  | gt =>
    cases w <;> first | exact p.elim | skip
    cases w' <;> first | exact p.elim | skip
    cases r1.int_eq; cases r2.int_eq
    exact op_gt pins s σ H _ _ v u Q I rx ry ⟨_, _, rfl, rfl, p.here R (.bl _)⟩
  | ge =>
    cases w <;> first | exact p.elim | skip
    cases w' <;> first | exact p.elim | skip
    cases r1.int_eq; cases r2.int_eq
    exact op_ge pins s σ H _ _ v u Q I rx ry ⟨_, _, rfl, rfl, p.here R (.bl _)⟩
end

/-! ### subscripts, slices -/
theorem atI_rep {K : PySem.W.Frag} {H : Hp} {ι : Io} {Y : Addr → Prop} {ws : List Wv} {vs : List V} {i : Int} {w : Wv} (l : RepL K H ι Y ws vs) (e : atI ws i = some w) : ∃ v, atI vs i = some v ∧ RepV K H ι Y w v := by
  unfold atI at e ⊢
  rw [← l.length]
  cases e1 : ixN ws.length i with
  | none => rw [e1] at e; cases e
  | some j =>
    rw [e1] at e
    exact l.get e
def rIdx (K : PySem.W.Frag) (G : Glob) : R2 := fun x y H Q => ∃ ι Y S w w' E, Rel K G ι Y S H ∧ RepV K H ι Y w x ∧ RepV K H ι Y w' y ∧ Post K G Y ι H (idxW w w' S) Q E
section
variable {X : Cx} {G : Glob}
theorem ix_W : IxR X (rIdx X.K G) := by
  intro value slice pins s σ H x y v u Q I rx ry h hs
  obtain ⟨ι, Y, S, w, w', E, R, r1, r2, p⟩ := h
  unfold idxW at p
  cases w' with
  | int i =>
    cases r2.int_eq
    cases e : rd S w with
    | lst ws =>
      rw [e] at p
      obtain ⟨q, vs, rfl, h, l⟩ := rd_lst R r1 e
      cases ea : atI ws i with
      | none => simp only [ea] at p; exact p.elim
      | some z =>
        simp only [ea] at p
        obtain ⟨z', e2, rz⟩ := atI_rep l ea
        exact ix_list value slice pins s σ H _ _ v u Q I rx ry ⟨q, vs, i, z', rfl, rfl, SqL.of h, e2, p.here R rz⟩ hs
    | tup ws =>
      rw [e] at p
      rw [rd_tup e] at r1
      obtain ⟨q, rfl, vs, h, l⟩ := r1.tup_ref
      cases ea : atI ws i with
      | none => simp only [ea] at p; exact p.elim
      | some z =>
        simp only [ea] at p
        obtain ⟨z', e2, rz⟩ := atI_rep l ea
        exact ix_tup value slice pins s σ H _ _ v u Q I rx ry ⟨q, vs, i, z', rfl, rfl, h, e2, p.here R rz⟩ hs
    | str z =>
      rw [e] at p
      rw [rd_str e] at r1
      cases r1.str_eq
      by_cases hz : z.length ≤ sizeLine
      · simp only [if_pos hz] at p
        cases ea : atI z.cps.toList i with
        | none => simp only [ea] at p; exact p.elim
        | some c =>
          simp only [ea] at p
          exact ix_str value slice pins s σ H _ _ v u Q I rx ry ⟨z, i, c, rfl, rfl, hz, ea, p.here R (.str _)⟩ hs
      · simp only [if_neg hz] at p; exact p.elim
    | non => rw [e] at p; exact p.elim
    | bl _ => rw [e] at p; exact p.elim
    | int _ => rw [e] at p; exact p.elim
    | ref _ => rw [e] at p; exact p.elim
    | arg _ => rw [e] at p; exact p.elim
    | dct _ => rw [e] at p; exact p.elim
  | _ => cases e : rd S w <;> (rw [e] at p; exact p.elim)
theorem cutW_V {K : PySem.W.Frag} {H : Hp} {ι : Io} {Y : Addr → Prop} {ws : List Wv} {vs : List V} (l : RepL K H ι Y ws vs) (lo hi : Option Int) : RepL K H ι Y (cutW ws lo hi) (cutV vs lo hi) := by
  unfold cutW cutV
  rw [l.length]
  exact (l.drop _).take _
def rSli (K : PySem.W.Frag) (G : Glob) : V → Option Int → Option Int → Hp → VK → Prop := fun x lo hi H Q => ∃ ι Y S w wl wh E, Rel K G ι Y S H ∧ RepV K H ι Y w x ∧ bndW wl = some lo ∧ bndW wh = some hi ∧ Post K G Y ι H (slW w wl wh S) Q E
theorem sl_W : SlR X (rSli X.K G) := by
  intro pins s σ H x v vl vu lo hi sl Q I rx hs pl pu h
  obtain ⟨ι, Y, S, w, wl, wh, E, R, r1, e1, e2, p⟩ := h
  unfold slW at p
  rw [e1, e2] at p
  have p : Post X.K G Y ι H (match rd S w with
    | .lst xs => .ok (.lst (cutW xs lo hi)) S
    | .arg ns => .ok (.lst (cutW (ns.map .int) lo hi)) S
    | .str z => if z.length ≤ sizeLine then .ok (.str (cutS z lo hi)) S else .bad
    | _ => .bad) Q E := p
  cases e : rd S w with
  | lst ws =>
    rw [e] at p
    obtain ⟨q, vs, rfl, h, l⟩ := rd_lst R r1 e
    exact sl_list pins s σ H _ v vl vu lo hi sl Q I rx hs pl pu ⟨q, vs, rfl, SqL.of h, p.newL R (cutW_V l lo hi)⟩
  | arg ns =>
    rw [e] at p
    rw [rd_arg e] at r1
    obtain ⟨q, rfl, h⟩ := r1.arg_ref
    exact sl_list pins s σ H _ v vl vu lo hi sl Q I rx hs pl pu ⟨q, _, rfl, h, p.newL R (cutW_V (RepL.of_ints ns) lo hi)⟩
  | str z =>
    rw [e] at p
    rw [rd_str e] at r1
    cases r1.str_eq
    by_cases hz : z.length ≤ sizeLine
    · simp only [if_pos hz] at p
      exact sl_str pins s σ H _ v vl vu lo hi sl Q I rx hs pl pu ⟨z, rfl, hz, p.here R (.str _)⟩
    · simp only [if_neg hz] at p; exact p.elim
  | non => rw [e] at p; exact p.elim
  | bl _ => rw [e] at p; exact p.elim
  | int _ => rw [e] at p; exact p.elim
  | ref _ => rw [e] at p; exact p.elim
  | tup _ => rw [e] at p; exact p.elim
  | dct _ => rw [e] at p; exact p.elim
end
end Dy

end
section
set_option Elab.async false
set_option linter.all false
set_option maxRecDepth 100000
set_option maxHeartbeats 400000
/-! Dy, part D: built-in functions and methods. -/
namespace Dy
open PySem PySem.Spec PyProof.Rows L2

theorem intsW_map : ∀ {ws : List Wv} {ns : List Int}, intsW ws = some ns → ws = ns.map Wv.int
  | [], ns, e => by
    have e : some [] = some ns := e
    cases e
    rfl
  | .int i :: r, ns, e => by
    have e : (intsW r).map (i :: ·) = some ns := e
    obtain ⟨ms, e1, rfl⟩ := Option.map_eq_some_iff.mp e
    rw [intsW_map e1]
    rfl
  | .non :: r, ns, e => nomatch (show none = some ns from e)
  | .bl _ :: r, ns, e => nomatch (show none = some ns from e)
  | .str _ :: r, ns, e => nomatch (show none = some ns from e)
  | .tup _ :: r, ns, e => nomatch (show none = some ns from e)
  | .lst _ :: r, ns, e => nomatch (show none = some ns from e)
  | .dct _ :: r, ns, e => nomatch (show none = some ns from e)
  | .ref _ :: r, ns, e => nomatch (show none = some ns from e)
  | .arg _ :: r, ns, e => nomatch (show none = some ns from e)
theorem strsW_map : ∀ {ws : List Wv} {ns : List Str}, strsW ws = some ns → ws = ns.map Wv.str
  | [], ns, e => by
    have e : some [] = some ns := e
    cases e
    rfl
  | .str i :: r, ns, e => by
    have e : (strsW r).map (i :: ·) = some ns := e
    obtain ⟨ms, e1, rfl⟩ := Option.map_eq_some_iff.mp e
    rw [strsW_map e1]
    rfl
  | .non :: r, ns, e => nomatch (show none = some ns from e)
  | .bl _ :: r, ns, e => nomatch (show none = some ns from e)
  | .int _ :: r, ns, e => nomatch (show none = some ns from e)
  | .tup _ :: r, ns, e => nomatch (show none = some ns from e)
  | .lst _ :: r, ns, e => nomatch (show none = some ns from e)
  | .dct _ :: r, ns, e => nomatch (show none = some ns from e)
  | .ref _ :: r, ns, e => nomatch (show none = some ns from e)
  | .arg _ :: r, ns, e => nomatch (show none = some ns from e)
section
variable {K : PySem.W.Frag} {H : Hp} {ι : Io} {Y : Addr → Prop}
theorem RepL.strs : ∀ {ns : List Str} {vs : List V}, RepL K H ι Y (ns.map Wv.str) vs → vs = ns.map V.str
  | [], _, h => by cases h; rfl
  | n :: ns, _, h => by
    cases h with
    | cons r t =>
      cases r
      rw [RepL.strs t]
      rfl
theorem RepL.of_strs : ∀ (ns : List Str), RepL K H ι Y (ns.map Wv.str) (ns.map V.str)
  | [] => .nil
  | n :: ns => .cons (.str n) (RepL.of_strs ns)
end

def biF : BI → Value
  | .len => .builtin "len" | .str => .type "str" | .int => .type "int" | .abs => .builtin "abs" | .min2 => .builtin "min" | .max2 => .builtin "max" | .sum => .builtin "sum"
def rBi (K : PySem.W.Frag) (G : Glob) (b : BI) : List V → Hp → VK → Prop := fun vs H Q => ∃ ι Y S ws E, Rel K G ι Y S H ∧ RepL K H ι Y ws vs ∧ Post K G Y ι H (biW b ws S) Q E
section
variable {X : Cx} {G : Glob}
theorem RepL.one {K : PySem.W.Frag} {H : Hp} {ι : Io} {Y : Addr → Prop} {w : Wv} {vs : List V} (l : RepL K H ι Y [w] vs) : ∃ v, vs = [v] ∧ RepV K H ι Y w v := by
  cases l with
  | cons r t => cases t; exact ⟨_, rfl, r⟩
theorem RepL.two {K : PySem.W.Frag} {H : Hp} {ι : Io} {Y : Addr → Prop} {w w' : Wv} {vs : List V} (l : RepL K H ι Y [w, w'] vs) : ∃ v v', vs = [v, v'] ∧ RepV K H ι Y w v ∧ RepV K H ι Y w' v' := by
  cases l with
  | cons r t =>
    cases t with
    | cons r' t => cases t; exact ⟨_, _, rfl, r, r'⟩
theorem bi_len : CallR X (biF .len) (rBi X.K G .len) := by
  intro pins s σ H vs us Q I rv h
  obtain ⟨ι, Y, S, ws, E, R, l, p⟩ := h
  match ws, l, p with
  | [], _, p => exact p.elim
  | _ :: _ :: _, _, p => exact p.elim
  | [w], l, p =>
    obtain ⟨v, rfl, r⟩ := l.one
    have p : Post X.K G Y ι H (match rd S w with
      | .lst xs => .ok (.int xs.length) S
      | .tup xs => .ok (.int xs.length) S
      | .str z => if z.length ≤ sizeLine then .ok (.int z.length) S else .bad
      | _ => .bad) Q E := p
    cases e : rd S w with
    | lst xs =>
      rw [e] at p
      obtain ⟨q, vs, rfl, h, l2⟩ := rd_lst R r e
      exact call_len_seq pins s σ H _ us Q I rv ⟨q, vs, rfl, .inl (SqL.of h), by rw [← l2.length]; exact p.here R (.int _)⟩
    | tup xs =>
      rw [e] at p
      rw [rd_tup e] at r
      obtain ⟨q, rfl, vs, h, l2⟩ := r.tup_ref
      exact call_len_seq pins s σ H _ us Q I rv ⟨q, vs, rfl, .inr h, by rw [← l2.length]; exact p.here R (.int _)⟩
    | str z =>
      rw [e] at p
      rw [rd_str e] at r
      cases r.str_eq
      by_cases hz : z.length ≤ sizeLine
      · simp only [if_pos hz] at p
        exact call_len_str pins s σ H _ us Q I rv ⟨z, rfl, hz, p.here R (.int _)⟩
      · simp only [if_neg hz] at p; exact p.elim
    | non => rw [e] at p; exact p.elim
    | bl _ => rw [e] at p; exact p.elim
    | int _ => rw [e] at p; exact p.elim
    | ref _ => rw [e] at p; exact p.elim
    | dct _ => rw [e] at p; exact p.elim
    | arg _ => rw [e] at p; exact p.elim
theorem bi_str : CallR X (biF .str) (rBi X.K G .str) := by
  intro pins s σ H vs us Q I rv h
  obtain ⟨ι, Y, S, ws, E, R, l, p⟩ := h
  match ws, l, p with
  | [], _, p => exact p.elim
  | w1 :: _ :: _, _, p => cases w1 <;> exact p.elim
  | [w], l, p =>
    obtain ⟨v, rfl, r⟩ := l.one
    cases w <;> first | exact p.elim | skip
    rename_i i
    cases r.int_eq
    have p : Post X.K G Y ι H (if i.natAbs.log2 < 1920 then .ok (.str (Str.ofString (toString i))) S else .bad) Q E := p
    by_cases hz : i.natAbs.log2 < 1920
    · rw [if_pos hz] at p
      exact call_str_int pins s σ H _ us Q I rv ⟨i, rfl, hz, p.here R (.str _)⟩
    · rw [if_neg hz] at p; exact p.elim
theorem int_or : CallR X (.type "int") (fun xs H Q => ((∃ i, xs = [.int i] ∧ Q (.int i) H) ∨ ∃ k, xs = [.bl k] ∧ Q (.int (if k then 1 else 0)) H) ∨ (∃ a n, xs = [.str a] ∧ PySem.intText? a = some n ∧ a.length ≤ 640 ∧ Q (.int n) H)) := by
  intro pins s σ H vs us Q I rv h
  rcases h with h | h
  · exact call_int1 pins s σ H vs us Q I rv h
  · exact call_int_str pins s σ H vs us Q I rv h
theorem bi_int : CallR X (biF .int) (rBi X.K G .int) := by
  intro pins s σ H vs us Q I rv h
  obtain ⟨ι, Y, S, ws, E, R, l, p⟩ := h
  match ws, l, p with
  | [], _, p => exact p.elim
  | w1 :: _ :: _, _, p => cases w1 <;> exact p.elim
  | [w], l, p =>
    obtain ⟨v, rfl, r⟩ := l.one
    cases w <;> first | exact p.elim | skip
    · rename_i b
      cases r.bl_eq
      exact int_or pins s σ H _ us Q I rv (.inl (.inr ⟨_, rfl, p.here R (.int _)⟩))
    · rename_i i
      cases r.int_eq
      exact int_or pins s σ H _ us Q I rv (.inl (.inl ⟨_, rfl, p.here R (.int _)⟩))
    · rename_i a
      cases r.str_eq
      have p : Post X.K G Y ι H (match PySem.intText? a with
        | some n => if a.length ≤ 640 then .ok (.int n) S else .bad
        | none => .bad) Q E := p
      cases e : PySem.intText? a with
      | none => simp only [e] at p; exact p.elim
      | some n =>
        simp only [e] at p
        by_cases hz : a.length ≤ 640
        · rw [if_pos hz] at p
          exact int_or pins s σ H _ us Q I rv (.inr ⟨_, n, rfl, e, hz, p.here R (.int _)⟩)
        · rw [if_neg hz] at p; exact p.elim
theorem bi_abs : CallR X (biF .abs) (rBi X.K G .abs) := by
  intro pins s σ H vs us Q I rv h
  obtain ⟨ι, Y, S, ws, E, R, l, p⟩ := h
  match ws, l, p with
  | [], _, p => exact p.elim
  | w1 :: _ :: _, _, p => cases w1 <;> exact p.elim
  | [w], l, p =>
    obtain ⟨v, rfl, r⟩ := l.one
    cases w <;> first | exact p.elim | skip
    cases r.int_eq
    exact call_abs pins s σ H _ us Q I rv ⟨_, rfl, p.here R (.int _)⟩
theorem bi_min2 (hc : X.calm = true) : CallR X (biF .min2) (rBi X.K G .min2) := by
  intro pins s σ H vs us Q I rv h
  obtain ⟨ι, Y, S, ws, E, R, l, p⟩ := h
  match ws, l, p with
  | [], _, p => exact p.elim
  | [w1], _, p => cases w1 <;> exact p.elim
  | w1 :: w2 :: _ :: _, _, p => cases w1 <;> first | exact p.elim | (cases w2 <;> exact p.elim)
  | [w, w'], l, p =>
    obtain ⟨v, v', rfl, r, r'⟩ := l.two
    cases w <;> first | exact p.elim | skip
    cases w' <;> first | exact p.elim | skip
    cases r.int_eq; cases r'.int_eq
    exact call_min2 hc pins s σ H _ us Q I rv ⟨_, _, rfl, p.here R (.int _)⟩
theorem bi_max2 (hc : X.calm = true) : CallR X (biF .max2) (rBi X.K G .max2) := by
  intro pins s σ H vs us Q I rv h
  obtain ⟨ι, Y, S, ws, E, R, l, p⟩ := h
  match ws, l, p with
  | [], _, p => exact p.elim
  | [w1], _, p => cases w1 <;> exact p.elim
  | w1 :: w2 :: _ :: _, _, p => cases w1 <;> first | exact p.elim | (cases w2 <;> exact p.elim)
  | [w, w'], l, p =>
    obtain ⟨v, v', rfl, r, r'⟩ := l.two
    cases w <;> first | exact p.elim | skip
    cases w' <;> first | exact p.elim | skip
    cases r.int_eq; cases r'.int_eq
    exact call_max2 hc pins s σ H _ us Q I rv ⟨_, _, rfl, p.here R (.int _)⟩
theorem bi_sum (hc : X.calm = true) : CallR X (biF .sum) (rBi X.K G .sum) := by
  intro pins s σ H vs us Q I rv h
  obtain ⟨ι, Y, S, ws, E, R, l, p⟩ := h
  match ws, l, p with
  | [], _, p => exact p.elim
  | w1 :: _ :: _, _, p => cases w1 <;> exact p.elim
  | [w], l, p =>
    obtain ⟨v, rfl, r⟩ := l.one
    cases w <;> first | exact p.elim | skip
    rename_i xs
    obtain ⟨q, rfl, vs, h, l2⟩ := r.lst_ref
    have p : Post X.K G Y ι H (match intsW xs with
      | some ns => .ok (.int ns.sum) S
      | none => .bad) Q E := p
    cases e : intsW xs with
    | none => simp only [e] at p; exact p.elim
    | some ns =>
      simp only [e] at p
      rw [intsW_map e] at l2
      rw [l2.ints] at h
      exact cr_sum hc pins s σ H _ us Q I rv ⟨q, ns, rfl, SqL.of h, p.here R (.int _)⟩
theorem bi_ok (hc : X.calm = true) : ∀ b : BI, CallR X (biF b) (rBi X.K G b)
  | .len => bi_len | .str => bi_str | .int => bi_int | .abs => bi_abs | .min2 => bi_min2 hc | .max2 => bi_max2 hc | .sum => bi_sum hc
end

/-! ### methods of texts -/
def miId : MI → String
  | .split => "str.split" | .partition => "str.partition" | .join => "str.join"
def rMi (K : PySem.W.Frag) (G : Glob) (m : MI) : V → List V → Hp → VK → Prop := fun x vs H Q => ∃ ι Y S w ws E, Rel K G ι Y S H ∧ RepV K H ι Y w x ∧ RepL K H ι Y ws vs ∧ Post K G Y ι H (miW m w ws S) Q E
section
variable {X : Cx} {G : Glob}
theorem mi_split : MtR X (miId .split) (rMi X.K G .split) := by
  intro pins s σ H x xs v us Q I rx rv h
  obtain ⟨ι, Y, S, w, ws, E, R, r, l, p⟩ := h
  cases w <;> first | exact p.elim | skip
  rename_i a
  cases r.str_eq
  match ws, l, p with
  | [], _, p => exact p.elim
  | w1 :: _ :: _, _, p => cases w1 <;> exact p.elim
  | [w], l, p =>
    obtain ⟨v, rfl, r⟩ := l.one
    cases w <;> first | exact p.elim | skip
    rename_i b
    cases r.str_eq
    have p : Post X.K G Y ι H (if (b.length == 0) = false ∧ a.length + 2 ≤ sizeLine then .ok (.lst ((Txt.split a b).map .str)) S else .bad) Q E := p
    by_cases hz : (b.length == 0) = false ∧ a.length + 2 ≤ sizeLine
    · rw [if_pos hz] at p
      exact mt_split pins s σ H _ _ _ us Q I rx rv ⟨a, b, rfl, rfl, hz.1, hz.2, p.newL R (RepL.of_strs _)⟩
    · rw [if_neg hz] at p; exact p.elim
theorem mi_partition : MtR X (miId .partition) (rMi X.K G .partition) := by
  intro pins s σ H x xs v us Q I rx rv h
  obtain ⟨ι, Y, S, w, ws, E, R, r, l, p⟩ := h
  cases w <;> first | exact p.elim | skip
  rename_i a
  cases r.str_eq
  match ws, l, p with
  | [], _, p => exact p.elim
  | w1 :: _ :: _, _, p => cases w1 <;> exact p.elim
  | [w], l, p =>
    obtain ⟨v, rfl, r⟩ := l.one
    cases w <;> first | exact p.elim | skip
    rename_i b
    cases r.str_eq
    have p : Post X.K G Y ι H (if (b.length == 0) = false ∧ a.length ≤ sizeLine then .ok (.tup [.str (Txt.partition a b).1, .str (Txt.partition a b).2.1, .str (Txt.partition a b).2.2]) S else .bad) Q E := p
    by_cases hz : (b.length == 0) = false ∧ a.length ≤ sizeLine
    · rw [if_pos hz] at p
      exact mt_partition pins s σ H _ _ _ us Q I rx rv ⟨a, b, rfl, rfl, hz.1, hz.2, p.newT R (.cons (.str _) (.cons (.str _) (.cons (.str _) .nil)))⟩
    · rw [if_neg hz] at p; exact p.elim
theorem mi_join : MtR X (miId .join) (rMi X.K G .join) := by
  intro pins s σ H x xs v us Q I rx rv h
  obtain ⟨ι, Y, S, w, ws, E, R, r, l, p⟩ := h
  cases w <;> first | exact p.elim | skip
  rename_i a
  cases r.str_eq
  match ws, l, p with
  | [], _, p => exact p.elim
  | _ :: _ :: _, _, p => exact p.elim
  | [w], l, p =>
    obtain ⟨v, rfl, r⟩ := l.one
    have p : Post X.K G Y ι H (match rd S w with
      | .lst xs => match strsW xs with
        | some ys => if (ys.map Str.length).sum + ys.length * a.length ≤ 16777216 then .ok (.str (Txt.join a ys)) S else .bad
        | none => .bad
      | _ => .bad) Q E := p
    cases e : rd S w with
    | lst ws =>
      simp only [e] at p
      obtain ⟨q, vs, rfl, h, l2⟩ := rd_lst R r e
      cases e2 : strsW ws with
      | none => simp only [e2] at p; exact p.elim
      | some ys =>
        simp only [e2] at p
        rw [strsW_map e2] at l2
        rw [l2.strs] at h
        by_cases hz : (ys.map Str.length).sum + ys.length * a.length ≤ 16777216
        · rw [if_pos hz] at p
          exact mt_join pins s σ H _ _ _ us Q I rx rv ⟨a, q, ys, rfl, rfl, .inl (SqL.of h), hz, p.here R (.str _)⟩
        · rw [if_neg hz] at p; exact p.elim
    | tup _ => simp only [e] at p; exact p.elim
    | str _ => simp only [e] at p; exact p.elim
    | non => simp only [e] at p; exact p.elim
    | bl _ => simp only [e] at p; exact p.elim
    | int _ => simp only [e] at p; exact p.elim
    | ref _ => simp only [e] at p; exact p.elim
    | dct _ => simp only [e] at p; exact p.elim
    | arg _ => simp only [e] at p; exact p.elim
end
end Dy

end
section
set_option Elab.async false
set_option linter.all false
set_option maxRecDepth 100000
set_option maxHeartbeats 400000
/-! Dy, part E: readings by the evaluator; the rules of the expressions. -/
namespace Dy
open PySem PySem.Spec PyProof.Rows L2

theorem _root_.L2.PE.imp {X : Cx} {e : Expr} {t t' : TE} (h : PE X e t) (i : ∀ σ H Q, t' σ H Q → t σ H Q) : PE X e t' := ⟨fun pins s σ H Q I w => h.run pins s σ H Q I (i σ H Q w)⟩
theorem _root_.L2.PT.imp {X : Cx} {e : Expr} {t t' : TT} (h : PT X e t) (i : ∀ σ H Q, t' σ H Q → t σ H Q) : PT X e t' := ⟨fun pins s σ H Q I w => h.run pins s σ H Q I (i σ H Q w)⟩
theorem _root_.L2.PW.imp {X : Cx} {e : Expr} {t t' : TT} (h : PW X e t) (i : ∀ σ H Q, t' σ H Q → t σ H Q) : PW X e t' := ⟨fun wh pins s σ H Q I w => h.run wh pins s σ H Q I (i σ H Q w)⟩
theorem _root_.L2.PA.imp {X : Cx} {es : List Expr} {t t' : TA} (h : PA X es t) (i : ∀ σ H Q, t' σ H Q → t σ H Q) : PA X es t' := ⟨fun pos pins s σ H Q I w => h.run pos pins s σ H Q I (i σ H Q w)⟩
theorem _root_.L2.PI.imp {X : Cx} {tg e : Expr} {t t' : TI} (h : PI X tg e t) (i : ∀ σ H Q, t' σ H Q → t σ H Q) : PI X tg e t' := ⟨fun pins s σ H Q I w => h.run pins s σ H Q I (i σ H Q w)⟩
theorem _root_.L2.PS.imp {X : Cx} {e : Stmt} {t t' : TS} (h : PS X e t) (i : ∀ D σ H, t' D σ H → t D σ H) : PS X e t' := ⟨fun pins s σ H D I w => h.run pins s σ H D I (i D σ H w)⟩
theorem _root_.L2.PSs.imp {X : Cx} {e : List Stmt} {t t' : TS} (h : PSs X e t) (i : ∀ D σ H, t' D σ H → t D σ H) : PSs X e t' := ⟨fun pins s σ H D I w => h.run pins s σ H D I (i D σ H w)⟩

/-- a list of values, wanted -/
def PostL (K : PySem.W.Frag) (G : Glob) (Y : Addr → Prop) (ι : Io) (H : Hp) (r : Res) (Q : List V → Hp → Prop) (E : XK) : Prop := match r with
  | .ok (.tup ws) S => ∀ ι' H' vs, Evo ι H ι' H' → Rel K G ι' Y S H' → RepL K H' ι' Y ws vs → Q vs H'
  | .exc c S => ∃ C, G.cls c = some C ∧ ∀ ι' H', Evo ι H ι' H' → Rel K G ι' Y S H' → E (.ref C) none H'
  | _ => False
section
variable {K : PySem.W.Frag} {G : Glob} {Y : Addr → Prop} {ι ι' : Io} {H H' : Hp} {r : Res} {Q : VK} {QL : List V → Hp → Prop} {E : XK} {k : Wv → Sto → Res}
theorem PostL.evo (h : PostL K G Y ι H r QL E) (e : Evo ι H ι' H') : PostL K G Y ι' H' r QL E := by
  cases r with
  | ok w S =>
    cases w with
    | tup ws => exact fun ι2 H2 v e2 R r => h ι2 H2 v (e.trans e2) R r
    | _ => exact h
  | exc c S =>
    obtain ⟨C, hc, h⟩ := h
    exact ⟨C, hc, fun ι2 H2 e2 R => h ι2 H2 (e.trans e2) R⟩
  | bad => exact h
theorem PostL.mono {Q' : List V → Hp → Prop} {E' : XK} (h : PostL K G Y ι H r QL E) (hq : ∀ v H', QL v H' → Q' v H') (he : ∀ c d H', E c d H' → E' c d H') : PostL K G Y ι H r Q' E' := by
  cases r with
  | ok w S =>
    cases w with
    | tup ws => exact fun ι2 H2 v e2 R r => hq _ _ (h ι2 H2 v e2 R r)
    | _ => exact h
  | exc c S =>
    obtain ⟨C, hc, h⟩ := h
    exact ⟨C, hc, fun ι2 H2 e2 R => he _ _ _ (h ι2 H2 e2 R)⟩
  | bad => exact h
theorem PostL.bind (h : PostL K G Y ι H (r.bind k) QL E) : Post K G Y ι H r (fun v H' => ∃ ι' w S', Evo ι H ι' H' ∧ Rel K G ι' Y S' H' ∧ RepV K H' ι' Y w v ∧ PostL K G Y ι' H' (k w S') QL E) E := by
  cases r with
  | ok w S => exact fun ι' H' v e R r => ⟨ι', w, S, e, R, r, PostL.evo h e⟩
  | exc c S => exact h
  | bad => exact h
def TupOnly (k : Wv → Sto → Res) : Prop := ∀ w S, (∀ ws, w ≠ .tup ws) → k w S = .bad
theorem Post.bindL (h : Post K G Y ι H (r.bind k) Q E) (hk : TupOnly k) : PostL K G Y ι H r (fun vs H' => ∃ ι' ws S', Evo ι H ι' H' ∧ Rel K G ι' Y S' H' ∧ RepL K H' ι' Y ws vs ∧ Post K G Y ι' H' (k (.tup ws) S') Q E) E := by
  cases r with
  | ok w S =>
    cases w with
    | tup ws => exact fun ι' H' v e R r => ⟨ι', ws, S, e, R, r, Post.evo h e⟩
    | _ => rw [bind_ok, hk _ _ (by intro ws z; cases z)] at h; exact h
  | exc c S => exact h
  | bad => exact h
theorem PostL.bindL (h : PostL K G Y ι H (r.bind k) QL E) (hk : TupOnly k) : PostL K G Y ι H r (fun vs H' => ∃ ι' ws S', Evo ι H ι' H' ∧ Rel K G ι' Y S' H' ∧ RepL K H' ι' Y ws vs ∧ PostL K G Y ι' H' (k (.tup ws) S') QL E) E := by
  cases r with
  | ok w S =>
    cases w with
    | tup ws => exact fun ι' H' v e R r => ⟨ι', ws, S, e, R, r, PostL.evo h e⟩
    | _ => rw [bind_ok, hk _ _ (by intro ws z; cases z)] at h; exact h
  | exc c S => exact h
  | bad => exact h
end
/-- the reading of an expression, of an argument list, of a test -/
def tE (K : PySem.W.Frag) (G : Glob) (f : Sl → Sto → Res) (W : WX) : TE := fun σ H Q => ∃ ι Y S σd, Rel K G ι Y S H ∧ RepS K H ι Y σd σ ∧ Post K G Y ι H (f σd S) Q (L2.WE W σ)
def tL (K : PySem.W.Frag) (G : Glob) (f : Sl → Sto → Res) (W : WX) : TA := fun σ H Q => ∃ ι Y S σd, Rel K G ι Y S H ∧ RepS K H ι Y σd σ ∧ PostL K G Y ι H (f σd S) Q (L2.WE W σ)
theorem idE {E : XK} : ∀ c d H', E c d H' → E c d H' := fun _ _ _ h => h

/-! ### the checker's table, the context -/
structure GT where
  fns : List Str
  cons : List (Str × Cst)
  bis : List Str
  excs : List Str
  tolds : List (Str × Str)
  lamc : Nat → Expr → Bool := fun _ _ => false
/-- what a def promises -/
def spC (K : PySem.W.Frag) (G : Glob) (f : List Wv → Sto → Res) : Sp := fun vs H Q E => ∃ ι Y S ws, Rel K G ι Y S H ∧ RepL K H ι Y ws vs ∧ Post K G Y ι H (f ws S) Q E
/-- a def that tells what a lambda comes to, or the exception's name -/
def ToldFn (K : PySem.W.Frag) (mg : Str → Option Value) (G : Glob) (x e : Str) : Prop :=
  ∃ (a : Str) (g CS : Addr) (pg : Arguments) (bg : List Stmt) (sg : Scope) (dV kV doc pm cdv ct oc : Value) (an od : Option Addr) (osl : Array (Option Value)) (Ng : List Str) (j : Nat) (p1 p2 p3 p4 p5 p6 p7 p8 : Pos),
    mg x = some (.ref g) ∧ PySem.W.keepIn K (.ref g) = true ∧ K.lookup g = some ⟨oc, od, .func (PySem.W.fnOf x x pg bg sg dV kV doc pm an cdv ct), osl⟩ ∧ PySem.W.codeIn K cdv x = true ∧
    Binds K (PySem.W.fnOf x x pg bg sg dV kV doc pm an cdv ct) [a] [] ∧ FnScope Ng [a] sg ∧ Ng[0]? = some a ∧ Vis sg a ∧ (a == ("__debug__" : Str)) = false ∧ (a == ("__classdict__" : Str)) = false ∧
    bg = [.Try [.Return (some (.Call (.Name a p1) [] [] p2)) p3] [.ExceptHandler (some (.Name e p4)) none [.Return (some (.Constant (.str e) j p5)) p6] p7] [] [] p8] ∧
    sg.names.lookup e = some .globalImplicit ∧ mg e = some (.ref CS) ∧ (e == ("__debug__" : Str)) = false ∧ G.cls e = some CS ∧ PySem.W.exmOne K (.ref CS) (.ref CS) = some true
/-- an own exception class that is raised with a text -/
def ExcF (K : PySem.W.Frag) (mg : Str → Option Value) (G : Glob) (c : Str) : Prop :=
  ∃ (C : Addr) (B newId initId : String) (bmB : List Value), ExcBaseFacts B newId initId bmB ∧ PySem.W.excIn K C bmB newId = true ∧ mg c = some (.ref C) ∧ PySem.W.keepIn K (.ref C) = true ∧ PySem.W.subIn K (.ref C) (.type "BaseException") = some true ∧ PySem.W.typeIn K (.ref C) = some (.type "type") ∧ G.cls c = some C
structure GOk (P : Program) (w : World) (K : PySem.W.Frag) (mg : Str → Option Value) (base : Heap) (G : Glob) (T : GT) (cl : Clr) (lv : Nat) : Prop where
  fns : ∀ x, T.fns.contains x = true → ∃ f fd ps, mg x = some (.ref f) ∧ PySem.W.keepIn K (.ref f) = true ∧ Binds K fd ps [] ∧ FnOk P w K mg base (CX P w) lv f fd ps (spC K G (cl x))
  cons : ∀ x c, T.cons.lookup x = some c → ∃ u v, mg x = some u ∧ RelV v u ∧ ∀ (H : Hp) (ι : Io) (Y : Addr → Prop), RepV K H ι Y c.w v
  bis : ∀ x, T.bis.contains x = true → mg x = none
  tolds : ∀ x e, (x, e) ∈ T.tolds → ToldFn K mg G x e
  excs : ∀ c, T.excs.contains c = true → ExcF K mg G c
  lamc : ∀ k x, T.lamc k x = true → ∃ params body scope p, x = .Lambda params body scope p ∧ noArgs params = true ∧ closedB scope = true ∧ G.lamB k body scope
  lams : ∀ (k : Nat) (A : Around) (outer : List Env) (s : Shared) (H : Hp) (a c : Addr) (q : Str) (Q : VK) (E : XK), Room lv A → Env0 P w K mg base A outer s H → H a = some (.ext (LamAt G k a c q)) → H c = some (LamX.CodeO c q) → spC K G (cl (lamName k)) [] H Q E →
    codeAny (model P w) A (.call (.ref a) ⟨[], []⟩) (CR (CX P w) outer P w H s Q E) s
/-- what a def makes: code objects of generator expressions, or of lambdas -/
inductive Kd where
  | no | gen | lam
  deriving DecidableEq
def KdOk (X : Cx) (G : Glob) (lv : Nat) : Kd → Prop
  | .no => True
  | .gen => ∃ c P, X.env.code = .ref c ∧ GxR.TabB X.base X.mg c P ∧ P ∈ G.gens ∧ ∀ p ∈ G.tabs, p.1 ≠ P
  | .lam => ∃ c P, X.env.code = .ref c ∧ LamX.TabB X.base X.mg c P ∧ (P, X.env.qual ++ "<lambda>") ∈ G.tabs ∧ (∀ p ∈ G.tabs, p.1 = P → p.2 = X.env.qual ++ "<lambda>") ∧ P ∉ G.gens ∧ Room (lv + 4) X.A
structure XOk (X : Cx) (G : Glob) (T : GT) (cl : Clr) (lv : Nat) (N : List Str) (sc : List (Str × NameKind)) (fn : Str → Bool) (kd : Kd) (W : WX) : Prop where
  g : GOk X.prog X.w X.K X.mg X.base G T cl lv
  hN : X.N = N
  nd : N.Nodup
  kind : X.env.scope.kind = .function
  sc : X.env.scope.names = sc
  fn : X.fn = fn
  calm : X.calm = true
  room : Room (lv + 2) X.A
  tk : Takes X W
  kd : KdOk X G lv kd

def okN (x : Str) : Bool := decide (x ≠ "__debug__") && decide (x ≠ "__classdict__") && decide (x ≠ "__name__")
def isGl (sc : List (Str × NameKind)) (x : Str) : Bool := decide (sc.lookup x = some .globalImplicit) && okN x
def isVis (sc : List (Str × NameKind)) (x : Str) : Bool := (decide (sc.lookup x = some .local) || decide (sc.lookup x = some .cell) || decide (sc.lookup x = some .free)) && okN x
def isLoc (sc : List (Str × NameKind)) (fn : Str → Bool) (x : Str) : Bool := decide (sc.lookup x = some .local) || (decide (sc.lookup x = some .cell) && fn x)
theorem okN_d {x : Str} (h : okN x = true) : (x == ("__debug__" : Str)) = false ∧ (x == ("__classdict__" : Str)) = false ∧ x ≠ "__name__" := by
  unfold okN at h
  simp only [Bool.and_eq_true, decide_eq_true_eq] at h
  exact ⟨beq_false_of_ne h.1.1, beq_false_of_ne h.1.2, h.2⟩
section
variable {X : Cx} {G : Glob} {T : GT} {cl : Clr} {lv : Nat} {N : List Str} {sc : List (Str × NameKind)} {fn : Str → Bool} {kd : Kd} {W : WX} (C : XOk X G T cl lv N sc fn kd W)
include C
theorem XOk.gl {x : Str} (h : isGl sc x = true) : Gl X x ∧ (x == ("__debug__" : Str)) = false ∧ x ≠ "__name__" := by
  unfold isGl at h
  rw [Bool.and_eq_true, decide_eq_true_eq] at h
  obtain ⟨d, _, n⟩ := okN_d h.2
  refine ⟨?_, d, n⟩
  show X.env.scope.names.lookup x = _
  rw [C.sc]; exact h.1
theorem XOk.vis {x : Str} (h : isVis sc x = true) : Vis X.env.scope x ∧ (x == ("__debug__" : Str)) = false ∧ (x == ("__classdict__" : Str)) = false := by
  unfold isVis at h
  rw [Bool.and_eq_true, Bool.or_eq_true, Bool.or_eq_true, decide_eq_true_eq, decide_eq_true_eq, decide_eq_true_eq] at h
  obtain ⟨d, c, _⟩ := okN_d h.2
  refine ⟨?_, d, c⟩
  unfold Vis
  rw [C.sc]
  rcases h.1 with (z | z) | z
  · exact .inl z
  · exact .inr (.inl z)
  · exact .inr (.inr z)
theorem XOk.loc {x : Str} (h : isLoc sc fn x = true) : L2.Loc X.env.scope x ∧ (X.fn x = true ∨ X.env.scope.names.lookup x = some .local) := by
  unfold isLoc at h
  rw [Bool.or_eq_true, Bool.and_eq_true, decide_eq_true_eq, decide_eq_true_eq] at h
  unfold L2.Loc
  rw [C.sc, C.fn]
  rcases h with z | ⟨z, f⟩
  · exact ⟨.inl z, .inr z⟩
  · exact ⟨.inr z, .inl f⟩
theorem XOk.units : X.A.units + 64 < cLine := C.room.units
end
def noStar : Expr → Bool
  | .Starred .. => false
  | _ => true
theorem starEach_cons {e : Expr} {es : List Expr} {env : Env} (h : noStar e = true) : starEach (e :: es) env = (false, eval e env) :: starEach es env := by
  cases e <;> first | rfl | cases h
theorem noStars {env : Env} {pos : Pos} : ∀ {es : List Expr}, es.all noStar = true → (backTo pos (starEach es env)).any (·.1) = false
  | [], _ => rfl
  | e :: es, h => by
    rw [List.all_cons, Bool.and_eq_true] at h
    rw [starEach_cons h.1]
    show (false || (backTo pos (starEach es env)).any (·.1)) = false
    rw [noStars h.2]
    rfl
theorem noStars2 {env : Env} {pos : Pos} : ∀ {es : List Expr}, es.all noStar = true → (backTo pos (starEach es env)).all (fun x => !x.1) = true
  | [], _ => rfl
  | e :: es, h => by
    rw [List.all_cons, Bool.and_eq_true] at h
    rw [starEach_cons h.1]
    show (true && (backTo pos (starEach es env)).all (fun x => !x.1)) = true
    rw [noStars2 h.2]
    rfl
def plainB : Expr → Bool
  | .Call (.Name _ _) [] [] _ => false
  | _ => true
theorem plainBase {o : Expr} {name : Str} {env : Env} (h : plainB o = true) : attributeBase o name env (eval o env) = eval o env := by
  cases o with
  | Call f as ks p =>
    cases f <;> cases as <;> cases ks <;> first | rfl | cases h
  | _ => rfl
def noSl : Expr → Bool
  | .Slice .. => false
  | _ => true
theorem plainIx {b : Expr} (h : noSl b = true) : PlainIx b := by
  cases b <;> first | (intro o i; rfl) | cases h
def noSet : Expr → Bool
  | .Set .. => false
  | _ => true
theorem noFold {e : Expr} {env : Env} (h : noSet e = true) : ∀ x, foldedSetIterable e env x = pure x := by
  cases e <;> first | (intro x; rfl) | cases h

/-! ### the rules -/
section
variable {X : Cx} {G : Glob} {T : GT} {cl : Clr} {lv : Nat} {N : List Str} {sc : List (Str × NameKind)} {fn : Str → Bool} {kd : Kd} {W : WX}
variable {a b c : Expr} {f g h : Sl → Sto → Res} {es : List Expr} {pos : Pos}
theorem e_var (C : XOk X G T cl lv N sc fn kd W) {i : Nat} {x : Str} (hi : N[i]? = some x) (hv : isVis sc x = true) : PE X (.Name x pos) (tE X.K G (ev cl (.var i)) W) := by
  obtain ⟨v, d, c⟩ := C.vis hv
  refine (pe_var (i := i) (by rw [C.hN]; exact hi) v d c).imp fun σ H Q q => ?_
  obtain ⟨ι, Y, S, σd, R, rs, p⟩ := q
  have p : Post X.K G Y ι H (match σd[i]? with | some (some w) => .ok w S | _ => .bad) Q (L2.WE W σ) := p
  cases e : σd[i]? with
  | none => rw [e] at p; exact p.elim
  | some o =>
    cases o with
    | none => rw [e] at p; exact p.elim
    | some w =>
      rw [e] at p
      obtain ⟨u, h1, h2⟩ := rs.2 i w e
      exact ⟨u, h1, p.here R h2⟩
theorem e_lit {w : Wv} {v : V} (h : PE X a (tC v)) (r : ∀ H ι Y, RepV X.K H ι Y w v) : PE X a (tE X.K G (ev cl (.lit w)) W) := by
  refine h.imp fun σ H Q q => ?_
  obtain ⟨ι, Y, S, σd, R, rs, p⟩ := q
  have p : Post X.K G Y ι H (.ok w S) Q (L2.WE W σ) := p
  exact p.here R (r H ι Y)
theorem e_glob (C : XOk X G T cl lv N sc fn kd W) {x : Str} {w : Cst} (hx : isGl sc x = true) (hc : T.cons.lookup x = some w) : PE X (.Name x pos) (tE X.K G (ev cl (.glob x w)) W) := by
  obtain ⟨gl, d, _⟩ := C.gl hx
  obtain ⟨u, v, h1, h2, h3⟩ := C.g.cons x w hc
  exact e_lit (cl := cl) (w := w.w) (pe_glob gl h1 h2 d) h3
theorem e_bin (o : Bop) (ha : PE X a (tE X.K G f W)) (hb : PE X b (tE X.K G g W)) : PE X (.BinOp a (bopA o) b pos) (tE X.K G (fun σ S => (f σ S).bind fun x S => (g σ S).bind fun y S => binW o x y S) W) := by
  refine (pe_op (op_bin (G := G) o) ha hb).imp fun σ H Q q => ?_
  obtain ⟨ι, Y, S, σd, R, rs, p⟩ := q
  refine ⟨ι, Y, S, σd, R, rs, p.bind.mono ?_ idE⟩
  rintro v H' ⟨ι1, w, S1, e, R1, r1, p1⟩
  refine ⟨ι1, Y, S1, σd, R1, rs.evo e, p1.bind.mono ?_ idE⟩
  rintro u H2 ⟨ι2, w2, S2, e2, R2, r2, p2⟩
  exact ⟨ι2, Y, S2, w, w2, _, R2, r1.evo e2, r2, p2⟩
theorem e_neg (ha : PE X a (tE X.K G f W)) : PE X (.UnaryOp .USub a pos) (tE X.K G (fun σ S => (f σ S).bind fun x S => match x with | .int i => .ok (.int (-i)) S | _ => .bad) W) := by
  refine (pe_un un_neg ha).imp fun σ H Q q => ?_
  obtain ⟨ι, Y, S, σd, R, rs, p⟩ := q
  refine ⟨ι, Y, S, σd, R, rs, p.bind.mono ?_ idE⟩
  rintro v H' ⟨ι1, w, S1, e, R1, r1, p1⟩
  cases w <;> first | exact p1.elim | skip
  cases r1.int_eq
  exact ⟨_, rfl, p1.here R1 (.int _)⟩
theorem opW (q : tE X.K G (fun σ S => (f σ S).bind fun x S => (g σ S).bind fun y S => cmpW o x y S) W σ H Q) : tOp (rCmp X.K G o) (tE X.K G f W) (tE X.K G g W) σ H Q := by
  obtain ⟨ι, Y, S, σd, R, rs, p⟩ := q
  refine ⟨ι, Y, S, σd, R, rs, p.bind.mono ?_ idE⟩
  rintro v H' ⟨ι1, w, S1, e, R1, r1, p1⟩
  refine ⟨ι1, Y, S1, σd, R1, rs.evo e, p1.bind.mono ?_ idE⟩
  rintro u H2 ⟨ι2, w2, S2, e2, R2, r2, p2⟩
  exact ⟨ι2, Y, S2, w, w2, _, R2, r1.evo e2, r2, p2⟩
/-- a test -/
def tT (K : PySem.W.Frag) (G : Glob) (f : Sl → Sto → Res) (W : WX) : TT := tB (tE K G f W)
theorem e_cmp (C : XOk X G T cl lv N sc fn kd W) (o : Cop) (h1 : o ≠ .isN) (h2 : o ≠ .notN) (ha : PE X a (tE X.K G f W)) (hb : PE X b (tE X.K G g W)) (hm : behindInMarks (copA o) b = false) :
    PE X (.Compare a [copA o] [b] pos) (tE X.K G (fun σ S => (f σ S).bind fun x S => (g σ S).bind fun y S => cmpW o x y S) W) :=
  (pe_cmpR (op_cmp (G := G) C.units o h1 h2) ha hb hm).imp fun σ H Q q => opW q
theorem t_cmp (C : XOk X G T cl lv N sc fn kd W) (o : Cop) (h1 : o ≠ .isN) (h2 : o ≠ .notN) (ha : PE X a (tE X.K G f W)) (hb : PE X b (tE X.K G g W)) (hm : behindInMarks (copA o) b = false) :
    PT X (.Compare a [copA o] [b] pos) (tT X.K G (fun σ S => (f σ S).bind fun x S => (g σ S).bind fun y S => cmpW o x y S) W) :=
  (pt_cmpR (op_cmp (G := G) C.units o h1 h2) ha hb hm).imp fun σ H Q q => opW q
theorem isNon_V {K : PySem.W.Frag} {H : Hp} {ι : Io} {Y : Addr → Prop} {w : Wv} {v : V} (r : RepV K H ι Y w v) : decide (v = V.non) = isNonW w := by
  cases r <;> simp [isNonW]
theorem isNW (q : tE X.K G (fun σ S => (f σ S).bind fun x S => .ok (.bl (isNonW x)) S) W σ H Q) : tIsN (tE X.K G f W) σ H Q := by
  obtain ⟨ι, Y, S, σd, R, rs, p⟩ := q
  refine ⟨ι, Y, S, σd, R, rs, p.bind.mono ?_ idE⟩
  rintro v H' ⟨ι1, w, S1, e, R1, r1, p1⟩
  rw [isNon_V r1]
  exact p1.here R1 (.bl _)
theorem notNW (q : tE X.K G (fun σ S => (f σ S).bind fun x S => .ok (.bl (!isNonW x)) S) W σ H Q) : tNotN (tE X.K G f W) σ H Q := by
  obtain ⟨ι, Y, S, σd, R, rs, p⟩ := q
  refine ⟨ι, Y, S, σd, R, rs, p.bind.mono ?_ idE⟩
  rintro v H' ⟨ι1, w, S1, e, R1, r1, p1⟩
  rw [isNon_V r1]
  exact p1.here R1 (.bl _)
theorem e_isN {j : Nat} {p' : Pos} (ha : PE X a (tE X.K G f W)) : PE X (.Compare a [.Is] [.Constant .none j p'] pos) (tE X.K G (fun σ S => (f σ S).bind fun x S => .ok (.bl (isNonW x)) S) W) := (pe_cmp (pc_isN ha) rfl).imp fun σ H Q q => isNW q
theorem t_isN {j : Nat} {p' : Pos} (ha : PE X a (tE X.K G f W)) : PT X (.Compare a [.Is] [.Constant .none j p'] pos) (tT X.K G (fun σ S => (f σ S).bind fun x S => .ok (.bl (isNonW x)) S) W) := (pt_cmp (pc_isN ha) rfl).imp fun σ H Q q => isNW q
theorem e_notN {j : Nat} {p' : Pos} (ha : PE X a (tE X.K G f W)) : PE X (.Compare a [.IsNot] [.Constant .none j p'] pos) (tE X.K G (fun σ S => (f σ S).bind fun x S => .ok (.bl (!isNonW x)) S) W) := (pe_cmp (pc_notN ha) rfl).imp fun σ H Q q => notNW q
theorem t_notN {j : Nat} {p' : Pos} (ha : PE X a (tE X.K G f W)) : PT X (.Compare a [.IsNot] [.Constant .none j p'] pos) (tT X.K G (fun σ S => (f σ S).bind fun x S => .ok (.bl (!isNonW x)) S) W) := (pt_cmp (pc_notN ha) rfl).imp fun σ H Q q => notNW q
theorem cmpW_bl {o : Cop} {x y : Wv} {S : Sto} : (∃ t, cmpW o x y S = .ok (.bl t) S) ∨ cmpW o x y S = .bad := by
  have ob : ∀ (o : Option Bool) (n : Bool), (∃ t, ofB o n S = .ok (.bl t) S) ∨ ofB o n S = .bad := fun o n => by
    cases o with
    | none => exact .inr rfl
    | some b => exact .inl ⟨_, rfl⟩
  cases o with
  | eq => exact ob _ _
  | ne => exact ob _ _
  | isin => exact ob _ _
  | notin => exact ob _ _
  | isN => exact .inr rfl
  | notN => exact .inr rfl
  | _ => cases x <;> cases y <;> first | exact .inr rfl | exact .inl ⟨_, rfl⟩
theorem chW (q : tE X.K G (fun σ S => (f σ S).bind fun x S => (g σ S).bind fun y S => (cmpW o x y S).bind fun t S => andK t ((h σ S).bind fun z S => cmpW o' y z S) S) W σ H Q) :
    tChain (rCmp X.K G o) (rCmp X.K G o') (tE X.K G f W) (tE X.K G g W) (tE X.K G h W) σ H Q := by
  obtain ⟨ι, Y, S, σd, R, rs, p⟩ := q
  refine ⟨ι, Y, S, σd, R, rs, p.bind.mono ?_ idE⟩
  rintro v H' ⟨ι1, w, S1, e, R1, r1, p1⟩
  refine ⟨ι1, Y, S1, σd, R1, rs.evo e, p1.bind.mono ?_ idE⟩
  rintro u H2 ⟨ι2, w2, S2, e2, R2, r2, p2⟩
  refine ⟨ι2, Y, S2, w, w2, L2.WE W σ, R2, r1.evo e2, r2, p2.bind.mono ?_ idE⟩
  rintro d H3 ⟨ι3, w3, S3, e3, R3, r3, p3⟩
  cases w3 with
  | bl t =>
    cases r3.bl_eq
    refine ⟨t, rfl, ?_⟩
    cases t with
    | false => exact p3.here R3 (.bl _)
    | true =>
      refine ⟨ι3, Y, S3, σd, R3, (rs.evo e).evo (e2.trans e3), p3.bind.mono ?_ idE⟩
      rintro z H4 ⟨ι4, w4, S4, e4, R4, r4, p4⟩
      exact ⟨ι4, Y, S4, w2, w4, _, R4, r2.evo (e3.trans e4), r4, p4⟩
  | _ => exact p3.elim
theorem e_chain (C : XOk X G T cl lv N sc fn kd W) (o o' : Cop) (h1 : o ≠ .isN) (h2 : o ≠ .notN) (h3 : o' ≠ .isN) (h4 : o' ≠ .notN) (ha : PE X a (tE X.K G f W)) (hb : PE X b (tE X.K G g W)) (hc : PE X c (tE X.K G h W)) (hm : lastMarks [copA o, copA o'] [b, c] = false) :
    PE X (.Compare a [copA o, copA o'] [b, c] pos) (tE X.K G (fun σ S => (f σ S).bind fun x S => (g σ S).bind fun y S => (cmpW o x y S).bind fun t S => andK t ((h σ S).bind fun z S => cmpW o' y z S) S) W) :=
  (pe_chain (op_cmp (G := G) C.units o h1 h2) (op_cmp (G := G) C.units o' h3 h4) ha hb hc hm).imp fun σ H Q q => chW q
theorem t_chain (C : XOk X G T cl lv N sc fn kd W) (o o' : Cop) (h1 : o ≠ .isN) (h2 : o ≠ .notN) (h3 : o' ≠ .isN) (h4 : o' ≠ .notN) (ha : PE X a (tE X.K G f W)) (hb : PE X b (tE X.K G g W)) (hc : PE X c (tE X.K G h W)) (hm : lastMarks [copA o, copA o'] [b, c] = false) :
    PT X (.Compare a [copA o, copA o'] [b, c] pos) (tT X.K G (fun σ S => (f σ S).bind fun x S => (g σ S).bind fun y S => (cmpW o x y S).bind fun t S => andK t ((h σ S).bind fun z S => cmpW o' y z S) S) W) :=
  (pt_chain (op_cmp (G := G) C.units o h1 h2) (op_cmp (G := G) C.units o' h3 h4) ha hb hc hm).imp fun σ H Q q => chW q

/-! and, or, not, if-else -/
theorem andW (q : tE X.K G (fun σ S => (f σ S).bind fun t S => andK t (g σ S) S) W σ H Q) : tAndV (tE X.K G f W) (tE X.K G g W) σ H Q := by
  obtain ⟨ι, Y, S, σd, R, rs, p⟩ := q
  refine ⟨ι, Y, S, σd, R, rs, p.bind.mono ?_ idE⟩
  rintro v H' ⟨ι1, w, S1, e, R1, r1, p1⟩
  cases w with
  | bl t =>
    cases r1.bl_eq
    refine ⟨t, rfl, ?_⟩
    cases t with
    | false => exact p1.here R1 (.bl _)
    | true => exact ⟨ι1, Y, S1, σd, R1, rs.evo e, p1⟩
  | _ => exact p1.elim
theorem orW (q : tE X.K G (fun σ S => (f σ S).bind fun t S => orK t (g σ S) S) W σ H Q) : tOrV (tE X.K G f W) (tE X.K G g W) σ H Q := by
  obtain ⟨ι, Y, S, σd, R, rs, p⟩ := q
  refine ⟨ι, Y, S, σd, R, rs, p.bind.mono ?_ idE⟩
  rintro v H' ⟨ι1, w, S1, e, R1, r1, p1⟩
  cases w with
  | bl t =>
    cases r1.bl_eq
    refine ⟨t, rfl, ?_⟩
    cases t with
    | true => exact p1.here R1 (.bl _)
    | false => exact ⟨ι1, Y, S1, σd, R1, rs.evo e, p1⟩
  | _ => exact p1.elim
theorem tandW (q : tT X.K G (fun σ S => (f σ S).bind fun t S => andK t (g σ S) S) W σ H Q) : tAnd (tT X.K G f W) (tT X.K G g W) σ H Q := by
  have q' := andW q
  obtain ⟨ι, Y, S, σd, R, rs, p⟩ := q'
  refine ⟨ι, Y, S, σd, R, rs, p.mono ?_ idE⟩
  rintro v H' ⟨t, rfl, q⟩
  refine ⟨t, rfl, ?_⟩
  cases t with
  | true => exact q
  | false => obtain ⟨c, e, q⟩ := q; cases e; exact q
theorem torW (q : tT X.K G (fun σ S => (f σ S).bind fun t S => orK t (g σ S) S) W σ H Q) : tOr (tT X.K G f W) (tT X.K G g W) σ H Q := by
  have q' := orW q
  obtain ⟨ι, Y, S, σd, R, rs, p⟩ := q'
  refine ⟨ι, Y, S, σd, R, rs, p.mono ?_ idE⟩
  rintro v H' ⟨t, rfl, q⟩
  refine ⟨t, rfl, ?_⟩
  cases t with
  | false => exact q
  | true => obtain ⟨c, e, q⟩ := q; cases e; exact q
theorem notW (q : tE X.K G (fun σ S => (f σ S).bind fun x S => match x with | .bl c => .ok (.bl (!c)) S | _ => .bad) W σ H Q) : tNotV (tE X.K G f W) σ H Q := by
  obtain ⟨ι, Y, S, σd, R, rs, p⟩ := q
  refine ⟨ι, Y, S, σd, R, rs, p.bind.mono ?_ idE⟩
  rintro v H' ⟨ι1, w, S1, e, R1, r1, p1⟩
  cases w with
  | bl t =>
    cases r1.bl_eq
    exact ⟨t, rfl, p1.here R1 (.bl _)⟩
  | _ => exact p1.elim
theorem e_not (ha : PE X a (tE X.K G f W)) : PE X (.UnaryOp .Not a pos) (tE X.K G (fun σ S => (f σ S).bind fun x S => match x with | .bl c => .ok (.bl (!c)) S | _ => .bad) W) := (pe_not ha).imp fun σ H Q q => notW q
theorem t_not (ha : PT X a (tT X.K G f W)) : PT X (.UnaryOp .Not a pos) (tT X.K G (fun σ S => (f σ S).bind fun x S => match x with | .bl c => .ok (.bl (!c)) S | _ => .bad) W) := by
  refine (pt_not ha).imp fun σ H Q q => ?_
  obtain ⟨ι, Y, S, σd, R, rs, p⟩ := notW q
  refine ⟨ι, Y, S, σd, R, rs, p.mono ?_ idE⟩
  rintro v H' ⟨t, rfl, c, e, q⟩
  cases e
  exact ⟨t, rfl, q⟩
theorem e_ite (hc : PT X c (tT X.K G f W)) (ha : PE X a (tE X.K G g W)) (hb : PE X b (tE X.K G h W)) : PE X (.IfExp c a b pos) (tE X.K G (fun σ S => (f σ S).bind fun t S => iteK t (g σ S) (h σ S)) W) := by
  refine (pe_ifExp hc ha hb).imp fun σ H Q q => ?_
  obtain ⟨ι, Y, S, σd, R, rs, p⟩ := q
  refine ⟨ι, Y, S, σd, R, rs, p.bind.mono ?_ idE⟩
  rintro v H' ⟨ι1, w, S1, e, R1, r1, p1⟩
  cases w with
  | bl t =>
    cases r1.bl_eq
    refine ⟨t, rfl, ?_⟩
    cases t with
    | true => exact ⟨ι1, Y, S1, σd, R1, rs.evo e, p1⟩
    | false => exact ⟨ι1, Y, S1, σd, R1, rs.evo e, p1⟩
  | _ => exact p1.elim

/-! argument lists, displays -/
theorem a_nil : PA X [] (tL X.K G (fun _ S => .ok (.tup []) S) W) := pa_nil.imp fun σ H Q q => by
  obtain ⟨ι, Y, S, σd, R, rs, p⟩ := q
  exact p ι H [] (Evo.refl _ _) R .nil
theorem a_cons (hs : noStar a = true) (ha : PE X a (tE X.K G f W)) (hr : PA X es (tL X.K G g W)) :
    PA X (a :: es) (tL X.K G (fun σ S => (f σ S).bind fun x S => (g σ S).bind fun y S => match y with | .tup ws => .ok (.tup (x :: ws)) S | _ => .bad) W) := by
  refine (pa_cons ha hr (starEach_cons hs)).imp fun σ H Q q => ?_
  obtain ⟨ι, Y, S, σd, R, rs, p⟩ := q
  refine ⟨ι, Y, S, σd, R, rs, p.bind.mono ?_ idE⟩
  rintro v H' ⟨ι1, w, S1, e, R1, r1, p1⟩
  refine ⟨ι1, Y, S1, σd, R1, rs.evo e, (p1.bindL fun w S h => ?_).mono ?_ idE⟩
  · cases w with
    | tup ws => exact absurd rfl (h ws)
    | _ => rfl
  rintro vs H2 ⟨ι2, ws, S2, e2, R2, r2, p2⟩
  exact p2 ι2 H2 _ (Evo.refl _ _) R2 (.cons (r1.evo e2) r2)
theorem e_tup {k : Nat} (ha : PA X es (tL X.K G f W)) : PE X (.Tuple es k pos) (tE X.K G (fun σ S => (f σ S).bind fun x S => match x with | .tup ws => if ws.length ≤ sizeLine then .ok (.tup ws) S else .bad | _ => .bad) W) := by
  refine (pe_tup ha).imp fun σ H Q q => ?_
  obtain ⟨ι, Y, S, σd, R, rs, p⟩ := q
  refine ⟨ι, Y, S, σd, R, rs, (p.bindL fun w S h => ?_).mono ?_ idE⟩
  · cases w with
    | tup ws => exact absurd rfl (h ws)
    | _ => rfl
  rintro vs H2 ⟨ι2, ws, S2, e2, R2, r2, p2⟩
  by_cases hz : ws.length ≤ sizeLine
  · simp only [if_pos hz] at p2
    exact ⟨by rw [← r2.length]; exact hz, p2.newT R2 r2⟩
  · simp only [if_neg hz] at p2
    exact p2.elim
theorem e_lst (ha : PA X es (tL X.K G f W)) : PE X (.List es pos) (tE X.K G (fun σ S => (f σ S).bind fun x S => match x with | .tup ws => if ws.length ≤ sizeLine then .ok (.lst ws) S else .bad | _ => .bad) W) := by
  refine (pe_lst ha).imp fun σ H Q q => ?_
  obtain ⟨ι, Y, S, σd, R, rs, p⟩ := q
  refine ⟨ι, Y, S, σd, R, rs, (p.bindL fun w S h => ?_).mono ?_ idE⟩
  · cases w with
    | tup ws => exact absurd rfl (h ws)
    | _ => rfl
  rintro vs H2 ⟨ι2, ws, S2, e2, R2, r2, p2⟩
  by_cases hz : ws.length ≤ sizeLine
  · simp only [if_pos hz] at p2
    exact ⟨by rw [← r2.length]; exact hz, p2.newL R2 r2⟩
  · simp only [if_neg hz] at p2
    exact p2.elim
theorem e_new (ha : PA X es (tL X.K G f W)) : PE X (.List es pos) (tE X.K G (fun σ S => (f σ S).bind fun x S => match x with | .tup ws => if ws.length ≤ sizeLine then .ok (.ref S.length) (S ++ [.lst ws]) else .bad | _ => .bad) W) := by
  refine (pe_lst ha).imp fun σ H Q q => ?_
  obtain ⟨ι, Y, S, σd, R, rs, p⟩ := q
  refine ⟨ι, Y, S, σd, R, rs, (p.bindL fun w S h => ?_).mono ?_ idE⟩
  · cases w with
    | tup ws => exact absurd rfl (h ws)
    | _ => rfl
  rintro vs H2 ⟨ι2, ws, S2, e2, R2, r2, p2⟩
  by_cases hz : ws.length ≤ sizeLine
  · simp only [if_pos hz] at p2
    refine ⟨by rw [← r2.length]; exact hz, fun q n => ?_⟩
    exact p2 (ext ι2 S2.length q) _ _ (evo_ext R2 n) (R2.push n (.lst r2)) (.ref (by unfold ext; rw [if_pos rfl]))
  · simp only [if_neg hz] at p2
    exact p2.elim

/-! subscripts, slices -/
theorem e_idx (hs : noSl b = true) (ha : PE X a (tE X.K G f W)) (hb : PE X b (tE X.K G g W)) : PE X (.Subscript a b pos) (tE X.K G (fun σ S => (f σ S).bind fun x S => (g σ S).bind fun y S => idxW x y S) W) := by
  refine (pe_ix (ix_W (G := G)) ha hb (plainIx hs)).imp fun σ H Q q => ?_
  obtain ⟨ι, Y, S, σd, R, rs, p⟩ := q
  refine ⟨ι, Y, S, σd, R, rs, p.bind.mono ?_ idE⟩
  rintro v H' ⟨ι1, w, S1, e, R1, r1, p1⟩
  refine ⟨ι1, Y, S1, σd, R1, rs.evo e, p1.bind.mono ?_ idE⟩
  rintro u H2 ⟨ι2, w2, S2, e2, R2, r2, p2⟩
  exact ⟨ι2, Y, S2, w, w2, _, R2, r1.evo e2, r2, p2⟩
/-- a bound of a slice: left out, or an int -/
def tOb (K : PySem.W.Frag) (G : Glob) (b : Bool) (f : Sl → Sto → Res) (W : WX) : TO := if b then tNoPart else tPart (tE K G f W)
theorem obW {K : PySem.W.Frag} {ι : Io} {Y : Addr → Prop} {S : Sto} {σd : Sl} {σ : L2.St} {H : Hp} {bl : Bool} {Q : Option Int → Hp → Prop} {k : Wv → Sto → Res} {Q0 : VK} (R : Rel K G ι Y S H) (rs : RepS K H ι Y σd σ) (hb : bl = true → ∀ σ S, g σ S = .ok .non S)
    (p : Post K G Y ι H (((g σd S).bind (intO bl)).bind k) Q0 (L2.WE W σ)) (hq : ∀ ι' H' S' l w, bndW w = some l → Evo ι H ι' H' → Rel K G ι' Y S' H' → Post K G Y ι' H' (k w S') Q0 (L2.WE W σ) → Q l H') : tOb K G bl g W σ H Q := by
  cases bl with
  | true =>
    have hg := hb rfl σd S
    rw [hg] at p
    exact hq ι H S none .non rfl (Evo.refl _ _) R p
  | false =>
    refine ⟨ι, Y, S, σd, R, rs, ?_⟩
    have e : ((g σd S).bind (intO false)).bind k = (g σd S).bind fun w S => (intO false w S).bind k := by cases g σd S <;> rfl
    rw [e] at p
    refine p.bind.mono ?_ idE
    rintro v H' ⟨ι1, w, S1, e, R1, r1, p1⟩
    cases w with
    | int i =>
      cases r1.int_eq
      exact ⟨i, rfl, hq ι1 H' S1 (some i) (.int i) rfl e R1 p1⟩
    | _ => exact p1.elim
theorem o_b {b : Option Expr} {bl : Bool} (hb : bl = true → b = none) (hb2 : bl = false → ∃ x, b = some x ∧ PE X x (tE X.K G g W)) : PO X b (tOb X.K G bl g W) := by
  cases bl with
  | true => rw [hb rfl]; exact po_none
  | false =>
    obtain ⟨x, rfl, h⟩ := hb2 rfl
    exact po_some h
theorem e_sl {lo hi : Option Expr} {p2 : Pos} {bl bh : Bool} (ha : PE X a (tE X.K G f W)) (hl : PO X lo (tOb X.K G bl g W)) (hh : PO X hi (tOb X.K G bh h W)) (gl : bl = true → ∀ σ S, g σ S = .ok .non S) (gh : bh = true → ∀ σ S, h σ S = .ok .non S) :
    PE X (.Subscript a (.Slice lo hi none p2) pos) (tE X.K G (fun σ S => (f σ S).bind fun x S => ((g σ S).bind (intO bl)).bind fun l S => ((h σ S).bind (intO bh)).bind fun u S => slW x l u S) W) := by
  refine (pe_slice (sl_W (G := G)) ha hl hh).imp fun σ H Q q => ?_
  obtain ⟨ι, Y, S, σd, R, rs, p⟩ := q
  refine ⟨ι, Y, S, σd, R, rs, p.bind.mono ?_ idE⟩
  rintro v H' ⟨ι1, w, S1, e, R1, r1, p1⟩
  refine obW R1 (rs.evo e) gl p1 fun ι2 H2 S2 l wl hwl e2 R2 p2 => ?_
  refine obW R2 ((rs.evo e).evo e2) gh p2 fun ι3 H3 S3 u wu hwu e3 R3 p3 => ?_
  exact ⟨ι3, Y, S3, w, wl, wu, _, R3, r1.evo (e2.trans e3), hwl, hwu, p3⟩

/-! calls -/
theorem pe_callS0 {CX : CXT} {k : Nat} {f : Addr} {fd : FuncData} {ps : List Str} {sp : Sp} {E : L2.St → XK} {x : Str} {p : Pos} (F : FnOk X.prog X.w X.K X.mg X.base CX k f fd ps sp) (hr : Room k X.A) (hg : Gl X x) (hm : X.mg x = some (.ref f)) (hk : PySem.W.keepIn X.K (.ref f) = true) (hb : Binds X.K fd ps []) (hx : ∀ σ, PassesAt CX X σ (E σ))
    (hdb : (x == ("__debug__" : Str)) = false) : PE X (.Call (.Name x p) [] [] pos) (tCallS sp E tNil) := by
  refine ⟨fun pins s σ H Q I h => ?_⟩
  refine wpAny_Call_Name_kw (ld_glob I hg hm ?_ hdb)
  exact PySem.W.callWith_K0 I.kIn hk (run_fnS (us := []) F hr hb (hx σ) I .nil h)
theorem tupOnly_call {k : List Wv → Sto → Res} : TupOnly (fun x S => match x with | .tup ws => k ws S | _ => .bad) := fun w S h => by
  cases w with
  | tup ws => exact absurd rfl (h ws)
  | _ => rfl
theorem callKey {x : Str} (σ : L2.St) (H : Hp) (Q : VK) (q : tE X.K G (fun σ S => (f σ S).bind fun y S => match y with | .tup ws => cl x ws S | _ => .bad) W σ H Q) : tCallS (spC X.K G (cl x)) (L2.WE W) (tL X.K G f W) σ H Q := by
  obtain ⟨ι, Y, S, σd, R, rs, p⟩ := q
  refine ⟨ι, Y, S, σd, R, rs, (p.bindL tupOnly_call).mono ?_ idE⟩
  rintro vs H2 ⟨ι2, ws, S2, e2, R2, r2, p2⟩
  exact ⟨ι2, Y, S2, ws, R2, r2, p2⟩
theorem e_call (C : XOk X G T cl lv N sc fn kd W) {x : Str} {p : Pos} (hx : isGl sc x = true) (hn : T.fns.contains x = true) (hs : (a :: es).all noStar = true) (ha : PA X (a :: es) (tL X.K G f W)) :
    PE X (.Call (.Name x p) (a :: es) [] pos) (tE X.K G (fun σ S => (f σ S).bind fun y S => match y with | .tup ws => cl x ws S | _ => .bad) W) := by
  obtain ⟨gl, d, _⟩ := C.gl hx
  obtain ⟨fa, fd, ps, h1, h2, h3, F⟩ := C.g.fns x hn
  rw [List.all_cons, Bool.and_eq_true] at hs
  exact (pe_callS F (C.room.mono (Nat.le_add_right lv 2)) gl h1 h2 h3 (fun σ => passAt C.tk σ) ha d (starEach_cons hs.1) (noStars hs.2)).imp callKey
theorem e_call0 (C : XOk X G T cl lv N sc fn kd W) {x : Str} {p : Pos} (hx : isGl sc x = true) (hn : T.fns.contains x = true) :
    PE X (.Call (.Name x p) [] [] pos) (tE X.K G (fun σ S => (Res.ok (.tup []) S).bind fun y S => match y with | .tup ws => cl x ws S | _ => .bad) W) := by
  obtain ⟨gl, d, _⟩ := C.gl hx
  obtain ⟨fa, fd, ps, h1, h2, h3, F⟩ := C.g.fns x hn
  refine (pe_callS0 F (C.room.mono (Nat.le_add_right lv 2)) gl h1 h2 h3 (fun σ => passAt C.tk σ) d).imp fun σ H Q q => ?_
  obtain ⟨ι, Y, S, σd, R, rs, p⟩ := q
  exact ⟨ι, Y, S, [], R, .nil, p⟩
def biN : BI → Str
  | .len => "len" | .str => "str" | .int => "int" | .abs => "abs" | .min2 => "min" | .max2 => "max" | .sum => "sum"
theorem e_bi (C : XOk X G T cl lv N sc fn kd W) (b : BI) {p : Pos} (hx : isGl sc (biN b) = true) (hn : T.bis.contains (biN b) = true) (hs : (a :: es).all noStar = true) (ha : PA X (a :: es) (tL X.K G f W)) :
    PE X (.Call (.Name (biN b) p) (a :: es) [] pos) (tE X.K G (fun σ S => (f σ S).bind fun y S => match y with | .tup ws => biW b ws S | _ => .bad) W) := by
  obtain ⟨gl, d, nn⟩ := C.gl hx
  have hm := C.g.bis _ hn
  rw [List.all_cons, Bool.and_eq_true] at hs
  have key : PE X (.Call (.Name (biN b) p) (a :: es) [] pos) (tCB (rBi X.K G b) (tL X.K G f W)) := by
    have ok := bi_ok (G := G) C.calm b
    cases b with
    | len => exact pe_callB ok gl hm (by rfl) ha nn d (starEach_cons hs.1) (noStars hs.2)
    | str => exact pe_callTy ok gl hm (by rfl) ha nn d (starEach_cons hs.1) (noStars hs.2)
    | int => exact pe_callTy ok gl hm (by rfl) ha nn d (starEach_cons hs.1) (noStars hs.2)
    | abs => exact pe_callB ok gl hm (by rfl) ha nn d (starEach_cons hs.1) (noStars hs.2)
    | min2 => exact pe_callB ok gl hm (by rfl) ha nn d (starEach_cons hs.1) (noStars hs.2)
    | max2 => exact pe_callB ok gl hm (by rfl) ha nn d (starEach_cons hs.1) (noStars hs.2)
    | sum => exact pe_callB ok gl hm (by rfl) ha nn d (starEach_cons hs.1) (noStars hs.2)
  refine key.imp fun σ H Q q => ?_
  obtain ⟨ι, Y, S, σd, R, rs, p⟩ := q
  refine ⟨ι, Y, S, σd, R, rs, (p.bindL tupOnly_call).mono ?_ idE⟩
  rintro vs H2 ⟨ι2, ws, S2, e2, R2, r2, p2⟩
  exact ⟨ι2, Y, S2, ws, _, R2, r2, p2⟩
def miN : MI → Str
  | .split => "split" | .partition => "partition" | .join => "join"
theorem mi_ok (m : MI) : MtR X (miId m) (rMi X.K G m) := by
  cases m
  · exact mi_split
  · exact mi_partition
  · exact mi_join
theorem e_mi (m : MI) {p : Pos} (ho : PE X b (tE X.K G f W)) (hp : plainB b = true) (hl : (p.endLine == pos.line) = true) (hs : (a :: es).all noStar = true) (hz : decide ((a :: es).length < 30) = true) (ha : PA X (a :: es) (tL X.K G g W)) :
    PE X (.Call (.Attribute b (miN m) p) (a :: es) [] pos) (tE X.K G (fun σ S => (f σ S).bind fun x S => if isStr x = true then (g σ S).bind fun y S => match y with | .tup ws => miW m x ws S | _ => .bad else .bad) W) := by
  have hs' := hs
  rw [List.all_cons, Bool.and_eq_true] at hs
  have few : ((backTo pos (starEach (a :: es) X.env)).all (fun x => !x.1) && (backToKw pos (keywordEach [] X.env)).all (fun x => x.1.isSome)
      && decide ((a :: es).length + ([] : List Keyword).length + (if ([] : List Keyword).isEmpty then 0 else 1) < 30)) = true := by
    rw [noStars2 hs']
    exact hz
  have key : PE X (.Call (.Attribute b (miN m) p) (a :: es) [] pos) (tBM X.K "str" (rMi X.K G m) (tE X.K G f W) (tL X.K G g W)) := by
    have ok := mi_ok (X := X) (G := G) m
    cases m with
    | split => exact pe_bm F.plainAttrs_str F.slot_str_split F.type_str_split ok ho ha (plainBase hp) few hl (starEach_cons hs.1) (noStars hs.2)
    | partition => exact pe_bm F.plainAttrs_str F.slot_str_partition F.type_str_partition ok ho ha (plainBase hp) few hl (starEach_cons hs.1) (noStars hs.2)
    | join => exact pe_bm F.plainAttrs_str F.slot_str_join F.type_str_join ok ho ha (plainBase hp) few hl (starEach_cons hs.1) (noStars hs.2)
  refine key.imp fun σ H Q q => ?_
  obtain ⟨ι, Y, S, σd, R, rs, p⟩ := q
  refine ⟨ι, Y, S, σd, R, rs, p.bind.mono ?_ idE⟩
  rintro v H' ⟨ι1, w, S1, e, R1, r1, p1⟩
  cases w with
  | str z =>
    cases r1.str_eq
    refine ⟨rfl, ι1, Y, S1, σd, R1, rs.evo e, ((show Post X.K G Y ι1 H' ((g σd S1).bind fun y S => match y with | .tup ws => miW m (.str z) ws S | _ => .bad) Q (L2.WE W σ) from p1).bindL tupOnly_call).mono ?_ idE⟩
    rintro vs H2 ⟨ι2, ws, S2, e2, R2, r2, p2⟩
    exact ⟨ι2, Y, S2, _, ws, _, R2, .str z, r2, p2⟩
  | _ => exact p1.elim

/-! f-strings -/
theorem e_fmt (ha : PE X a (tE X.K G f W)) : PE X (.FormattedValue a (-1) none pos) (tE X.K G (fun σ S => (f σ S).bind fun x S => match fmtW x with | some y => .ok (.str y) S | none => .bad) W) := by
  refine (pe_fmt ha).imp fun σ H Q q => ?_
  obtain ⟨ι, Y, S, σd, R, rs, p⟩ := q
  refine ⟨ι, Y, S, σd, R, rs, p.bind.mono ?_ idE⟩
  rintro v H' ⟨ι1, w, S1, e, R1, r1, p1⟩
  cases w with
  | str z =>
    cases r1.str_eq
    by_cases hz : z.length ≤ sizeLine
    · simp only [fmtW, if_pos hz] at p1
      exact .inl ⟨z, rfl, hz, p1.here R1 (.str _)⟩
    · simp only [fmtW, if_neg hz] at p1
      exact p1.elim
  | int i =>
    cases r1.int_eq
    by_cases hz : i.natAbs.log2 < 1920
    · simp only [fmtW, if_pos hz] at p1
      exact .inr ⟨i, rfl, hz, p1.here R1 (.str _)⟩
    · simp only [fmtW, if_neg hz] at p1
      exact p1.elim
  | _ => exact p1.elim
/-- the parts of an f-string -/
def FsOk (X : Cx) (G : Glob) (f : Sl → Sto → Res) (es : List Expr) : Prop := ∃ ts, PJ X es ts ∧ ∀ (acc : Str) (σ : L2.St) (H : Hp) (Q : Str → Hp → Prop) (ι : Io) (Y : Addr → Prop) (S : Sto) (σd : Sl) (ws : List Wv) (S' : Sto) (out : Str), Rel X.K G ι Y S H → RepS X.K H ι Y σd σ →
  f σd S = .ok (.tup ws) S' → joinF ws acc = some out → (∀ ι' H', Evo ι H ι' H' → Rel X.K G ι' Y S' H' → Q out H') → tJs ts acc σ H Q
theorem fs_nil : FsOk X G (fun _ S => .ok (.tup []) S) [] := ⟨[], .nil, fun acc σ H Q ι Y S σd ws S' out R rs e j k => by
  cases e
  cases j
  exact k ι H (Evo.refl _ _) R⟩
theorem fs_cons (ha : PE X a (tE X.K G f W)) (hr : FsOk X G g es) : FsOk X G (fun σ S => (f σ S).bind fun x S => (g σ S).bind fun y S => match y with | .tup ws => .ok (.tup (x :: ws)) S | _ => .bad) (a :: es) := by
  obtain ⟨ts, hj, hk⟩ := hr
  refine ⟨_, .cons ha hj, fun acc σ H Q ι Y S σd ws S' out R rs e j k => ?_⟩
  cases e1 : f σd S with
  | exc c S => simp only [e1, bind_exc] at e; cases e
  | bad => simp only [e1, bind_bad] at e; cases e
  | ok x S1 =>
    simp only [e1, bind_ok] at e
    cases e2 : g σd S1 with
    | exc c S => simp only [e2, bind_exc] at e; cases e
    | bad => simp only [e2, bind_bad] at e; cases e
    | ok y S2 =>
      simp only [e2, bind_ok] at e
      cases y with
      | tup ws' =>
        cases e
        cases x with
        | str y =>
          have j : (if (acc ++ y).length ≤ sizeLine then joinF ws' (acc ++ y) else none) = some out := j
          by_cases hz : (acc ++ y).length ≤ sizeLine
          · rw [if_pos hz] at j
            refine ⟨ι, Y, S, σd, R, rs, ?_⟩
            rw [e1]
            intro ι1 H1 v ev R1 r1
            cases r1.str_eq
            exact ⟨y, rfl, hz, hk (acc ++ y) σ H1 Q ι1 Y S1 σd ws' S' out R1 (rs.evo ev) e2 j fun ι2 H2 ev2 R2 => k ι2 H2 (ev.trans ev2) R2⟩
          · rw [if_neg hz] at j; cases j
        | _ => cases j
      | _ => cases e
theorem e_fs {c : Expr} (hf : FsOk X G f (a :: b :: es)) : PE X (.JoinedStr (a :: b :: es) pos) (tE X.K G (fun σ S => match f σ S with | .ok (.tup ws) S => (match joinF ws Str.empty with | some y => .ok (.str y) S | none => .bad) | _ => .bad) W) := by
  obtain ⟨ts, hj, hk⟩ := hf
  refine (pe_joined hj).imp fun σ H Q q => ?_
  obtain ⟨ι, Y, S, σd, R, rs, p⟩ := q
  cases e : f σd S with
  | ok w S1 =>
    cases w with
    | tup ws =>
      simp only [e] at p
      cases j : joinF ws Str.empty with
      | none => simp only [j] at p; exact p.elim
      | some out =>
        simp only [j] at p
        exact hk Str.empty σ H _ ι Y S σd ws S1 out R rs e j fun ι2 H2 ev R2 => p ι2 H2 _ ev R2 (.str out)
    | _ => simp only [e] at p; exact p.elim
  | exc c S => simp only [e] at p; exact p.elim
  | bad => simp only [e] at p; exact p.elim
end
end Dy

end
section
set_option Elab.async false
set_option linter.all false
set_option maxRecDepth 100000
set_option maxHeartbeats 400000
/-! Dy, part F: what is walked; comprehensions. -/
namespace Dy
open PySem PySem.Spec PyProof.Rows L2

/-- what is walked, and how -/
def WalkOk (K : PySem.W.Frag) (ι : Io) (Y : Addr → Prop) (H : Hp) (J : It) (items : List Wv) : Prop :=
  ∃ (xs : List V) (Gd : Hp → Prop), Walk J xs.length Gd (YAt xs) ∧ RepL K H ι Y items xs ∧ ∀ ι' H', Evo ι H ι' H' → Gd H'
def PostI (K : PySem.W.Frag) (G : Glob) (Y : Addr → Prop) (ι : Io) (H : Hp) (r : Res) (R : It → Hp → Prop) (E : XK) : Prop := match r with
  | .ok (.lst items) S => ∀ ι' H' J, Evo ι H ι' H' → Rel K G ι' Y S H' → WalkOk K ι' Y H' J items → R J H'
  | .exc c S => ∃ C, G.cls c = some C ∧ ∀ ι' H', Evo ι H ι' H' → Rel K G ι' Y S H' → E (.ref C) none H'
  | _ => False
def tI (K : PySem.W.Frag) (G : Glob) (f : Sl → Sto → Res) (W : WX) : TI := fun σ H R => ∃ ι Y S σd, Rel K G ι Y S H ∧ RepS K H ι Y σd σ ∧ PostI K G Y ι H (f σd S) R (L2.WE W σ)
theorem itK_len {x : Wv} {S S' : Sto} {items : List Wv} (e : itK x S = .ok (.lst items) S') : items.length ≤ sizeLine := by
  have key : ∀ {xs : List Wv}, (match (if xs.length ≤ sizeLine then some xs else none) with | some items => Res.ok (.lst items) S | none => .bad) = .ok (.lst items) S' → items.length ≤ sizeLine := fun {xs} e => by
    by_cases h : xs.length ≤ sizeLine
    · rw [if_pos h] at e; cases e; exact h
    · rw [if_neg h] at e; cases e
  cases x with
  | lst xs => exact key e
  | tup xs => exact key e
  | _ => cases e
section
variable {X : Cx} {tg : Expr}
def iSeq (K : PySem.W.Frag) (tl : TE) : TI := fun σ H R => tl σ H fun x H1 => ∃ a, x = .ref a ∧ (((∃ xs, SqL K H1 a xs) ∧ R (Itl K a) H1) ∨ ((∃ xs, SqT K H1 a xs) ∧ R (Itt K a) H1))
theorem pi_seq {l : Expr} {tl : TE} (hl : PE X l tl) : PI X tg l (iSeq X.K tl) := by
  refine ⟨fun pins s σ H R I h => ?_⟩
  refine thn (hl.run pins s σ H _ I h) fun v s1 ⟨x, H1, I1, r1, q1⟩ => ?_
  obtain ⟨a, e, q⟩ := q1
  subst e
  cases r1
  rcases q with ⟨⟨xs, hq⟩, q⟩ | ⟨⟨xs, hq⟩, q⟩
  · obtain ⟨its, rv, p, hz⟩ := I1.list hq
    refine wpAny_pyIter_list p.isList ?_
    refine ⟨s1.heap.objs.size, [s1.heap.objs.size], _, _, H1, rfl, I1.kept (t' := s1.toks) fun b o e => Heap.get?_push_of_some _ e, turn_list a _, ⟨_, Heap.get?_push_size _ rfl, rfl, rfl⟩, fun b hb => ?_, q⟩
    have e : b = s1.heap.objs.size := by simpa using hb
    subst e
    exact I1.fpOk (Nat.le_refl _) (I1.hok.fresh (Nat.le_refl _))
  · obtain ⟨its, rv, p, hz⟩ := I1.tuple hq
    refine wpAny_pyIter_tuple (show s1.heap.IsTuple a its.toArray from p) ?_
    refine ⟨s1.heap.objs.size, [s1.heap.objs.size], _, _, H1, rfl, I1.kept (t' := s1.toks) fun b o e => Heap.get?_push_of_some _ e, turn_tuple a _, ⟨_, Heap.get?_push_size _ rfl, rfl, rfl⟩, fun b hb => ?_, q⟩
    have e : b = s1.heap.objs.size := by simpa using hb
    subst e
    exact I1.fpOk (Nat.le_refl _) (I1.hok.fresh (Nat.le_refl _))
variable {G : Glob} {W : WX} {f : Sl → Sto → Res}
theorem i_seq {l : Expr} (hl : PE X l (tE X.K G f W)) : PI X tg l (tI X.K G (fun σ S => (f σ S).bind itK) W) := by
  refine (pi_seq hl).imp fun σ H R q => ?_
  obtain ⟨ι, Y, S, σd, Rl, rs, p⟩ := q
  refine ⟨ι, Y, S, σd, Rl, rs, ?_⟩
  have p : PostI X.K G Y ι H ((f σd S).bind itK) R (L2.WE W σ) := p
  cases e : f σd S with
  | exc c S1 => rw [e] at p; exact p
  | bad => rw [e] at p; exact p.elim
  | ok x S1 =>
    rw [e, bind_ok] at p
    intro ι1 H1 v e1 R1 r1
    cases x with
    | lst xs =>
      by_cases hz : xs.length ≤ sizeLine
      · simp only [itK, itW, if_pos hz] at p
        cases r1 with
        | lst h fr l =>
          refine ⟨_, rfl, .inl ⟨⟨_, SqL.of h⟩, p ι1 H1 _ e1 R1 ⟨_, _, walk_list, l, fun ι2 H2 e2 => SqL.of (e2.keep _ _ h fr.2 (fun _ z => by cases z))⟩⟩⟩
      · simp only [itK, itW, if_neg hz] at p
        exact p.elim
    | tup xs =>
      by_cases hz : xs.length ≤ sizeLine
      · simp only [itK, itW, if_pos hz] at p
        cases r1 with
        | tup h fr l => exact ⟨_, rfl, .inr ⟨⟨_, .inl h⟩, p ι1 H1 _ e1 R1 ⟨_, _, walk_tup, l, fun ι2 H2 e2 => .inl (h.evo fr e2 (fun _ z => by cases z))⟩⟩⟩
        | ktup h l => exact ⟨_, rfl, .inr ⟨⟨_, .inr h⟩, p ι1 H1 _ e1 R1 ⟨_, _, walk_tup, l, fun ι2 H2 e2 => .inr h⟩⟩⟩
      · simp only [itK, itW, if_neg hz] at p
        exact p.elim
    | _ => exact p.elim
theorem walk_rng (lo : Int) (n : Nat) : Walk (Itr lo n) ((List.range n).map fun i => V.int (lo + (i : Nat))).length (fun _ => True) (YAt ((List.range n).map fun i => V.int (lo + (i : Nat)))) := by
  rw [List.length_map, List.length_range]
  refine walk_range.mono (fun _ h => h) fun i H x H' hi _ y => ⟨y.1, ?_⟩
  rw [y.2, List.getElem?_map, List.getElem?_range hi]
  rfl
theorem rep_rng {K : PySem.W.Frag} {H : Hp} {ι : Io} {Y : Addr → Prop} (g : Nat → Int) : ∀ l : List Nat, RepL K H ι Y (l.map fun i => Wv.int (g i)) (l.map fun i => V.int (g i))
  | [] => .nil
  | i :: l => .cons (.int _) (rep_rng g l)
theorem rng_step {K : PySem.W.Frag} {n : Nat} {lo : Int} {ι1 : Io} {Y : Addr → Prop} {S1 : Sto} {H1 : Hp} {R : It → Hp → Prop} {E : XK} (R1 : Rel K G ι1 Y S1 H1) (p : PostI K G Y ι1 H1 (itK (.lst ((List.range n).map fun i => .int (lo + (i : Nat)))) S1) R E) : R (Itr lo n) H1 := by
  by_cases hz : ((List.range n).map fun i => Wv.int (lo + (i : Nat))).length ≤ sizeLine
  · simp only [itK, itW, if_pos hz] at p
    exact p ι1 H1 _ (Evo.refl _ _) R1 ⟨_, _, walk_rng lo n, rep_rng (fun i => lo + (i : Nat)) _, fun _ _ _ => trivial⟩
  · simp only [itK, itW, if_neg hz] at p
    exact p.elim
theorem PostI.evo {K : PySem.W.Frag} {Y : Addr → Prop} {ι ι' : Io} {H H' : Hp} {r : Res} {R : It → Hp → Prop} {E : XK} (h : PostI K G Y ι H r R E) (e : Evo ι H ι' H') : PostI K G Y ι' H' r R E := by
  cases r with
  | ok w S =>
    cases w with
    | lst items => exact fun ι2 H2 J e2 R w => h ι2 H2 J (e.trans e2) R w
    | _ => exact h
  | exc c S =>
    obtain ⟨C, hc, h⟩ := h
    exact ⟨C, hc, fun ι2 H2 e2 R => h ι2 H2 (e.trans e2) R⟩
  | bad => exact h
theorem PostI.bind {K : PySem.W.Frag} {Y : Addr → Prop} {ι : Io} {H : Hp} {r : Res} {k : Wv → Sto → Res} {R : It → Hp → Prop} {E : XK} (h : PostI K G Y ι H ((r.bind k).bind itK) R E) :
    Post K G Y ι H r (fun v H' => ∃ ι' w S', Evo ι H ι' H' ∧ Rel K G ι' Y S' H' ∧ RepV K H' ι' Y w v ∧ PostI K G Y ι' H' ((k w S').bind itK) R E) E := by
  cases r with
  | ok w S => exact fun ι' H' v e R r => ⟨ι', w, S, e, R, r, PostI.evo h e⟩
  | exc c S => exact h
  | bad => exact h
variable {T : GT} {cl : Clr} {lv : Nat} {N : List Str} {sc : List (Str × NameKind)} {fn : Str → Bool} {kd : Kd} {a b : Expr} {g : Sl → Sto → Res} {p pos : Pos}
theorem i_rng1 (C : XOk X G T cl lv N sc fn kd W) (hx : isGl sc "range" = true) (hb : T.bis.contains "range" = true) (hs : noStar a = true) (ha : PE X a (tE X.K G f W)) :
    PI X tg (.Call (.Name "range" p) [a] [] pos) (tI X.K G (fun σ S => ((f σ S).bind rng1W).bind itK) W) := by
  obtain ⟨gl, d, nn⟩ := C.gl hx
  have s1 := starEach_cons (es := []) (env := X.env) hs
  refine (pi_range1 gl (C.g.bis _ hb) (pa_cons ha pa_nil s1) s1).imp fun σ H R q => ?_
  obtain ⟨ι, Y, S, σd, Rl, rs, p⟩ := q
  refine ⟨ι, Y, S, σd, Rl, rs, p.bind.mono ?_ idE⟩
  rintro v H' ⟨ι1, w, S1, e, R1, r1, p1⟩
  cases w with
  | int j =>
    cases r1.int_eq
    by_cases hz : -(2 ^ 62) ≤ j ∧ j < 2 ^ 62
    · simp only [rng1W, if_pos hz, bind_ok] at p1
      exact ⟨j, rfl, hz.1, hz.2, rng_step R1 p1⟩
    · simp only [rng1W, if_neg hz] at p1
      exact p1.elim
  | _ => exact p1.elim
theorem i_rng2 (C : XOk X G T cl lv N sc fn kd W) (hx : isGl sc "range" = true) (hb : T.bis.contains "range" = true) (hs : noStar a = true) (hs' : noStar b = true) (ha : PE X a (tE X.K G f W)) (hb' : PE X b (tE X.K G g W)) :
    PI X tg (.Call (.Name "range" p) [a, b] [] pos) (tI X.K G (fun σ S => ((f σ S).bind fun x S => (g σ S).bind fun y S => rng2W x y S).bind itK) W) := by
  obtain ⟨gl, d, nn⟩ := C.gl hx
  have s1 := starEach_cons (es := []) (env := X.env) hs'
  have s2 := starEach_cons (es := [b]) (env := X.env) hs
  refine (pi_range2 gl (C.g.bis _ hb) (pa_cons ha (pa_cons hb' pa_nil s1) s2) (by rw [s2, s1]; rfl) s1).imp fun σ H R q => ?_
  obtain ⟨ι, Y, S, σd, Rl, rs, p⟩ := q
  refine ⟨ι, Y, S, σd, Rl, rs, p.bind.mono ?_ idE⟩
  rintro v H' ⟨ι1, w, S1, e, R1, r1, p1⟩
  refine ⟨ι1, Y, S1, σd, R1, rs.evo e, p1.bind.mono ?_ idE⟩
  rintro u H2 ⟨ι2, w2, S2, e2, R2, r2, p2⟩
  cases w <;> first | exact p2.elim | skip
  cases w2 <;> first | exact p2.elim | skip
  rename_i i j
  cases r1.int_eq
  cases r2.int_eq
  by_cases hz : -(2 ^ 62) ≤ i ∧ i < 2 ^ 62 ∧ -(2 ^ 62) ≤ j ∧ j < 2 ^ 62
  · simp only [rng2W, if_pos hz, bind_ok] at p2
    exact ⟨i, j, rfl, hz, rng_step R2 p2⟩
  · simp only [rng2W, if_neg hz] at p2
    exact p2.elim
end

/-! ### targets -/
mutual
def tgT (K : PySem.W.Frag) : Tg → TG
  | .nm i => gName i
  | .tup ts => gTup K (tgLen ts) (tgTs K ts)
  | _ => fun _ _ _ _ => False
def tgTs (K : PySem.W.Frag) : Tg → TGs
  | .nil => gNil
  | .cons t ts => gCons (tgT K t) (tgTs K ts)
  | _ => fun _ _ _ _ => False
def tgLen : Tg → Nat
  | .cons _ ts => tgLen ts + 1
  | _ => 0
end
def inOwn (vs : List Nat) : Tg → Bool
  | .nm i => vs.contains i
  | .tup ts => inOwn vs ts
  | .nil => true
  | .cons t ts => inOwn vs t && inOwn vs ts
def Agree (vs : List Nat) (σ σ2 : L2.St) : Prop := σ2.length = σ.length ∧ ∀ i, i ∉ vs → σ2[i]? = σ[i]?
theorem Agree.refl (vs : List Nat) (σ : L2.St) : Agree vs σ σ := ⟨rfl, fun _ _ => rfl⟩
theorem Agree.trans {vs : List Nat} {σ σ1 σ2 : L2.St} (a : Agree vs σ σ1) (b : Agree vs σ1 σ2) : Agree vs σ σ2 := ⟨b.1.trans a.1, fun i h => (b.2 i h).trans (a.2 i h)⟩
section
variable {K : PySem.W.Frag} {ι : Io} {Y : Addr → Prop} {H : Hp}
mutual
theorem asgG (vs : List Nat) : ∀ (g : Tg) (w : Wv) (v : V) (σd σd' : Sl) (σ : L2.St) (Q : L2.St → Hp → Prop), inOwn vs g = true → asg g w σd = some σd' → RepV K H ι Y w v → RepS K H ι Y σd σ →
    (∀ σ2, RepS K H ι Y σd' σ2 → Agree vs σ σ2 → Q σ2 H) → tgT K g v σ H Q
  | .nm i, w, v, σd, σd', σ, Q, hi, e, r, rs, k => by
    have e : some (σd.set i (some w)) = some σd' := e
    cases e
    refine k _ (rs.set i r) ⟨by simp, fun j hj => ?_⟩
    have hi : vs.contains i = true := hi
    rw [List.getElem?_set_ne]
    intro z
    subst z
    exact hj (by simpa using hi)
  | .tup ts, w, v, σd, σd', σ, Q, hi, e, r, rs, k => by
    cases w with
    | tup ws =>
      have e : asgs ts ws σd = some σd' := e
      obtain ⟨p, rfl, us, hs, l⟩ := r.tup_ref
      refine ⟨p, us, rfl, hs, ?_, asgGs vs ts ws us σd σd' σ Q hi e l rs k⟩
      rw [← l.length]
      exact asgs_len ts ws σd σd' e
    | _ => cases e
  | .nil, w, v, σd, σd', σ, Q, hi, e, r, rs, k => by cases w <;> cases e
  | .cons t ts, w, v, σd, σd', σ, Q, hi, e, r, rs, k => by cases w <;> cases e
theorem asgGs (vs : List Nat) : ∀ (g : Tg) (ws : List Wv) (us : List V) (σd σd' : Sl) (σ : L2.St) (Q : L2.St → Hp → Prop), inOwn vs g = true → asgs g ws σd = some σd' → RepL K H ι Y ws us → RepS K H ι Y σd σ →
    (∀ σ2, RepS K H ι Y σd' σ2 → Agree vs σ σ2 → Q σ2 H) → tgTs K g us σ H Q
  | .nil, ws, us, σd, σd', σ, Q, hi, e, r, rs, k => by
    cases ws with
    | nil =>
      cases r
      have e : some σd = some σd' := e
      cases e
      exact ⟨rfl, k σ rs (Agree.refl _ _)⟩
    | cons _ _ => cases e
  | .cons t ts, ws, us, σd, σd', σ, Q, hi, e, r, rs, k => by
    cases ws with
    | nil => cases e
    | cons w ws =>
      cases r with
      | cons r1 r2 =>
        have e : ((asg t w σd).bind fun σ' => asgs ts ws σ') = some σd' := e
        have hi : (inOwn vs t && inOwn vs ts) = true := hi
        rw [Bool.and_eq_true] at hi
        cases e1 : asg t w σd with
        | none => rw [e1] at e; cases e
        | some σ1 =>
          rw [e1] at e
          refine ⟨_, _, rfl, asgG vs t w _ σd σ1 σ _ hi.1 e1 r1 rs fun σ2 rs2 ag => ?_⟩
          exact asgGs vs ts ws _ σ1 σd' σ2 Q hi.2 e r2 rs2 fun σ3 rs3 ag2 => k σ3 rs3 (ag.trans ag2)
  | .nm i, ws, us, σd, σd', σ, Q, hi, e, r, rs, k => by cases ws <;> cases e
  | .tup ts, ws, us, σd, σd', σ, Q, hi, e, r, rs, k => by cases ws <;> cases e
theorem asgs_len : ∀ (g : Tg) (ws : List Wv) (σd σd' : Sl), asgs g ws σd = some σd' → ws.length = tgLen g
  | .nil, ws, σd, σd', e => by
    cases ws with
    | nil => rfl
    | cons _ _ => cases e
  | .cons t ts, ws, σd, σd', e => by
    cases ws with
    | nil => cases e
    | cons w ws =>
      have e : ((asg t w σd).bind fun σ' => asgs ts ws σ') = some σd' := e
      cases e1 : asg t w σd with
      | none => rw [e1] at e; cases e
      | some σ1 =>
        rw [e1] at e
        show ws.length + 1 = tgLen ts + 1
        rw [asgs_len ts ws σ1 σd' e]
  | .nm i, ws, σd, σd', e => by cases ws <;> cases e
  | .tup ts, ws, σd, σd', e => by cases ws <;> cases e
end
end
end Dy

end
section
set_option Elab.async false
set_option linter.all false
set_option maxRecDepth 100000
set_option maxHeartbeats 400000
/-! Dy, part G: comprehensions. -/
namespace Dy
open PySem PySem.Spec PyProof.Rows L2

/-! ### slots forgotten -/
theorem wipe_get (σ : L2.St) : ∀ (vs : List Nat) (i : Nat), (wipe σ vs)[i]? = if i ∈ vs then σ[i]?.map (fun _ => none) else σ[i]?
  | [], i => by simp [wipe]
  | v :: vs, i => by
    unfold wipe
    have ih := wipe_get σ vs i
    by_cases e : v = i
    · subst e
      rw [List.getElem?_set, if_pos rfl, wipe_length, if_pos List.mem_cons_self]
      by_cases h : v < σ.length
      · rw [if_pos h, List.getElem?_eq_getElem h]; rfl
      · rw [if_neg h, List.getElem?_eq_none (Nat.le_of_not_lt h)]; rfl
    · rw [List.getElem?_set_ne e, ih]
      have : i ∈ v :: vs ↔ i ∈ vs := by
        rw [List.mem_cons]
        exact ⟨fun h => h.elim (fun z => absurd z.symm e) id, .inr⟩
      by_cases h : i ∈ vs
      · rw [if_pos h, if_pos (this.mpr h)]
      · rw [if_neg h, if_neg (fun z => h (this.mp z))]
theorem wipe_agree {vs : List Nat} {σ σ2 : L2.St} (a : Agree vs (wipe σ vs) σ2) : wipe σ2 vs = wipe σ vs := by
  refine List.ext_getElem? fun i => ?_
  have hl : σ2.length = σ.length := by rw [a.1, wipe_length]
  rw [wipe_get, wipe_get]
  by_cases h : i ∈ vs
  · rw [if_pos h, if_pos h]
    by_cases hi : i < σ.length
    · rw [List.getElem?_eq_getElem hi, List.getElem?_eq_getElem (by omega)]; rfl
    · rw [List.getElem?_eq_none (Nat.le_of_not_lt hi), List.getElem?_eq_none (by omega)]
  · rw [if_neg h, if_neg h, a.2 i h, wipe_get, if_neg h]
theorem RepS.wipe {K : PySem.W.Frag} {H : Hp} {ι : Io} {Y : Addr → Prop} {σd : Sl} {σ : L2.St} (r : RepS K H ι Y σd σ) : ∀ vs : List Nat, RepS K H ι Y (wipeW σd vs) (L2.wipe σ vs)
  | [] => r
  | v :: vs => by
    have ih := RepS.wipe r vs
    refine ⟨by show (List.set _ _ _).length = (List.set _ _ _).length; rw [List.length_set, List.length_set]; exact ih.1, fun i w e => ?_⟩
    have e : ((wipeW σd vs).set v none)[i]? = some (some w) := e
    show ∃ u, ((L2.wipe σ vs).set v none)[i]? = some (some u) ∧ _
    by_cases h : v = i
    · subst h
      rw [List.getElem?_set, if_pos rfl] at e
      split at e <;> cases e
    · rw [List.getElem?_set_ne h] at e ⊢
      exact ih.2 i w e
theorem evo_D {ι ι' : Io} {H H' : Hp} {D : Addr} {o : HO} (e : Evo ι H ι' H') (n : H D = none) : Evo ι H ι' (upd H' D o) where
  keep := fun a u h ni nt => by rw [upd_ne (ne_of_none h n)]; exact e.keep a u h ni nt
  ext := e.ext
  new := e.new
  stay := fun a h => by
    rw [upd_ne (fun z : a = D => h (z ▸ n))]; exact e.stay a h

/-! ### the block's context -/
def relN (sc names : List (Str × NameKind)) : List (Str × NameKind) := names.map fun (n, k) => if (k == .free && sc.lookup n == some .cell) then (n, .cell) else (n, k)
def blkN (N : List Str) (sc : List (Str × NameKind)) (scope : Scope) (own : List (Str × Nat)) : Bool := blkC N { kind := .function, names := sc, isGenerator := false, isCoroutine := false } scope own
def blkF (scope : Scope) : Str → Bool := fun x => scope.names.lookup x == some .cell
section
variable {X : Cx} {G : Glob} {T : GT} {cl : Clr} {lv : Nat} {N : List Str} {sc : List (Str × NameKind)} {fn : Str → Bool} {kd : Kd} {W : WX} {scope : Scope} {own : List (Str × Nat)}
theorem XOk.blkOk (C : XOk X G T cl lv N sc fn kd W) (h : blkN N sc scope own = true) : BlkOk X.N X.env.scope scope own := by
  refine blkOk_by ?_
  rw [C.hN]
  unfold blkN blkC at h
  unfold blkC
  rw [C.sc]
  exact h
theorem XOk.blk (C : XOk X G T cl lv N sc fn kd W) (h : blkN N sc scope own = true) (s : Shared) (H : Hp) (Cc : Addr) (cl' : List (Str × Addr)) (fp : List Addr) :
    XOk (X.blk s H scope (compEnvC scope cl' Cc X.env) fp) G T cl lv N (relN sc scope.names) (blkF scope) kd (fun _ _ _ _ => False) where
  g := C.g
  hN := C.hN
  nd := C.nd
  kind := (C.blkOk h).kind
  sc := by
    show scope.names.map (fun p => if (p.2 == .free && X.env.scope.kind == .function && X.env.scope.names.lookup p.1 == some .cell) = true then (p.1, NameKind.cell) else (p.1, p.2)) = relN sc scope.names
    rw [C.kind, C.sc]
    unfold relN
    refine List.map_congr_left fun p _ => ?_
    obtain ⟨n, k⟩ := p
    simp
  fn := rfl
  calm := C.calm
  room := C.room
  tk := LamX.takes0
  kd := C.kd

/-! ### the reading of a clause's tests -/
def TtOk (X : Cx) (G : Glob) (tt : TT) (fc : Sl → Sto → Res) : Prop := ∀ (σ : L2.St) (H : Hp) (Q : Bool → Hp → Prop) (ι : Io) (Y : Addr → Prop) (S : Sto) (σd : Sl) (t : Bool) (S' : Sto), Rel X.K G ι Y S H → RepS X.K H ι Y σd σ → fc σd S = .ok (.bl t) S' →
  (∀ ι' H', Evo ι H ι' H' → Rel X.K G ι' Y S' H' → Q t H') → tt σ H Q
theorem tt_yes : TtOk X G tYes (fun _ S => .ok (.bl true) S) := fun σ H Q ι Y S σd t S' R rs e k => by
  cases e
  exact k ι H (Evo.refl _ _) R
theorem tt_one {fc : Sl → Sto → Res} : TtOk X G (tT X.K G fc W) fc := fun σ H Q ι Y S σd t S' R rs e k => by
  refine ⟨ι, Y, S, σd, R, rs, ?_⟩
  rw [e]
  intro ι' H' v ev R' r
  cases r.bl_eq
  exact ⟨t, rfl, k ι' H' ev R'⟩
def lcF (g : Tg) (fc fe : Sl → Sto → Res) (σw : Sl) : Wv → Sto → Res := fun x S => match asg g x σw with
  | some σ' => (fc σ' S).bind fun t S => iteK t ((fe σ' S).bind fun y S => .ok (.lst [y]) S) (.ok (.lst []) S)
  | none => .bad
/-- one turn of a comprehension that comes to an end -/
theorem lcF_ok {g : Tg} {fc fe : Sl → Sto → Res} {σw : Sl} {x : Wv} {S S' : Sto} {ys : List Wv} (e : lcF g fc fe σw x S = .ok (.lst ys) S') :
    ∃ σ' S1, asg g x σw = some σ' ∧ ((∃ y, fc σ' S = .ok (.bl true) S1 ∧ fe σ' S1 = .ok y S' ∧ ys = [y]) ∨ (fc σ' S = .ok (.bl false) S1 ∧ S' = S1 ∧ ys = [])) := by
  unfold lcF at e
  cases ha : asg g x σw with
  | none => rw [ha] at e; cases e
  | some σ' =>
    simp only [ha] at e
    refine ⟨σ', ?_⟩
    cases hc : fc σ' S with
    | exc c S1 => simp only [hc, bind_exc] at e; cases e
    | bad => simp only [hc, bind_bad] at e; cases e
    | ok t S1 =>
      simp only [hc, bind_ok] at e
      refine ⟨S1, rfl, ?_⟩
      cases t with
      | bl b =>
        cases b with
        | true =>
          have e : ((fe σ' S1).bind fun y S => .ok (.lst [y]) S) = .ok (.lst ys) S' := e
          cases he : fe σ' S1 with
          | exc c S2 => simp only [he, bind_exc] at e; cases e
          | bad => simp only [he, bind_bad] at e; cases e
          | ok y S2 =>
            simp only [he, bind_ok] at e
            cases e
            exact .inl ⟨y, rfl, rfl, rfl⟩
        | false =>
          have e : Res.ok (.lst []) S1 = .ok (.lst ys) S' := e
          cases e
          exact .inr ⟨rfl, rfl, rfl⟩
      | _ => cases e
theorem lcLoop_cons {F : Wv → Sto → Res} {x : Wv} {xs acc : List Wv} {S : Sto} {K : PySem.W.Frag} {Y : Addr → Prop} {ι : Io} {H : Hp} {Q : VK} {E : XK} (p : Post K G Y ι H (lcLoop F (x :: xs) acc S) Q E) :
    ∃ ys S', F x S = .ok (.lst ys) S' ∧ Post K G Y ι H (lcLoop F xs (acc ++ ys) S') Q E := by
  have p : Post K G Y ι H (match F x S with | .ok (.lst ys) S' => lcLoop F xs (acc ++ ys) S' | _ => .bad) Q E := p
  cases e : F x S with
  | ok w S' =>
    cases w with
    | lst ys => rw [e] at p; exact ⟨ys, S', rfl, p⟩
    | _ => rw [e] at p; exact p.elim
  | exc c S' => rw [e] at p; exact p.elim
  | bad => rw [e] at p; exact p.elim
theorem plus_self {Y : Addr → Prop} {D : Addr} : plus Y D D := .inr rfl
/-- what stands at D, set aside, is kept by what goes on -/
theorem keepD {K : PySem.W.Frag} {ι ι' : Io} {Y : Addr → Prop} {S : Sto} {H H' : Hp} {D : Addr} {o : HO} (R : Rel K G ι (plus Y D) S H) (e : Evo ι H ι' H') (h : H D = some o) (n : ∀ ps, o ≠ .tbl ps) : H' D = some o :=
  e.keep D o h (fun i z => R.ny i D z plus_self) n
theorem codeO_lst {q : Addr} {xs : List V} {H : Hp} (h : H q = some (.lst xs)) : (∀ ps, H q ≠ some (.tbl ps)) ∧ ∀ c s, H q ≠ some (LamX.CodeO c s) := by
  rw [h]
  exact ⟨fun ps z => (by cases z), fun c s z => (by unfold LamX.CodeO at z; cases z)⟩
theorem codeO_dK {q : Addr} {xs : List (Key × V)} {H : Hp} (h : H q = some (.dK xs)) : (∀ ps, H q ≠ some (.tbl ps)) ∧ ∀ c s, H q ≠ some (LamX.CodeO c s) := by
  rw [h]
  exact ⟨fun ps z => (by cases z), fun c s z => (by unfold LamX.CodeO at z; cases z)⟩
/-- the reading of a comprehension -/
theorem lcW {g : Tg} {vs : List Nat} {fi fc fe : Sl → Sto → Res} {tt : TT} {σ : L2.St} {H : Hp} {Q : VK} (hg : inOwn vs g = true) (ht : TtOk X G tt fc)
    (q : tE X.K G (fun σ S => (fi σ S).bind fun x S => match itW x with | some items => lcLoop (lcF g fc fe (wipeW σ vs)) items [] S | none => .bad) W σ H Q) :
    tLc (tI X.K G (fun σ S => (fi σ S).bind itK) W) (tgT X.K g) tt (tE X.K G fe (fun _ _ _ _ => False)) vs σ H Q := by
  obtain ⟨ι, Y, S, σd, R, rs, p⟩ := q
  refine ⟨ι, Y, S, σd, R, rs, ?_⟩
  show PostI X.K G Y ι H ((fi σd S).bind itK) _ _
  have p : Post X.K G Y ι H ((fi σd S).bind fun x S => match itW x with | some items => lcLoop (lcF g fc fe (wipeW σd vs)) items [] S | none => .bad) Q (L2.WE W σ) := p
  cases e : fi σd S with
  | exc c S1 => rw [e] at p; exact p
  | bad => rw [e] at p; exact p.elim
  | ok x S1 =>
    rw [e] at p
    have p : Post X.K G Y ι H (match itW x with | some items => lcLoop (lcF g fc fe (wipeW σd vs)) items [] S1 | none => .bad) Q (L2.WE W σ) := p
    show PostI X.K G Y ι H (itK x S1) _ _
    cases hi : itW x with
    | none => rw [hi] at p; exact p.elim
    | some items =>
      rw [hi] at p
      have ek : itK x S1 = .ok (.lst items) S1 := by unfold itK; rw [hi]
      have hz := itK_len ek
      rw [ek]
      intro ι1 H1 J e1 R1 w1
      obtain ⟨xs, Gd, wk, rl, hG⟩ := w1
      intro D hD
      generalize hF : lcF g fc fe (wipeW σd vs) = F at p
      have p1 : Post X.K G Y ι1 H1 (lcLoop F items [] S1) Q (L2.WE W σ) := Post.evo p e1
      have ll : items.length = xs.length := rl.length
      refine lc_it wk (fun i H' => ∃ (ι' : Io) (S' : Sto) (acc : List Wv) (accV : List V), Evo ι1 H1 ι' H' ∧ Rel X.K G ι' (plus Y D) S' H' ∧ H' D = some (.lst accV) ∧ RepL X.K H' ι' (plus Y D) acc accV ∧ acc.length ≤ i ∧ Post X.K G Y ι1 H1 (lcLoop F (items.drop i) acc S') Q (L2.WE W σ)) ?_ ?_ ?_ ?_
      · exact ⟨ι1, S1, [], [], evo_new ι1 hD, R1.plus hD trivial, upd_same, .nil, Nat.le_refl _, p1⟩
      · rintro i H' _ ⟨ι', S', acc, accV, ev, _⟩
        exact hG ι' H' ev
      · rintro i xv H' H'' hi2 ⟨ι', S', acc, accV, ev, R', hD', ra, hl, pp⟩ ⟨rfl, hx⟩
        obtain ⟨w, hw, rw1⟩ := rl.getV hx
        have hlt : i < items.length := by omega
        have ed : items.drop i = w :: items.drop (i + 1) := by
          rw [List.drop_eq_getElem_cons hlt]
          rw [List.getElem?_eq_getElem hlt] at hw
          cases hw; rfl
        rw [ed] at pp
        obtain ⟨ys, S'', eF, pp⟩ := lcLoop_cons pp
        rw [← hF] at eF
        obtain ⟨σ', S2, ha, hcase⟩ := lcF_ok eF
        have rsw : RepS X.K H'' ι' (plus Y D) (wipeW σd vs) (wipe σ vs) := ((((rs.evo e1).plus hD).evo ev).wipe vs)
        have rwv : RepV X.K H'' ι' (plus Y D) w xv := (rw1.plus hD).evo ev
        refine asgG vs g w xv _ σ' _ _ hg ha rwv rsw fun σ2 rs2 ag => ⟨wipe_agree ag, ?_⟩
        rcases hcase with ⟨y, hc, he, rfl⟩ | ⟨hc, rfl, rfl⟩
        · refine ht σ2 H'' _ ι' (plus Y D) S' σ' true S2 R' rs2 hc fun ι3 H3 e3 R3 => ?_
          rw [if_pos rfl]
          refine ⟨ι3, plus Y D, S2, σ', R3, rs2.evo e3, ?_⟩
          rw [he]
          intro ι4 H4 yv e4 R4 r4
          have hD4 := keepD R' (e3.trans e4) hD' (fun _ z => by cases z)
          have hl4 : accV.length < sizeLine := by rw [← ra.length]; omega
          refine ⟨accV, hD4, hl4, ι4, S'', acc ++ [y], accV ++ [yv], evo_D ((ev.trans e3).trans e4) hD, ?_, upd_same, ?_, ?_, pp⟩
          · obtain ⟨n1, n2⟩ := codeO_lst hD4
            exact R4.updY trivial plus_self n1 n2
          · exact ((ra.evo (e3.trans e4)).append (.cons r4 .nil)).updY plus_self
          · rw [List.length_append]; exact Nat.succ_le_succ hl
        · refine ht σ2 H'' _ ι' (plus Y D) S' σ' false S'' R' rs2 hc fun ι3 H3 e3 R3 => ?_
          rw [if_neg Bool.false_ne_true]
          rw [List.append_nil] at pp
          exact ⟨ι3, S'', acc, accV, ev.trans e3, R3, keepD R' e3 hD' (fun _ z => by cases z), ra.evo e3, Nat.le_succ_of_le hl, pp⟩
      · rintro H' ⟨ι', S', acc, accV, ev, R', hD', ra, hl, pp⟩
        rw [← ll, List.drop_length] at pp
        refine pp ι' H' _ ev (R'.less plus_less) (.lst hD' ?_ (ra.less plus_less))
        exact ⟨fun z => R1.yn z hD, fun i z => R'.ny i D z plus_self⟩
theorem e_lc (C : XOk X G T cl lv N sc fn kd W) {g : Tg} {fi fc fe : Sl → Sto → Res} {tt : TT} {elt tg iter : Expr} {ifs : List Expr} {pos : Pos} (hb : blkN N sc scope own = true) (hg : inOwn (own.map (·.2)) g = true) (hns : noSet iter = true) (ht : TtOk X G tt fc)
    (hi : PI X tg iter (tI X.K G (fun σ S => (fi σ S).bind itK) W))
    (hgt : ∀ X' : Cx, X'.K = X.K → XOk X' G T cl lv N (relN sc scope.names) (blkF scope) kd (fun _ _ _ _ => False) → PG X' tg (tgT X.K g))
    (htt : ∀ X' : Cx, X'.K = X.K → XOk X' G T cl lv N (relN sc scope.names) (blkF scope) kd (fun _ _ _ _ => False) → PTs X' ifs tt)
    (hte : ∀ X' : Cx, X'.K = X.K → XOk X' G T cl lv N (relN sc scope.names) (blkF scope) kd (fun _ _ _ _ => False) → PE X' elt (tE X.K G fe (fun _ _ _ _ => False))) :
    PE X (.ListComp elt [⟨tg, iter, ifs, 0⟩] scope pos) (tE X.K G (fun σ S => (fi σ S).bind fun x S => match itW x with | some items => lcLoop (lcF g fc fe (wipeW σ (own.map (·.2)))) items [] S | none => .bad) W) := by
  refine (pe_lc C.calm (by rw [C.hN]; exact C.nd) hi (C.blkOk hb) (fun s H Cc cl' fp => hgt _ rfl (C.blk hb s H Cc cl' fp)) (fun s H Cc cl' fp => htt _ rfl (C.blk hb s H Cc cl' fp)) (fun s H Cc cl' fp => hte _ rfl (C.blk hb s H Cc cl' fp)) (noFold hns)).imp fun σ H Q q => ?_
  exact lcW hg ht q

/-! ### a dict's comprehension -/
theorem dc_it {J : It} {n : Nat} {Gd : Hp → Prop} {Yy : Nat → Hp → V → Hp → Prop} (w : Walk J n Gd Yy) {g : TG} {tt : TT} {tk tv : TE} {vs : List Nat} {σ : L2.St} {H1 : Hp} {D : Addr} {Qd : Hp → Prop} (Pv : Nat → Hp → Prop) (h0 : Pv 0 (upd H1 D (.dK []))) (hG : ∀ i H, i ≤ n → Pv i H → Gd H)
    (hs : ∀ i x H H', i < n → Pv i H → Yy i H x H' → g x (wipe σ vs) H' fun σ2 H2 => wipe σ2 vs = wipe σ vs ∧ tt σ2 H2 fun b H3 =>
      if b = true then tk σ2 H3 fun y H4 => tv σ2 H4 fun z H5 => ∃ kvs k, y = kV k ∧ H5 D = some (.dK kvs) ∧ kvs.length < sizeLine ∧ Pv (i + 1) (upd H5 D (.dK (putK kvs k z))) else Pv (i + 1) H3) (hd : ∀ H, Pv n H → Qd H) :
    ∃ W : Nat → Nat → Hp → Prop, (∃ m, W 0 m (upd H1 D (.dK []))) ∧ ∀ i m H, W i m H →
      (J.stop i H ∧ Qd H) ∨ (J.go i H ∧ ∃ Nx : Hp → Prop, (∀ H', Nx H' → ∃ m', m' < m ∧ W (i + 1) m' H') ∧ ∀ x H', J.yld i H x H' → g x (wipe σ vs) H' fun σ2 H2 => wipe σ2 vs = wipe σ vs ∧ tt σ2 H2 fun b H3 =>
        if b = true then tk σ2 H3 fun y H4 => tv σ2 H4 fun z H5 => ∃ kvs k, y = kV k ∧ H5 D = some (.dK kvs) ∧ kvs.length < sizeLine ∧ Nx (upd H5 D (.dK (putK kvs k z))) else Nx H3) := by
  refine ⟨fun i m H => m = n - i ∧ i ≤ n ∧ Pv i H, ⟨n, by simp, Nat.zero_le _, h0⟩, ?_⟩
  rintro i m H ⟨rfl, hi, p⟩
  have q := hG i H hi p
  by_cases hlt : i < n
  · refine .inr ⟨w.goes i H hlt q, Pv (i + 1), fun H' p' => ⟨n - (i + 1), by omega, rfl, hlt, p'⟩, fun x H' y => hs i x H H' hlt p (w.yields i H x H' hlt q y)⟩
  · have e : i = n := by omega
    subst e
    exact .inl ⟨w.stops H q, hd H p⟩
theorem anyK_V {K : PySem.W.Frag} {H : Hp} {ι : Io} {Y : Addr → Prop} {k : Key} : ∀ {ws : List (Key × Wv)} {vs : List (Key × V)}, RepD K H ι Y ws vs → (vs.any fun kv => decide (kv.1 = k)) = ws.any fun kv => decide (kv.1 = k)
  | _, _, .nil => rfl
  | _, _, .cons r t => by rw [List.any_cons, List.any_cons, anyK_V t]
theorem mapK_V {K : PySem.W.Frag} {H : Hp} {ι : Io} {Y : Addr → Prop} {k : Key} {w : Wv} {v : V} (r : RepV K H ι Y w v) : ∀ {ws : List (Key × Wv)} {vs : List (Key × V)}, RepD K H ι Y ws vs → RepD K H ι Y (ws.map fun kv => if kv.1 = k then (kv.1, w) else kv) (vs.map fun kv => if kv.1 = k then (kv.1, v) else kv)
  | _, _, .nil => .nil
  | _, _, .cons (k := k') r1 t => by
    rw [List.map_cons, List.map_cons]
    by_cases e : k' = k
    · rw [if_pos e, if_pos e]; exact .cons r (mapK_V r t)
    · rw [if_neg e, if_neg e]; exact .cons r1 (mapK_V r t)
theorem RepD.append {K : PySem.W.Frag} {H : Hp} {ι : Io} {Y : Addr → Prop} : ∀ {ws us : List (Key × Wv)} {vs xs : List (Key × V)}, RepD K H ι Y ws vs → RepD K H ι Y us xs → RepD K H ι Y (ws ++ us) (vs ++ xs)
  | _, _, _, _, .nil, s => s
  | _, _, _, _, .cons r t, s => .cons r (RepD.append t s)
theorem putW_V {K : PySem.W.Frag} {H : Hp} {ι : Io} {Y : Addr → Prop} {k : Key} {w : Wv} {v : V} {ws : List (Key × Wv)} {vs : List (Key × V)} (r : RepV K H ι Y w v) (d : RepD K H ι Y ws vs) : RepD K H ι Y (putW ws k w) (putK vs k v) := by
  unfold putW putK
  rw [anyK_V d]
  split
  · exact mapK_V r d
  · exact d.append (.cons r .nil)
theorem putW_len (kvs : List (Key × Wv)) (k : Key) (w : Wv) : (putW kvs k w).length ≤ kvs.length + 1 := by
  unfold putW
  split
  · rw [List.length_map]; omega
  · rw [List.length_append]; exact Nat.le_refl _
def dcF (g : Tg) (fc fk fe : Sl → Sto → Res) (σw : Sl) : Wv → Sto → Res := fun x S => match asg g x σw with
  | some σ' => (fc σ' S).bind fun t S => iteK t ((fk σ' S).bind fun y S => (fe σ' S).bind fun z S => .ok (.lst [y, z]) S) (.ok (.lst []) S)
  | none => .bad
theorem dcF_ok {g : Tg} {fc fk fe : Sl → Sto → Res} {σw : Sl} {x : Wv} {S S' : Sto} {ys : List Wv} (e : dcF g fc fk fe σw x S = .ok (.lst ys) S') :
    ∃ σ' S1, asg g x σw = some σ' ∧ ((∃ y z S2, fc σ' S = .ok (.bl true) S1 ∧ fk σ' S1 = .ok y S2 ∧ fe σ' S2 = .ok z S' ∧ ys = [y, z]) ∨ (fc σ' S = .ok (.bl false) S1 ∧ S' = S1 ∧ ys = [])) := by
  unfold dcF at e
  cases ha : asg g x σw with
  | none => rw [ha] at e; cases e
  | some σ' =>
    simp only [ha] at e
    refine ⟨σ', ?_⟩
    cases hc : fc σ' S with
    | exc c S1 => simp only [hc, bind_exc] at e; cases e
    | bad => simp only [hc, bind_bad] at e; cases e
    | ok t S1 =>
      simp only [hc, bind_ok] at e
      refine ⟨S1, rfl, ?_⟩
      cases t with
      | bl b =>
        cases b with
        | true =>
          have e : ((fk σ' S1).bind fun y S => (fe σ' S).bind fun z S => .ok (.lst [y, z]) S) = .ok (.lst ys) S' := e
          cases hk : fk σ' S1 with
          | exc c S2 => simp only [hk, bind_exc] at e; cases e
          | bad => simp only [hk, bind_bad] at e; cases e
          | ok y S2 =>
            simp only [hk, bind_ok] at e
            cases he : fe σ' S2 with
            | exc c S3 => simp only [he, bind_exc] at e; cases e
            | bad => simp only [he, bind_bad] at e; cases e
            | ok z S3 =>
              simp only [he, bind_ok] at e
              cases e
              exact .inl ⟨y, z, S2, rfl, rfl, he, rfl⟩
        | false =>
          have e : Res.ok (.lst []) S1 = .ok (.lst ys) S' := e
          cases e
          exact .inr ⟨rfl, rfl, rfl⟩
      | _ => cases e
theorem dcLoop_cons {F : Wv → Sto → Res} {x : Wv} {xs : List Wv} {acc : List (Key × Wv)} {S : Sto} {K : PySem.W.Frag} {Y : Addr → Prop} {ι : Io} {H : Hp} {Q : VK} {E : XK} (p : Post K G Y ι H (dcLoop F (x :: xs) acc S) Q E) :
    ∃ S', (∃ y w k, F x S = .ok (.lst [y, w]) S' ∧ keyW y = some k ∧ Post K G Y ι H (dcLoop F xs (putW acc k w) S') Q E) ∨ (F x S = .ok (.lst []) S' ∧ Post K G Y ι H (dcLoop F xs acc S') Q E) := by
  have p : Post K G Y ι H (match F x S with
    | .ok (.lst [k, w]) S' => (match keyW k with | some k => dcLoop F xs (putW acc k w) S' | none => .bad)
    | .ok (.lst []) S' => dcLoop F xs acc S'
    | _ => .bad) Q E := p
  cases e : F x S with
  | ok w S' =>
    rw [e] at p
    refine ⟨S', ?_⟩
    cases w with
    | lst ys =>
      match ys, p with
      | [], p => exact .inr ⟨rfl, p⟩
      | [y, w], p =>
        cases hk : keyW y with
        | none => simp only [hk] at p; exact p.elim
        | some k => simp only [hk] at p; exact .inl ⟨y, w, k, rfl, hk, p⟩
      | [_], p => exact p.elim
      | _ :: _ :: _ :: _, p => exact p.elim
    | _ => exact p.elim
  | exc c S' => rw [e] at p; exact p.elim
  | bad => rw [e] at p; exact p.elim
theorem dcW {g : Tg} {vs : List Nat} {fi fc fk fe : Sl → Sto → Res} {tt : TT} {σ : L2.St} {H : Hp} {Q : VK} (hg : inOwn vs g = true) (ht : TtOk X G tt fc)
    (q : tE X.K G (fun σ S => (fi σ S).bind fun x S => match itW x with | some items => dcLoop (dcF g fc fk fe (wipeW σ vs)) items [] S | none => .bad) W σ H Q) :
    tDc (tI X.K G (fun σ S => (fi σ S).bind itK) W) (tgT X.K g) tt (tE X.K G fk (fun _ _ _ _ => False)) (tE X.K G fe (fun _ _ _ _ => False)) vs σ H Q := by
  obtain ⟨ι, Y, S, σd, R, rs, p⟩ := q
  refine ⟨ι, Y, S, σd, R, rs, ?_⟩
  show PostI X.K G Y ι H ((fi σd S).bind itK) _ _
  have p : Post X.K G Y ι H ((fi σd S).bind fun x S => match itW x with | some items => dcLoop (dcF g fc fk fe (wipeW σd vs)) items [] S | none => .bad) Q (L2.WE W σ) := p
  cases e : fi σd S with
  | exc c S1 => rw [e] at p; exact p
  | bad => rw [e] at p; exact p.elim
  | ok x S1 =>
    rw [e] at p
    have p : Post X.K G Y ι H (match itW x with | some items => dcLoop (dcF g fc fk fe (wipeW σd vs)) items [] S1 | none => .bad) Q (L2.WE W σ) := p
    show PostI X.K G Y ι H (itK x S1) _ _
    cases hi : itW x with
    | none => rw [hi] at p; exact p.elim
    | some items =>
      rw [hi] at p
      have ek : itK x S1 = .ok (.lst items) S1 := by unfold itK; rw [hi]
      have hz := itK_len ek
      rw [ek]
      intro ι1 H1 J e1 R1 w1
      obtain ⟨xs, Gd, wk, rl, hG⟩ := w1
      intro D hD
      generalize hF : dcF g fc fk fe (wipeW σd vs) = F at p
      have p1 : Post X.K G Y ι1 H1 (dcLoop F items [] S1) Q (L2.WE W σ) := Post.evo p e1
      have ll : items.length = xs.length := rl.length
      have R1D : Rel X.K G ι1 (plus Y D) S1 (upd H1 D (.dK [])) := R1.plus hD trivial
      refine dc_it wk (fun i H' => ∃ (ι' : Io) (S' : Sto) (acc : List (Key × Wv)) (accV : List (Key × V)), Evo ι1 H1 ι' H' ∧ Rel X.K G ι' (plus Y D) S' H' ∧ H' D = some (.dK accV) ∧ RepD X.K H' ι' (plus Y D) acc accV ∧ acc.length ≤ i ∧ Post X.K G Y ι1 H1 (dcLoop F (items.drop i) acc S') Q (L2.WE W σ)) ?_ ?_ ?_ ?_
      · exact ⟨ι1, S1, [], [], evo_new ι1 hD, R1D, upd_same, .nil, Nat.le_refl _, p1⟩
      · rintro i H' _ ⟨ι', S', acc, accV, ev, _⟩
        exact hG ι' H' ev
      · rintro i xv H' H'' hi2 ⟨ι', S', acc, accV, ev, R', hD', ra, hl, pp⟩ ⟨rfl, hx⟩
        obtain ⟨w, hw, rw1⟩ := rl.getV hx
        have hlt : i < items.length := by omega
        have ed : items.drop i = w :: items.drop (i + 1) := by
          rw [List.drop_eq_getElem_cons hlt]
          rw [List.getElem?_eq_getElem hlt] at hw
          cases hw; rfl
        rw [ed] at pp
        have rsw : RepS X.K H'' ι' (plus Y D) (wipeW σd vs) (wipe σ vs) := ((((rs.evo e1).plus hD).evo ev).wipe vs)
        have rwv : RepV X.K H'' ι' (plus Y D) w xv := (rw1.plus hD).evo ev
        obtain ⟨S'', hh⟩ := dcLoop_cons pp
        rcases hh with ⟨y, z, k, eF, ek, pp⟩ | ⟨eF, pp⟩
        · rw [← hF] at eF
          obtain ⟨σ', S2, ha, hcase⟩ := dcF_ok eF
          refine asgG vs g w xv _ σ' _ _ hg ha rwv rsw fun σ2 rs2 ag => ⟨wipe_agree ag, ?_⟩
          rcases hcase with ⟨y', z', S3, hc, hk, he, eq⟩ | ⟨_, _, eq⟩
          · cases eq
            refine ht σ2 H'' _ ι' (plus Y D) S' σ' true S2 R' rs2 hc fun ι3 H3 e3 R3 => ?_
            rw [if_pos rfl]
            refine ⟨ι3, plus Y D, S2, σ', R3, rs2.evo e3, ?_⟩
            rw [hk]
            intro ι4 H4 yv e4 R4 r4
            refine ⟨ι4, plus Y D, S3, σ', R4, (rs2.evo e3).evo e4, ?_⟩
            rw [he]
            intro ι5 H5 zv e5 R5 r5
            have e35 := (e3.trans e4).trans e5
            have hD5 := keepD R' e35 hD' (fun _ z => by cases z)
            have hl4 : accV.length < sizeLine := by rw [← ra.length]; omega
            refine ⟨accV, k, keyW_V r4 ek, hD5, hl4, ι5, S'', putW acc k z, putK accV k zv, evo_D (ev.trans e35) hD, ?_, upd_same, ?_, ?_, pp⟩
            · obtain ⟨n1, n2⟩ := codeO_dK hD5
              exact R5.updY trivial plus_self n1 n2
            · exact (putW_V r5 (ra.evo e35)).updY plus_self
            · exact Nat.le_trans (putW_len _ _ _) (Nat.succ_le_succ hl)
          · cases eq
        · rw [← hF] at eF
          obtain ⟨σ', S2, ha, hcase⟩ := dcF_ok eF
          refine asgG vs g w xv _ σ' _ _ hg ha rwv rsw fun σ2 rs2 ag => ⟨wipe_agree ag, ?_⟩
          rcases hcase with ⟨y', z', S3, hc, hk, he, eq⟩ | ⟨hc, rfl, _⟩
          · cases eq
          · refine ht σ2 H'' _ ι' (plus Y D) S' σ' false S'' R' rs2 hc fun ι3 H3 e3 R3 => ?_
            rw [if_neg Bool.false_ne_true]
            exact ⟨ι3, S'', acc, accV, ev.trans e3, R3, keepD R' e3 hD' (fun _ z => by cases z), ra.evo e3, Nat.le_succ_of_le hl, pp⟩
      · rintro H' ⟨ι', S', acc, accV, ev, R', hD', ra, hl, pp⟩
        rw [← ll, List.drop_length] at pp
        refine pp ι' H' _ ev (R'.less plus_less) (.dct hD' ?_ (ra.less plus_less))
        exact ⟨fun z => R1.yn z hD, fun i z => R'.ny i D z plus_self⟩
theorem e_dc (C : XOk X G T cl lv N sc fn kd W) {g : Tg} {fi fc fk fe : Sl → Sto → Res} {tt : TT} {kx elt tg iter : Expr} {ifs : List Expr} {pos : Pos} (hb : blkN N sc scope own = true) (hg : inOwn (own.map (·.2)) g = true) (hns : noSet iter = true) (ht : TtOk X G tt fc)
    (hi : PI X tg iter (tI X.K G (fun σ S => (fi σ S).bind itK) W))
    (hgt : ∀ X' : Cx, X'.K = X.K → XOk X' G T cl lv N (relN sc scope.names) (blkF scope) kd (fun _ _ _ _ => False) → PG X' tg (tgT X.K g))
    (htt : ∀ X' : Cx, X'.K = X.K → XOk X' G T cl lv N (relN sc scope.names) (blkF scope) kd (fun _ _ _ _ => False) → PTs X' ifs tt)
    (htk : ∀ X' : Cx, X'.K = X.K → XOk X' G T cl lv N (relN sc scope.names) (blkF scope) kd (fun _ _ _ _ => False) → PE X' kx (tE X.K G fk (fun _ _ _ _ => False)))
    (hte : ∀ X' : Cx, X'.K = X.K → XOk X' G T cl lv N (relN sc scope.names) (blkF scope) kd (fun _ _ _ _ => False) → PE X' elt (tE X.K G fe (fun _ _ _ _ => False))) :
    PE X (.DictComp kx elt [⟨tg, iter, ifs, 0⟩] scope pos) (tE X.K G (fun σ S => (fi σ S).bind fun x S => match itW x with | some items => dcLoop (dcF g fc fk fe (wipeW σ (own.map (·.2)))) items [] S | none => .bad) W) := by
  refine (pe_dc C.calm (by rw [C.hN]; exact C.nd) hi (C.blkOk hb) (fun s H Cc cl' fp => hgt _ rfl (C.blk hb s H Cc cl' fp)) (fun s H Cc cl' fp => htt _ rfl (C.blk hb s H Cc cl' fp)) (fun s H Cc cl' fp => htk _ rfl (C.blk hb s H Cc cl' fp)) (fun s H Cc cl' fp => hte _ rfl (C.blk hb s H Cc cl' fp)) (noFold hns)).imp fun σ H Q q => ?_
  exact dcW hg ht q
end
end Dy

end
section
set_option Elab.async false
set_option linter.all false
set_option maxRecDepth 100000
set_option maxHeartbeats 400000
/-! Dy, part H: any over a text's signs; lambdas that are told. -/
namespace Dy
open PySem PySem.Spec PyProof.Rows L2

/-! ### a table grows -/
section
variable {K : PySem.W.Frag} {G : Glob} {ι : Io} {Y : Addr → Prop} {S : Sto} {H H1 : Hp} {P : Addr}
/-- H1 is H but for the table at P, and what is new -/
def GrowP (P : Addr) (H H1 : Hp) : Prop := (∀ b, b ≠ P → H b ≠ none → H1 b = H b) ∧ (∃ ps, H P = some (.tbl ps)) ∧ ∃ ps, H1 P = some (.tbl ps)
theorem GrowP.evo (g : GrowP P H H1) (ι : Io) : Evo ι H ι H1 where
  keep := fun a o e _ n => by
    have hne : a ≠ P := fun z => by
      obtain ⟨ps, hp⟩ := g.2.1
      rw [z, hp] at e
      exact n ps (Option.some.inj e).symm
    rw [g.1 a hne (by rw [e]; simp)]; exact e
  ext := fun _ _ e => e
  new := fun _ _ e => .inl e
  stay := fun a n => by
    by_cases z : a = P
    · obtain ⟨ps, hp⟩ := g.2.2
      rw [z, hp]; simp
    · rw [g.1 a z n]; exact n
theorem GrowP.rel (g : GrowP P H H1) (R : Rel K G ι Y S H) (ht : LamX.Tabs G.tabs H1) (hg : ∀ Q ∈ G.gens, GxR.TabG H1 Q) : Rel K G ι Y S H1 where
  inj := R.inj
  lt := R.lt
  obj := fun i u e => by
    obtain ⟨a, ho, h1, h2, h3⟩ := R.obj i u e
    have hne : a ≠ P := fun z => by
      obtain ⟨ps, hp⟩ := g.2.1
      rw [z, hp] at h2
      exact h3.notTbl ps (Option.some.inj h2).symm
    exact ⟨a, ho, h1, by rw [g.1 a hne (by rw [h2]; simp)]; exact h2, h3.evo (g.evo ι)⟩
  yt := fun a h => IsLD.keep (g.evo ι) (R.ni h) (R.yt a h)
  ny := R.ny
  tabs := ht
  gens := hg
/-- a table of a generator expression's def grows -/
theorem tabbed_rel (R : Rel K G ι Y S H) (hP : P ∈ G.gens) (hd : ∀ p ∈ G.tabs, p.1 ≠ P) (t : GxR.Tabbed P H H1) : GrowP P H H1 ∧ Rel K G ι Y S H1 := by
  obtain ⟨ps, h1, h2⟩ := R.gens P hP
  obtain ⟨⟨ps', h3, h4⟩, h5⟩ := t
  have g : GrowP P H H1 := ⟨fun b hb _ => h5 b hb, ⟨ps, h1⟩, ⟨ps', h3⟩⟩
  refine ⟨g, g.rel R (fun p hp => ?_) fun Q hQ => ?_⟩
  · obtain ⟨qs, a1, a2, a3⟩ := R.tabs p hp
    refine ⟨qs, by rw [h5 _ (hd p hp)]; exact a1, a2, fun pos cv hc => ?_⟩
    obtain ⟨c, e1, e2⟩ := a3 pos cv hc
    refine ⟨c, e1, ?_⟩
    rw [h5 c (fun z => by rw [z, h1] at e2; exact LamX.codeO_ne ps (Option.some.inj e2).symm)]
    exact e2
  · by_cases z : Q = P
    · rw [z]; exact ⟨ps', h3, h4⟩
    · obtain ⟨qs, a1, a2⟩ := R.gens Q hQ
      exact ⟨qs, by rw [h5 Q z]; exact a1, a2⟩
end

/-! ### any(x not in '..' for x in text) -/
def genB (scope : Scope) (x : Str) : Bool :=
  decide (scope.kind = .function) && !scope.isCoroutine && (scope.names.all fun y => !decide (y.2 = .cell) && !decide (y.2 = .free)) && decide (scope.names.lookup (".0" : Str) = some NameKind.local) && decide (scope.names.lookup x = some .local)
theorem genB_by {scope : Scope} {x : Str} (h : genB scope x = true) (env : Env) : GxR.GenS env scope x := by
  unfold genB at h
  simp only [Bool.and_eq_true, Bool.not_eq_true', decide_eq_true_eq, decide_eq_false_iff_not, List.all_eq_true] at h
  obtain ⟨⟨⟨⟨h1, h2⟩, h3⟩, h4⟩, h5⟩ := h
  exact ⟨h1, h2, fun y hy => (h3 y hy).1, h4, h5, fun y hy e => absurd e (h3 y hy).2⟩
def noLst : Expr → Bool
  | .Set .. => false
  | .List .. => false
  | _ => true
theorem noGen {e : Expr} {env : Env} (h : noLst e = true) : ∀ v, genFold e env v = pure v := by
  cases e <;> first | (intro x; rfl) | cases h
theorem elt_notIn {prog : Program} {w : World} {scope : Scope} {x z : Str} {j : Nat} {p1 p2 p3 : Pos} (hk : scope.kind = .function) (hl : scope.names.lookup x = some .local) (hd : (x == ("__debug__" : Str)) = false) :
    GxR.EltP prog w scope x (.Compare (.Name x p1) [.NotIn] [.Constant (.str z) j p2] p3) (fun c => !decide (c ∈ z.cps.toList)) := by
  intro cenv A' E' c t s₂ m₂ hs hn hm
  refine wpAny_Compare1 ?_
  refine wpAny_Name (wpAny_loadName_local (by rw [hs]; exact hk) (show cenv.scope.names.lookup x = some .local by rw [hs]; exact hl) hn hm ?_) hd
  refine Calls.Constant_str ?_
  exact PyProof.Rows.notIn_str ⟨congrArg Value.bool (congrArg Bool.not (PySem.StrLaws.found_one z c)), GxR.keeps_tok _ _⟩
section
variable {X : Cx} {G : Glob} {T : GT} {cl : Clr} {lv : Nat} {N : List Str} {sc : List (Str × NameKind)} {fn : Str → Bool} {W : WX}
theorem e_anyOut (C : XOk X G T cl lv N sc fn .gen W) {f : Sl → Sto → Res} {z x : Str} {j : Nat} {iter : Expr} {p gpos px p1 p2 p3 pos : Pos} {scope : Scope} (hx : isGl sc "any" = true) (hb : T.bis.contains "any" = true) (hS : genB scope x = true) (hxn : okN x = true) (hn : noLst iter = true) (he : PE X iter (tE X.K G f W)) :
    PE X (.Call (.Name "any" p) [.GeneratorExp (.Compare (.Name x p1) [.NotIn] [.Constant (.str z) j p2] p3) [⟨.Name x px, iter, [], 0⟩] scope gpos] [] pos)
      (tE X.K G (fun σ S => (f σ S).bind fun v S => match v with | .str a => .ok (.bl (a.cps.toList.any fun c => !(decide (c ∈ z.cps.toList)))) S | _ => .bad) W) := by
  obtain ⟨gl, d, nn⟩ := C.gl hx
  obtain ⟨c, P, hc, TB, hP, hd⟩ := C.kd
  have GS := genB_by hS X.env
  refine (GxR.pe_anyS C.room gl (C.g.bis _ hb) TB hc GS he (elt_notIn GS.kind GS.loc (okN_d hxn).1) (noGen hn)).imp fun σ H Q q => ?_
  obtain ⟨ι, Y, S, σd, R, rs, pp⟩ := q
  refine ⟨ι, Y, S, σd, R, rs, pp.bind.mono ?_ idE⟩
  rintro v H' ⟨ι1, w, S1, e, R1, r1, p1'⟩
  cases w with
  | str a =>
    cases r1.str_eq
    refine ⟨a, rfl, R1.gens P hP, fun H2 tb => ?_⟩
    obtain ⟨gr, R2⟩ := tabbed_rel R1 hP hd tb
    exact p1' ι1 H2 _ (gr.evo ι1) R2 (.bl _)
  | _ => exact p1'.elim

/-! ### a lambda that is made -/
theorem lam_make3 {Tt : List (Addr × Str)} {c P : Addr} {params : Arguments} {body : Expr} {scope : Scope} {pos : Pos} {E : Value → Shared → Prop} {Q : Value → Shared → Prop} {pins : List (Addr × Obj)} {σ : L2.St} {H : Hp} {s : Shared} (I : Inv X pins σ H s) (TB : LamX.TabB X.base X.mg c P) (hcode : X.env.code = .ref c)
    (hm : (P, X.env.qual ++ "<lambda>") ∈ Tt) (hu : ∀ p ∈ Tt, p.1 = P → p.2 = X.env.qual ++ "<lambda>") (hT : LamX.Tabs Tt H) (hdef : defaultsOf params X.env = ([], [])) (hfree : ∀ y ∈ scope.names, y.2 = .free → ∃ c, X.env.cells.lookup y.1 = some c)
    (h : ∀ (f c' : Addr) (pm ctv : Value) (H1 : Hp) (s' : Shared), Inv X pins σ H1 s' → GrowP P H H1 → LamX.Tabs Tt H1 →
      s'.heap.get? f = some (PySem.W.kla_obj "<lambda>" (X.env.qual ++ "<lambda>") params body scope (cloFrom X.env.cells scope.names []) pm c' ctv) → H1 f = none → f ∉ frs X.stack → s.heap.objs.size ≤ f → H1 c' = some (LamX.CodeO c' (X.env.qual ++ "<lambda>")) → Q (.ref f) s') :
    wpAny (model X.prog X.w) X.A (eval (.Lambda params body scope pos) X.env) Q E s := by
  obtain ⟨ps, hP, ht, ha⟩ := hT _ hm
  refine PySem.W.kla_eval hdef ?_
  have bP : s.heap.BuiltinsAt X.mg P := TB.bm.keeps I.bk
  have hP' : s.heap.get? P = some { cls := .none, data := .fields ps } := I.hok P _ hP
  have nofr : ∀ f, s.heap.objs.size ≤ f → f ∉ frs X.stack := fun f hf z => by
    rcases List.mem_cons.mp (I.stkSub _ z) with e | e
    · have h1 := I.lt
      rw [← e] at h1
      exact Nat.lt_irrefl _ (Nat.lt_of_lt_of_le h1 hf)
    · exact I.nofs hf e
  cases hc : codeAmong pos ps.toList with
  | none =>
    refine PySem.W.kla_makeFunction (mg := X.mg) (c := c) (P := P) (ps := ps) (closure_ok hfree) I.ok.glob (I.mod.glob.keeps I.bk) hcode (TB.code.keeps I.bk) hP' ht hc TB.gP bP fun c' ctv h' tk hx hge hlt hrec htb => ?_
    obtain ⟨c2, oc, vs, t, e2, hoc, hd, hv⟩ := hrec
    cases e2
    have hsz : s.heap.objs.size ≤ h'.objs.size := Nat.le_trans hge (Nat.le_of_lt hlt)
    have nC : H c' = none := I.hok.fresh hge
    have I1 := LamX.inv_table (t' := tk) (more := #[rawInt pos.line, rawInt pos.col, .ref c']) (h' := h'.push (PySem.W.kla_obj "<lambda>" (X.env.qual ++ "<lambda>") params body scope (cloFrom X.env.cells scope.names []) ((X.mg "__name__").getD .none) c' ctv)) I hP
      (fun b o hb e => Heap.get?_push_of_some _ (hx b o hb e)) (Heap.get?_push_of_some _ htb) hge ⟨oc, vs, t, Heap.get?_push_of_some _ hoc, hd, hv⟩
    have hE : ∀ b, b ≠ P → H b ≠ none → (upd (upd H P (.tbl (ps ++ #[rawInt pos.line, rawInt pos.col, .ref c']))) c' (LamX.CodeO c' (X.env.qual ++ "<lambda>"))) b = H b := fun b hb n => by
      rw [upd_ne (fun z : b = c' => n (z ▸ nC)), upd_ne hb]
    have nPc : P ≠ c' := ne_of_none hP nC
    have hcd : ∀ c0 q, H c0 = some (LamX.CodeO c0 q) → c0 ≠ P := fun c0 q e z => by
      rw [z, hP] at e
      exact LamX.codeO_ne ps (Option.some.inj e).symm
    have kc : ∀ c0 q, H c0 = some (LamX.CodeO c0 q) → (upd (upd H P (.tbl (ps ++ #[rawInt pos.line, rawInt pos.col, .ref c']))) c' (LamX.CodeO c' (X.env.qual ++ "<lambda>"))) c0 = some (LamX.CodeO c0 q) := fun c0 q e => by
      rw [hE c0 (hcd c0 q e) (by rw [e]; simp)]; exact e
    have eL : (ps ++ #[rawInt pos.line, rawInt pos.col, .ref c']).toList = ps.toList ++ [rawInt pos.line, rawInt pos.col, .ref c'] := by simp
    refine h h'.objs.size c' ((X.mg "__name__").getD .none) ctv _ _ I1 ⟨hE, ⟨ps, hP⟩, ⟨_, by rw [upd_ne nPc, upd_same]⟩⟩ (fun p hp => ?_) (Heap.get?_push_size _ rfl) ?_ (nofr _ hsz) hsz upd_same
    · by_cases hb : p.1 = P
      · rw [hu p hp hb, hb]
        refine ⟨_, by rw [upd_ne nPc, upd_same], by rw [eL]; exact PySem.TriplesOk_snoc _ _ _ _ ht, fun p' cv hcv => ?_⟩
        rw [eL] at hcv
        rcases LamX.among_app _ ht hcv with z | z
        · obtain ⟨c0, e1, e2⟩ := ha p' cv z
          exact ⟨c0, e1, kc _ _ e2⟩
        · exact ⟨c', z, upd_same⟩
      · obtain ⟨ps', a1, a2, a3⟩ := hT p hp
        refine ⟨ps', by rw [hE _ hb (by rw [a1]; simp)]; exact a1, a2, fun p' cv hcv => ?_⟩
        obtain ⟨c0, e1, e2⟩ := a3 p' cv hcv
        exact ⟨c0, e1, kc _ _ e2⟩
    · have n1 : h'.objs.size ≠ c' := Nat.ne_of_gt hlt
      have n2 : h'.objs.size ≠ P := Nat.ne_of_gt (Nat.lt_of_lt_of_le (Heap.lt_size hP') hsz)
      rw [upd_ne n1, upd_ne n2]
      exact I.hok.fresh hsz
  | some cv =>
    obtain ⟨c', e, hco⟩ := ha pos cv hc
    subst e
    refine PySem.W.kla_makeFunctionHit (mg := X.mg) (c := c) (P := P) (ps := ps) (closure_ok hfree) I.ok.glob (I.mod.glob.keeps I.bk) hcode (TB.code.keeps I.bk) hP' ht hc bP fun ctv h' tk hx hsz => ?_
    have I1 : Inv X pins σ H { s with heap := h'.push (PySem.W.kla_obj "<lambda>" (X.env.qual ++ "<lambda>") params body scope (cloFrom X.env.cells scope.names []) ((X.mg "__name__").getD .none) c' ctv), toks := tk } := I.kept fun b o e => Heap.get?_push_of_some _ (hx b o e)
    exact h h'.objs.size c' ((X.mg "__name__").getD .none) ctv H _ I1 ⟨fun _ _ _ => rfl, ⟨ps, hP⟩, ⟨ps, hP⟩⟩ hT (Heap.get?_push_size _ rfl) (I.hok.fresh hsz) (nofr _ hsz) hsz hco

theorem lam_make4 {Tt : List (Addr × Str)} {c P : Addr} {params : Arguments} {body : Expr} {scope : Scope} {pos : Pos} {E : Value → Shared → Prop} {Q : Value → Shared → Prop} (φ : Addr → Addr → Heap → Prop) (hφ : ∀ (f c' : Addr) (pm ctv : Value) (h : Heap), h.get? f = some (PySem.W.kla_obj "<lambda>" (X.env.qual ++ "<lambda>") params body scope (cloFrom X.env.cells scope.names []) pm c' ctv) → φ f c' h)
    (hst : ∀ (f c' : Addr) (h1 h2 : Heap), φ f c' h1 → (∀ o, h1.get? f = some o → h2.get? f = some o) → φ f c' h2) {pins : List (Addr × Obj)} {σ : L2.St} {H : Hp} {s : Shared} (I : Inv X pins σ H s) (TB : LamX.TabB X.base X.mg c P) (hcode : X.env.code = .ref c)
    (hm : (P, X.env.qual ++ "<lambda>") ∈ Tt) (hu : ∀ p ∈ Tt, p.1 = P → p.2 = X.env.qual ++ "<lambda>") (hT : LamX.Tabs Tt H) (hdef : defaultsOf params X.env = ([], [])) (hfree : ∀ y ∈ scope.names, y.2 = .free → ∃ c, X.env.cells.lookup y.1 = some c)
    (h : ∀ (f c' : Addr) (H1 : Hp) (s' : Shared), Inv X pins σ (upd H1 f (.ext (φ f c'))) s' → GrowP P H H1 → LamX.Tabs Tt H1 → H1 f = none → H1 c' = some (LamX.CodeO c' (X.env.qual ++ "<lambda>")) → Q (.ref f) s') :
    wpAny (model X.prog X.w) X.A (eval (.Lambda params body scope pos) X.env) Q E s := by
  obtain ⟨ps, hP, ht, ha⟩ := hT _ hm
  refine PySem.W.kla_eval hdef ?_
  have bP : s.heap.BuiltinsAt X.mg P := TB.bm.keeps I.bk
  have hP' : s.heap.get? P = some { cls := .none, data := .fields ps } := I.hok P _ hP
  have nofr : ∀ f, s.heap.objs.size ≤ f → f ∉ frs X.stack := fun f hf z => by
    rcases List.mem_cons.mp (I.stkSub _ z) with e | e
    · have h1 := I.lt
      rw [← e] at h1
      exact Nat.lt_irrefl _ (Nat.lt_of_lt_of_le h1 hf)
    · exact I.nofs hf e
  cases hc : codeAmong pos ps.toList with
  | none =>
    refine PySem.W.kla_makeFunction (mg := X.mg) (c := c) (P := P) (ps := ps) (closure_ok hfree) I.ok.glob (I.mod.glob.keeps I.bk) hcode (TB.code.keeps I.bk) hP' ht hc TB.gP bP fun c' ctv h' tk hx hge hlt hrec htb => ?_
    obtain ⟨c2, oc, vs, t, e2, hoc, hd, hv⟩ := hrec
    cases e2
    have hsz : s.heap.objs.size ≤ h'.objs.size := Nat.le_trans hge (Nat.le_of_lt hlt)
    have nC : H c' = none := I.hok.fresh hge
    have I0 := LamX.inv_table (t' := tk) (more := #[rawInt pos.line, rawInt pos.col, .ref c']) (h' := h') I hP hx htb hge ⟨oc, vs, t, hoc, hd, hv⟩
    have I1 := I0.laid (t' := tk) (h' := h'.push (PySem.W.kla_obj "<lambda>" (X.env.qual ++ "<lambda>") params body scope (cloFrom X.env.cells scope.names []) ((X.mg "__name__").getD .none) c' ctv)) (a := h'.objs.size) (o := .ext (φ h'.objs.size c'))
      (fun b o e => Heap.get?_push_of_some _ e) (Nat.le_refl _) ⟨hφ _ _ _ _ _ (Heap.get?_push_size _ rfl), ⟨_, Heap.get?_push_size _ rfl⟩, hst _ _⟩
    have hE : ∀ b, b ≠ P → H b ≠ none → (upd (upd H P (.tbl (ps ++ #[rawInt pos.line, rawInt pos.col, .ref c']))) c' (LamX.CodeO c' (X.env.qual ++ "<lambda>"))) b = H b := fun b hb n => by
      rw [upd_ne (fun z : b = c' => n (z ▸ nC)), upd_ne hb]
    have nPc : P ≠ c' := ne_of_none hP nC
    have hcd : ∀ c0 q, H c0 = some (LamX.CodeO c0 q) → c0 ≠ P := fun c0 q e z => by
      rw [z, hP] at e
      exact LamX.codeO_ne ps (Option.some.inj e).symm
    have kc : ∀ c0 q, H c0 = some (LamX.CodeO c0 q) → (upd (upd H P (.tbl (ps ++ #[rawInt pos.line, rawInt pos.col, .ref c']))) c' (LamX.CodeO c' (X.env.qual ++ "<lambda>"))) c0 = some (LamX.CodeO c0 q) := fun c0 q e => by
      rw [hE c0 (hcd c0 q e) (by rw [e]; simp)]; exact e
    have eL : (ps ++ #[rawInt pos.line, rawInt pos.col, .ref c']).toList = ps.toList ++ [rawInt pos.line, rawInt pos.col, .ref c'] := by simp
    refine h h'.objs.size c' _ _ I1 ⟨hE, ⟨ps, hP⟩, ⟨_, by rw [upd_ne nPc, upd_same]⟩⟩ (fun p hp => ?_) ?_ upd_same
    · by_cases hb : p.1 = P
      · rw [hu p hp hb, hb]
        refine ⟨_, by rw [upd_ne nPc, upd_same], by rw [eL]; exact PySem.TriplesOk_snoc _ _ _ _ ht, fun p' cv hcv => ?_⟩
        rw [eL] at hcv
        rcases LamX.among_app _ ht hcv with z | z
        · obtain ⟨c0, e1, e2⟩ := ha p' cv z
          exact ⟨c0, e1, kc _ _ e2⟩
        · exact ⟨c', z, upd_same⟩
      · obtain ⟨ps', a1, a2, a3⟩ := hT p hp
        refine ⟨ps', by rw [hE _ hb (by rw [a1]; simp)]; exact a1, a2, fun p' cv hcv => ?_⟩
        obtain ⟨c0, e1, e2⟩ := a3 p' cv hcv
        exact ⟨c0, e1, kc _ _ e2⟩
    · have n1 : h'.objs.size ≠ c' := Nat.ne_of_gt hlt
      have n2 : h'.objs.size ≠ P := Nat.ne_of_gt (Nat.lt_of_lt_of_le (Heap.lt_size hP') hsz)
      rw [upd_ne n1, upd_ne n2]
      exact I.hok.fresh hsz
  | some cv =>
    obtain ⟨c', e, hco⟩ := ha pos cv hc
    subst e
    refine PySem.W.kla_makeFunctionHit (mg := X.mg) (c := c) (P := P) (ps := ps) (closure_ok hfree) I.ok.glob (I.mod.glob.keeps I.bk) hcode (TB.code.keeps I.bk) hP' ht hc bP fun ctv h' tk hx hsz => ?_
    have I0 : Inv X pins σ H { s with heap := h', toks := tk } := I.kept fun b o e => hx b o e
    have I1 := I0.laid (t' := tk) (h' := h'.push (PySem.W.kla_obj "<lambda>" (X.env.qual ++ "<lambda>") params body scope (cloFrom X.env.cells scope.names []) ((X.mg "__name__").getD .none) c' ctv)) (a := h'.objs.size) (o := .ext (φ h'.objs.size c'))
      (fun b o e => Heap.get?_push_of_some _ e) (Nat.le_refl _) ⟨hφ _ _ _ _ _ (Heap.get?_push_size _ rfl), ⟨_, Heap.get?_push_size _ rfl⟩, hst _ _⟩
    exact h h'.objs.size c' H _ I1 ⟨fun _ _ _ => rfl, ⟨ps, hP⟩, ⟨ps, hP⟩⟩ hT (I.hok.fresh hsz) hco
def lamN (sc : List (Str × NameKind)) (scope : Scope) : Bool := LamX.lamSB { kind := .function, names := sc, isGenerator := false, isCoroutine := false } scope
theorem XOk.lamOk {kd : Kd} {scope : Scope} (C : XOk X G T cl lv N sc fn kd W) (h : lamN sc scope = true) : LamX.LamS X.env.scope scope := by
  refine LamX.lamS_by ?_
  unfold lamN LamX.lamSB at h
  unfold LamX.lamSB
  rw [C.sc]
  exact h
theorem XOk.lam {kd : Kd} {scope : Scope} (C : XOk X G T cl lv N sc fn kd W) (h : lamN sc scope = true) {A : Around} {outer : List Env} {s : Shared} {H : Hp} {E : XK} {f c' : Addr} (hr : Room (lv + 2) (A.deeper (LamX.lamEnv X scope s.heap.objs.size f c'))) :
    XOk (LamX.lamCx X A outer s H E scope f c') G T cl lv N scope.names (fun _ => false) .no (fun cls d _ H => E cls d H) where
  g := C.g
  hN := C.hN
  nd := C.nd
  kind := (C.lamOk h).kind
  sc := rfl
  fn := rfl
  calm := rfl
  room := hr
  tk := takes_of rfl rfl rfl rfl
  kd := trivial
/-- x(lambda: body), told -/
theorem e_told (C : XOk X G T cl lv N sc fn .lam W) {f : Sl → Sto → Res} {x e : Str} {p lpos pos : Pos} {params : Arguments} {body : Expr} {scope : Scope} (hx : isGl sc x = true) (ht : (x, e) ∈ T.tolds) (hL : lamN sc scope = true) (hp : noArgs params = true)
    (hbody : ∀ (X' : Cx) (W' : WX), X'.K = X.K → XOk X' G T cl lv N scope.names (fun _ => false) .no W' → PE X' body (tE X.K G f W')) :
    PE X (.Call (.Name x p) [.Lambda params body scope lpos] [] pos) (tE X.K G (fun σ S => toldW e (f σ S)) W) := by
  obtain ⟨gl, d, nn⟩ := C.gl hx
  obtain ⟨cc, P, hcode, TB, hmT, hu, hgn, hroom⟩ := C.kd
  obtain ⟨a, g, CS, pg, bg, sg, dV, kV, doc, pm, cdv, ct, oc, an, od, osl, Ng, j, p1, p2, p3, p4, p5, p6, p7, p8, h1, h2, h3, h4, h5, h6, h7, h8, h9, h10, rfl, h12, h13, h14, h15, h16⟩ := C.g.tolds x e ht
  have hpa := noArgs_eq hp
  subst hpa
  have L := C.lamOk hL
  refine ⟨fun pins s σ H Q I h => ?_⟩
  obtain ⟨ι, Y, S, σd, R, rs, pp⟩ := h
  refine wpAny_Call_Name_kw (ld_glob I gl h1 ?_ d)
  refine PySem.W.callWith_K (h₀ := X.base) I.ok.mod.kin h2 ?_ (by rfl) (by rfl)
  show wpAny _ _ (spliced ((false, eval (.Lambda ⟨[], [], none, [], [], none, []⟩ body scope lpos) X.env) :: backTo pos (starEach [] X.env))) _ _ s
  refine Calls.spliced_cons (lam_make3 I TB hcode hmT hu R.tabs rfl (L.has I.ok) fun fa c' pm' ctv H1 s' I1 gr T1 hf hfn hfr hfs hco => ?_)
  refine Calls.spliced_nil ⟨I1.kIn, ?_⟩
  have R1 : Rel X.K G ι Y S H1 := gr.rel R T1 fun Q' hQ => by
    obtain ⟨qs, a1, a2⟩ := R.gens Q' hQ
    exact ⟨qs, by rw [gr.1 Q' (fun z => hgn (z ▸ hQ)) (by rw [a1]; simp)]; exact a1, a2⟩
  have rs1 := rs.evo (gr.evo ι)
  have pp1 := Post.evo pp (gr.evo ι)
  have told : LamX.TTold X.K CS e (fun E H' Q' => tE X.K G f (fun cls d _ H => E cls d H) σ H' Q') H1 Q := by
    refine ⟨ι, Y, S, σd, R1, rs1, ?_⟩
    have pp1 : Post X.K G Y ι H1 (toldW e (f σd S)) Q (L2.WE W σ) := pp1
    cases er : f σd S with
    | ok w S1 => rw [er] at pp1; exact pp1
    | bad => rw [er] at pp1; exact pp1.elim
    | exc c S1 =>
      rw [er] at pp1
      by_cases hce : c = e
      · have pp1 : Post X.K G Y ι H1 (if c = e then .ok (.str e) S1 else .bad) Q (L2.WE W σ) := pp1
        rw [if_pos hce] at pp1
        subst hce
        exact ⟨CS, h15, fun ι' H' ev R' => ⟨true, h16, fun _ => pp1 ι' H' _ ev R' (.str c), fun z => by cases z⟩⟩
      · have pp1 : Post X.K G Y ι H1 (if c = e then .ok (.str e) S1 else .bad) Q (L2.WE W σ) := pp1
        rw [if_neg hce] at pp1
        exact pp1.elim
  have hG : LamX.GivesTo X Ng x sg g cdv _ a (X.env.qual ++ "<lambda>") (LamX.TTold X.K CS e) := LamX.told_gives (p1 := p1) (p2 := p2) (p3 := p3) (p4 := p4) (p5 := p5) (p6 := p6) (p7 := p7) (p8 := p8) (j := j) h12 h13 h14 fun f => rfl
  have rc : codeAny (model X.prog X.w) X.A (.call (.ref g) ⟨[.ref fa], []⟩) (CR C8.CX0 X.stack X.prog X.w H1 s' Q C8.E0) s' := by
    refine LamX.run_ofS (N := Ng) (ps := [a]) (us := [.ref fa]) (vs := [.ref fa]) h3 h4 h6 hroom I1.env0 (h5 s' [.ref fa] I1.kIn rfl) (.cons rfl .nil) rfl fun hr' => ?_
    obtain ⟨t', ht', hq'⟩ := hG fa c' s' H1 Q (fun E H' Q' => tE X.K G f (fun cls d _ H => E cls d H) σ H' Q') (fun W' pn xe E q1 q2 tk hW => LamX.pe_act (i := 0) I1 L hf hfn hfr rfl tk hW hr' (fun A outer s H hr2 => hbody _ _ rfl (C.lam hL hr2)) h7 h8 h9 h10) hco told
    exact ⟨t', ht'.nox, hq'⟩
  refine wpAny_call (codeAny_mono rc fun r s2 hq => ?_)
  cases r with
  | error e => exact (show False from hq).elim
  | ok fl =>
    cases fl with
    | ret u => exact I1.after hq
    | next => exact False.elim hq
    | brk => exact False.elim hq
    | cont => exact False.elim hq

/-! ### a lambda that captures nothing, kept and told later -/
theorem closed_clo {cells : List (Str × Addr)} : ∀ {names : List (Str × NameKind)} {acc : List (Str × Addr)}, (∀ y ∈ names, y.2 ≠ .free) → cloFrom cells names acc = acc
  | [], _, _ => rfl
  | (n, k) :: r, acc, h => by
    unfold cloFrom
    have hk : (k == NameKind.free) = false := beq_false_of_ne (h (n, k) List.mem_cons_self)
    rw [hk]
    exact closed_clo fun y hy => h y (List.mem_cons_of_mem _ hy)
structure Closed (scope : Scope) : Prop where
  kind : scope.kind = .function
  co : scope.isCoroutine = false
  gen : scope.isGenerator = false
  no : ∀ y ∈ scope.names, y.2 ≠ .local ∧ y.2 ≠ .cell ∧ y.2 ≠ .free
theorem closed_by {scope : Scope} (h : closedB scope = true) : Closed scope := by
  unfold closedB at h
  simp only [Bool.and_eq_true, Bool.not_eq_true', decide_eq_true_eq, decide_eq_false_iff_not, List.all_eq_true] at h
  obtain ⟨h1, h2, h3, h4⟩ := h
  exact ⟨h1, h2, h3, h4⟩
theorem e_lam (C : XOk X G T cl lv N sc fn .lam W) {k : Nat} {params : Arguments} {body : Expr} {scope : Scope} {pos : Pos} (h : T.lamc k (.Lambda params body scope pos) = true) :
    PE X (.Lambda params body scope pos) (tE X.K G (fun _ S => .ok (.ref S.length) (S ++ [.lam k])) W) := by
  obtain ⟨params', body', scope', p', e, hp, hcl, hB⟩ := C.g.lamc k _ h
  cases e
  obtain ⟨cc, P, hcode, TB, hmT, hu, hgn, hroom⟩ := C.kd
  have cs := closed_by hcl
  have hpa := noArgs_eq hp
  refine ⟨fun pins s σ H Q I h => ?_⟩
  obtain ⟨ι, Y, S, σd, R, rs, pp⟩ := h
  have hdef : defaultsOf params X.env = ([], []) := by rw [hpa]; rfl
  refine lam_make4 (fun f c' h => LamAt G k f c' (X.env.qual ++ "<lambda>") h) (fun f c' pm ctv h e => ⟨params, body, scope, pm, ctv, hp, hcl, hB, by rw [e, closed_clo fun y hy => (cs.no y hy).2.2]⟩) (fun f c' h1 h2 ⟨a1, a2, a3, a4, a5, b1, b2, b3, b4⟩ st => ⟨a1, a2, a3, a4, a5, b1, b2, b3, st _ b4⟩)
    I TB hcode hmT hu R.tabs hdef (fun y hy z => absurd z (cs.no y hy).2.2) fun f c' H1 s' I1 gr T1 hfn hco => ?_
  have R1 : Rel X.K G ι Y S H1 := gr.rel R T1 fun Q' hQ => by
    obtain ⟨qs, a1, a2⟩ := R.gens Q' hQ
    exact ⟨qs, by rw [gr.1 Q' (fun z => hgn (z ▸ hQ)) (by rw [a1]; simp)]; exact a1, a2⟩
  have fc : Free ι Y c' := by
    have nof : c' ≠ f := fun z => by rw [z, hfn] at hco; cases hco
    have hok := I1.hok c' _ (by rw [upd_ne nof]; exact hco)
    obtain ⟨⟨oc, vs, t, g1, g2, g3⟩, _, _⟩ := hok
    refine ⟨fun y => ?_, fun i z => ?_⟩
    · obtain ⟨o, y1, y2⟩ := R1.yt c' y
      rw [hco] at y1
      cases y1
      exact y2
    · obtain ⟨so, hso⟩ : ∃ so, S[i]? = some so := ⟨_, List.getElem?_eq_getElem (R1.lt i c' z)⟩
      obtain ⟨a, ho, b1, b2, b3⟩ := R1.obj i so hso
      rw [z] at b1
      cases b1
      rw [hco] at b2
      have b2 := Option.some.inj b2
      cases b3 with
      | @lam k2 c2 q2 b5 b6 =>
        have z := I1.hok c' (.ext (LamAt G k2 c' c2 q2)) (by rw [upd_ne nof, hco, b2])
        obtain ⟨hl, _, _⟩ := z
        obtain ⟨_, _, _, _, _, _, _, _, g4⟩ := hl
        rw [g1] at g4
        cases g4
        cases g2
      | lst _ => unfold LamX.CodeO at b2; cases b2
      | dct _ => unfold LamX.CodeO at b2; cases b2
      | ins _ _ => unfold LamX.CodeO at b2; cases b2
  have E2 := (gr.evo ι).trans (evo_ext R1 hfn (o := .ext (LamAt G k f c' (X.env.qual ++ "<lambda>"))))
  exact ⟨.ref f, _, I1, rfl, pp _ _ _ E2 (R1.push hfn (.lam hco fc)) (.ref (by unfold ext; rw [if_pos rfl]))⟩
theorem toldW_post {K : PySem.W.Frag} {Y : Addr → Prop} {ι : Io} {H : Hp} {r : Res} {Q : VK} {E : XK} {e : Str} {CS : Addr} (hc : G.cls e = some CS) (hx : PySem.W.exmOne K (.ref CS) (.ref CS) = some true) (p : Post K G Y ι H (toldW e r) Q E) :
    Post K G Y ι H r Q (fun cls _ H' => ∃ b, PySem.W.exmOne K cls (.ref CS) = some b ∧ (b = true → Q (.str e) H') ∧ (b = false → False)) := by
  cases r with
  | ok w S1 => exact p
  | bad => exact p.elim
  | exc c S1 =>
    have p : Post K G Y ι H (if c = e then .ok (.str e) S1 else .bad) Q E := p
    by_cases hce : c = e
    · rw [if_pos hce] at p
      subst hce
      exact ⟨CS, hc, fun ι' H' ev R' => ⟨true, hx, fun _ => p ι' H' _ ev R' (.str c), fun z => by cases z⟩⟩
    · rw [if_neg hce] at p
      exact p.elim
/-- a(), a the def's own argument, a lambda that captures nothing -/
theorem act_lam {Z : Cx} {lv : Nat} {cl : Clr} {k : Nat} {c f : Addr} {q a : Str} {E : XK} {W' : WX} {p1 p2 : Pos} (hK : Room lv Z.A)
    (hl : ∀ (A : Around) (outer : List Env) (s : Shared) (H : Hp) (Q : VK) (E : XK), Room lv A → Env0 Z.prog Z.w Z.K Z.mg Z.base A outer s H → H f = some (.ext (LamAt G k f c q)) → H c = some (LamX.CodeO c q) → spC Z.K G (cl (lamName k)) [] H Q E →
      codeAny (model Z.prog Z.w) A (.call (.ref f) ⟨[], []⟩) (CR (CX Z.prog Z.w) outer Z.prog Z.w H s Q E) s)
    (tk : Takes Z W') (hW : ∀ cls d σ' H', E cls d H' → W' cls d σ' H') (hN : Z.N[0]? = some a) (hv : Vis Z.env.scope a) (hd : (a == ("__debug__" : Str)) = false) (hcd : (a == ("__classdict__" : Str)) = false) :
    PE Z (.Call (.Name a p1) [] [] p2) (fun σZ HZ Q => σZ[0]? = some (some (.ref f)) ∧ HZ c = some (LamX.CodeO c q) ∧ HZ f = some (.ext (LamAt G k f c q)) ∧ spC Z.K G (cl (lamName k)) [] HZ Q E) := by
  refine ⟨fun pinsZ sZ σZ HZ Q IZ h => ?_⟩
  obtain ⟨hs, hc, hf, hsp⟩ := h
  refine wpAny_Call_Name_kw (thn ((pe_var (pos := p1) (i := 0) hN hv hd hcd).run pinsZ sZ σZ HZ (fun v H1 => v = .ref f ∧ H1 = HZ) IZ ⟨.ref f, hs, rfl, rfl⟩) fun u s1 ⟨v, H1, I1, r1, q1⟩ => ?_)
  obtain ⟨ev, eH⟩ := q1
  subst ev
  rw [eH] at I1
  obtain rfl : u = Value.ref f := r1
  obtain ⟨⟨params, body, scope, pm, ctv, _, _, _, of1⟩, _, _⟩ := I1.hok f _ hf
  refine PySem.W.callWith_F0 ⟨_, _, _, _, of1⟩ ?_
  have rc := hl Z.A Z.stack s1 HZ Q E hK I1.env0 hf hc hsp
  have hx : Passes (CX Z.prog Z.w) Z E := passes_call tk hW
  refine wpAny_call (codeAny_mono rc fun r s' hq => ?_)
  cases r with
  | error e => exact hx pinsZ σZ HZ s1 e s' I1 hq
  | ok fl =>
    cases fl with
    | ret u => exact I1.after hq
    | next => exact False.elim hq
    | brk => exact False.elim hq
    | cont => exact False.elim hq
theorem e_toldV {kd : Kd} (C : XOk X G T cl lv N sc fn kd W) {f : Sl → Sto → Res} {x e : Str} {p pos : Pos} {b : Expr} (hx : isGl sc x = true) (ht : (x, e) ∈ T.tolds) (hs : noStar b = true) (ha : PE X b (tE X.K G f W)) :
    PE X (.Call (.Name x p) [b] [] pos) (tE X.K G (fun σ S => (f σ S).bind fun w S => match w with
      | .ref i => (match S[i]? with
        | some (.lam k) => toldW e (cl (lamName k) [] S)
        | _ => .bad)
      | _ => .bad) W) := by
  obtain ⟨gl, d, nn⟩ := C.gl hx
  obtain ⟨a, g, CS, pg, bg, sg, dV, kV, doc, pm, cdv, ct, oc, an, od, osl, Ng, j, p1, p2, p3, p4, p5, p6, p7, p8, h1, h2, h3, h4, h5, h6, h7, h8, h9, h10, rfl, h12, h13, h14, h15, h16⟩ := C.g.tolds x e ht
  refine ⟨fun pins s σ H Q I h => ?_⟩
  obtain ⟨ι, Y, S, σd, R, rs, pp⟩ := h
  refine wpAny_Call_Name_kw (ld_glob I gl h1 ?_ d)
  have se := starEach_cons (es := []) (env := X.env) hs
  have hq : tCons (tE X.K G f W) tNil σ H (fun vs H1 => ∃ (ι1 : Io) (S1 : Sto) (fa c' : Addr) (q : Str) (k : Nat), vs = [.ref fa] ∧ Rel X.K G ι1 Y S1 H1 ∧ H1 fa = some (.ext (LamAt G k fa c' q)) ∧ H1 c' = some (LamX.CodeO c' q) ∧ Post X.K G Y ι1 H1 (toldW e (cl (lamName k) [] S1)) Q (L2.WE W σ)) := by
    refine ⟨ι, Y, S, σd, R, rs, pp.bind.mono ?_ idE⟩
    rintro v H' ⟨ι1, w, S1, e1, R1, r1, q1⟩
    cases w with
    | ref i =>
      have q1 : Post X.K G Y ι1 H' (match S1[i]? with | some (.lam k) => toldW e (cl (lamName k) [] S1) | _ => .bad) Q (L2.WE W σ) := q1
      cases hS : S1[i]? with
      | none => rw [hS] at q1; exact q1.elim
      | some so =>
        rw [hS] at q1
        cases so with
        | lam k =>
          cases r1 with
          | ref hi =>
            obtain ⟨a', ho, b1, b2, b3⟩ := R1.obj i _ hS
            rw [hi] at b1
            cases b1
            cases b3 with
            | lam b5 b6 => exact ⟨ι1, S1, _, _, _, k, rfl, R1, b2, b5, q1⟩
        | _ => exact q1.elim
    | _ => exact q1.elim
  refine PySem.W.callWith_K (h₀ := X.base) I.ok.mod.kin h2 (thn ((pa_cons ha pa_nil se).run pos pins s σ H _ I hq) fun us s1 hh => ?_) se (by rfl)
  obtain ⟨vs, H1, I1, rv, ι1, S1, fa, c', q, k, rfl, R1, hf, hco, pq⟩ := hh
  refine ⟨I1.kIn, ?_⟩
  cases rv with
  | cons ru rn =>
    cases rn
    obtain rfl : _ = Value.ref fa := ru
    show wpAny _ _ (call (.ref g) [.ref fa]) _ _ _
    have told : LamX.TTold X.K CS e (fun E HZ Q' => HZ fa = some (.ext (LamAt G k fa c' q)) ∧ spC X.K G (cl (lamName k)) [] HZ Q' E) H1 Q := ⟨hf, ι1, Y, S1, [], R1, .nil, toldW_post h15 h16 pq⟩
    have hG : LamX.GivesTo X Ng x sg g cdv _ a q (LamX.TTold X.K CS e) := LamX.told_gives (p1 := p1) (p2 := p2) (p3 := p3) (p4 := p4) (p5 := p5) (p6 := p6) (p7 := p7) (p8 := p8) (j := j) h12 h13 h14 fun f => rfl
    have rc : codeAny (model X.prog X.w) X.A (.call (.ref g) ⟨[.ref fa], []⟩) (CR C8.CX0 X.stack X.prog X.w H1 s1 Q C8.E0) s1 := by
      refine LamX.run_ofS (N := Ng) (ps := [a]) (us := [.ref fa]) (vs := [.ref fa]) h3 h4 h6 C.room I1.env0 (h5 s1 [.ref fa] I1.kIn rfl) (.cons rfl .nil) rfl fun hr' => ?_
      obtain ⟨t', ht', hq'⟩ := hG fa c' s1 H1 Q _ (fun W' pn xe E q1 q2 tk hW => act_lam (Z := (cxOf C8.CX0 X.prog X.w X.K X.mg X.base Ng x sg g cdv X.A X.stack s1 H1 C8.E0).tr pn xe) (lv := lv) (cl := cl) (hr'.mono (Nat.le_succ _)) (fun A outer s H Q E => C.g.lams k A outer s H fa c' q Q E) tk hW h7 h8 h9 h10) hco told
      exact ⟨t', ht'.nox, hq'⟩
    refine wpAny_call (codeAny_mono rc fun r s2 hq => ?_)
    cases r with
    | error e => exact (show False from hq).elim
    | ok fl =>
      cases fl with
      | ret u => exact I1.after hq
      | next => exact False.elim hq
      | brk => exact False.elim hq
      | cont => exact False.elim hq
end
end Dy

end
section
set_option Elab.async false
set_option linter.all false
set_option maxRecDepth 100000
set_option maxHeartbeats 400000
/-! Dy, part I: the checker of expressions and its soundness. -/
namespace Dy
open PySem PySem.Spec PyProof.Rows L2

abbrev Scn := List (Str × NameKind)
def cstB (w : Wv) (c : Const) : Bool := match w, c with
  | .non, .none => true
  | .bl a, .bool b => decide (a = b)
  | .int a, .int b => decide (a = b)
  | .str a, .str b => decide (a = b)
  | _, _ => false
def isNonC : Expr → Bool
  | .Constant .none _ _ => true
  | _ => false
def yesE : E → Bool
  | .lit (.bl true) => true
  | _ => false
mutual
def chkG (N : List Str) (sc : Scn) (fn : Str → Bool) : Tg → Expr → Bool
  | .nm i, .Name x _ => decide (N[i]? = some x) && isLoc sc fn x
  | .tup ts, .Tuple es _ _ => chkGs N sc fn ts es
  | _, _ => false
def chkGs (N : List Str) (sc : Scn) (fn : Str → Bool) : Tg → List Expr → Bool
  | .nil, [] => true
  | .cons t ts, e :: es => noStar e && chkG N sc fn t e && chkGs N sc fn ts es
  | _, _ => false
end
mutual
def chkE (T : GT) (N : List Str) : E → Bool → Scn → (Str → Bool) → Kd → Expr → Bool
  | .var i, _, sc, _, _, x => match x with
    | .Name x _ => decide (N[i]? = some x) && isVis sc x
    | _ => false
  | .lit w, _, _, _, _, x => match x with
    | .Constant c _ _ => cstB w c
    | _ => false
  | .glob y c, _, sc, _, _, x => match x with
    | .Name x _ => decide (y = x) && (isGl sc x && decide (T.cons.lookup x = some c))
    | _ => false
  | .bin o a b, _, sc, fn, kd, x => match x with
    | .BinOp l op r _ => decide (op = bopA o) && (chkE T N a false sc fn kd l && chkE T N b false sc fn kd r)
    | _ => false
  | .neg a, _, sc, fn, kd, x => match x with
    | .UnaryOp .USub l _ => chkE T N a false sc fn kd l
    | _ => false
  | .isN a, _, sc, fn, kd, x => match x with
    | .Compare l [.Is] [r] _ => isNonC r && chkE T N a false sc fn kd l
    | _ => false
  | .notN a, _, sc, fn, kd, x => match x with
    | .Compare l [.IsNot] [r] _ => isNonC r && chkE T N a false sc fn kd l
    | _ => false
  | .cmp o a b, _, sc, fn, kd, x => match x with
    | .Compare l [op] [r] _ => decide (op = copA o) && (decide (copA o ≠ .Is ∧ copA o ≠ .IsNot) && (!behindInMarks (copA o) r && (chkE T N a false sc fn kd l && chkE T N b false sc fn kd r)))
    | _ => false
  | .chain o o' a b c, _, sc, fn, kd, x => match x with
    | .Compare l [op, op'] [m, r] _ => decide (op = copA o ∧ op' = copA o') && (decide ((copA o ≠ .Is ∧ copA o ≠ .IsNot) ∧ copA o' ≠ .Is ∧ copA o' ≠ .IsNot) && (!lastMarks [copA o, copA o'] [m, r] && (chkE T N a false sc fn kd l && (chkE T N b false sc fn kd m && chkE T N c false sc fn kd r))))
    | _ => false
  | .and a b, _, sc, fn, kd, x => match x with
    | .BoolOp .And [l, m] _ => chkE T N a false sc fn kd l && chkE T N b false sc fn kd m
    | .BoolOp .And (l :: m :: n :: rest) pos => chkE T N a false sc fn kd l && chkE T N b false sc fn kd (.BoolOp .And (m :: n :: rest) pos)
    | _ => false
  | .or a b, _, sc, fn, kd, x => match x with
    | .BoolOp .Or [l, m] _ => chkE T N a false sc fn kd l && chkE T N b false sc fn kd m
    | .BoolOp .Or (l :: m :: n :: rest) pos => chkE T N a false sc fn kd l && chkE T N b false sc fn kd (.BoolOp .Or (m :: n :: rest) pos)
    | _ => false
  | .not a, _, sc, fn, kd, x => match x with
    | .UnaryOp .Not l _ => chkE T N a false sc fn kd l
    | _ => false
  | .ite c a b, _, sc, fn, kd, x => match x with
    | .IfExp t l r _ => chkE T N c false sc fn kd t && (chkE T N a false sc fn kd l && chkE T N b false sc fn kd r)
    | _ => false
  | .tup es, _, sc, fn, kd, x => match x with
    | .Tuple as _ _ => chkL T N es sc fn kd as
    | _ => false
  | .lst es, _, sc, fn, kd, x => match x with
    | .List as _ => chkL T N es sc fn kd as
    | _ => false
  | .new es, _, sc, fn, kd, x => match x with
    | .List as _ => chkL T N es sc fn kd as
    | _ => false
  | .nil, _, _, _, _, _ => false
  | .cons _ _, _, _, _, _, _ => false
  | .idx a b, _, sc, fn, kd, x => match x with
    | .Subscript l r _ => noSl r && (chkE T N a false sc fn kd l && chkE T N b false sc fn kd r)
    | _ => false
  | .sl a lo hi, _, sc, fn, kd, x => match x with
    | .Subscript l (.Slice none none none _) _ => noB lo && (noB hi && chkE T N a false sc fn kd l)
    | .Subscript l (.Slice (some r) none none _) _ => !noB lo && (noB hi && (chkE T N a false sc fn kd l && chkE T N lo false sc fn kd r))
    | .Subscript l (.Slice none (some r) none _) _ => noB lo && (!noB hi && (chkE T N a false sc fn kd l && chkE T N hi false sc fn kd r))
    | .Subscript l (.Slice (some r) (some q) none _) _ => !noB lo && (!noB hi && (chkE T N a false sc fn kd l && (chkE T N lo false sc fn kd r && chkE T N hi false sc fn kd q)))
    | _ => false
  | .call f es, _, sc, fn, kd, x => match x with
    | .Call (.Name g _) as [] _ => decide (g = f) && (isGl sc f && (T.fns.contains f && (as.all noStar && chkL T N es sc fn kd as)))
    | _ => false
  | .bi b es, _, sc, fn, kd, x => match x with
    | .Call (.Name g _) as [] _ => decide (g = biN b) && (isGl sc (biN b) && (T.bis.contains (biN b) && (!as.isEmpty && (as.all noStar && chkL T N es sc fn kd as))))
    | _ => false
  | .mi m a es, _, sc, fn, kd, x => match x with
    | .Call (.Attribute o nm p) as [] pos => decide (nm = miN m) && (plainB o && (decide (p.endLine = pos.line) && (decide (as.length < 30) && (!as.isEmpty && (as.all noStar && (chkE T N a false sc fn kd o && chkL T N es sc fn kd as))))))
    | _ => false
  | .rng1 a, it, sc, fn, kd, x => match x with
    | .Call (.Name g _) [l] [] _ => it && (decide (g = "range") && (isGl sc "range" && (T.bis.contains "range" && (noStar l && chkE T N a false sc fn kd l))))
    | _ => false
  | .rng2 a b, it, sc, fn, kd, x => match x with
    | .Call (.Name g _) [l, r] [] _ => it && (decide (g = "range") && (isGl sc "range" && (T.bis.contains "range" && (noStar l && (noStar r && (chkE T N a false sc fn kd l && chkE T N b false sc fn kd r))))))
    | _ => false
  | .lc g it c e own, _, sc, fn, kd, x => match x with
    | .ListComp elt [⟨tg, iter, ifs, isas⟩] scope _ => decide (isas = 0) && (blkN N sc scope own && (inOwn (own.map (·.2)) g && (noSet iter && (chkE T N it true sc fn kd iter && (chkG N (relN sc scope.names) (blkF scope) g tg &&
        ((match ifs with
          | [] => yesE c
          | [t] => chkE T N c false (relN sc scope.names) (blkF scope) kd t
          | _ => false) && chkE T N e false (relN sc scope.names) (blkF scope) kd elt))))))
    | _ => false
  | .dc g it c k e own, _, sc, fn, kd, x => match x with
    | .DictComp kx elt [⟨tg, iter, ifs, isas⟩] scope _ => decide (isas = 0) && (blkN N sc scope own && (inOwn (own.map (·.2)) g && (noSet iter && (chkE T N it true sc fn kd iter && (chkG N (relN sc scope.names) (blkF scope) g tg &&
        ((match ifs with
          | [] => yesE c
          | [t] => chkE T N c false (relN sc scope.names) (blkF scope) kd t
          | _ => false) && (chkE T N k false (relN sc scope.names) (blkF scope) kd kx && chkE T N e false (relN sc scope.names) (blkF scope) kd elt)))))))
    | _ => false
  | .fmt e, _, sc, fn, kd, x => match x with
    | .FormattedValue v c none _ => decide (c = -1) && chkE T N e false sc fn kd v
    | _ => false
  | .fs es, _, sc, fn, kd, x => match x with
    | .JoinedStr (a :: b :: as) _ => chkL T N es sc fn kd (a :: b :: as)
    | _ => false
  | .anyOut e z y, _, sc, fn, kd, x => match x with
    | .Call (.Name g _) [.GeneratorExp (.Compare (.Name y1 _) [.NotIn] [.Constant (.str z') _ _] _) [⟨.Name y2 _, iter, [], isas⟩] scope _] [] _ =>
      decide (g = "any" ∧ y1 = y ∧ y2 = y ∧ z' = z ∧ isas = 0 ∧ kd = .gen) && (isGl sc "any" && (T.bis.contains "any" && (genB scope y && (okN y && (noLst iter && chkE T N e false sc fn kd iter)))))
    | _ => false
  | .told f y e, _, sc, fn, kd, x => match x with
    | .Call (.Name g _) [.Lambda params body scope _] [] _ => decide (g = f ∧ kd = .lam) && (isGl sc f && (decide ((f, y) ∈ T.tolds) && (lamN sc scope && (noArgs params && chkE T N e false scope.names (fun _ => false) .no body))))
    | _ => false
  | .lam k, _, _, _, kd, x => match x with
    | .Lambda _ _ _ _ => decide (kd = .lam) && T.lamc k x
    | _ => false
  | .toldV f y e, _, sc, fn, kd, x => match x with
    | .Call (.Name g _) [b] [] _ => decide (g = f) && (isGl sc f && (decide ((f, y) ∈ T.tolds) && (noStar b && chkE T N e false sc fn kd b)))
    | _ => false
def chkL (T : GT) (N : List Str) : E → Scn → (Str → Bool) → Kd → List Expr → Bool
  | .nil, _, _, _, as => as.isEmpty
  | .cons e es, sc, fn, kd, as => match as with
    | a :: as => noStar a && (chkE T N e false sc fn kd a && chkL T N es sc fn kd as)
    | [] => false
  | _, _, _, _, _ => false
end

/-! ### soundness -/
/-- a test, whatever its whole is where it may be anything -/
def PTo (X : Cx) (a : Expr) (t : TT) : Prop := PT X a t ∧ ∀ op es pos, a = .BoolOp op es pos → PW X a t
structure SndE (T : GT) (N : List Str) (G : Glob) (cl : Clr) (lv : Nat) (ex : E) : Prop where
  e : ∀ (sc : Scn) (fn : Str → Bool) (kd : Kd) (W : WX) (X : Cx) (a : Expr), XOk X G T cl lv N sc fn kd W → chkE T N ex false sc fn kd a = true → PE X a (tE X.K G (ev cl ex) W)
  t : ∀ (sc : Scn) (fn : Str → Bool) (kd : Kd) (W : WX) (X : Cx) (a : Expr), XOk X G T cl lv N sc fn kd W → chkE T N ex false sc fn kd a = true → PTo X a (tT X.K G (ev cl ex) W)
  i : ∀ (sc : Scn) (fn : Str → Bool) (kd : Kd) (W : WX) (X : Cx) (tg a : Expr), XOk X G T cl lv N sc fn kd W → chkE T N ex true sc fn kd a = true → PI X tg a (tI X.K G (fun σ S => (ev cl ex σ S).bind itK) W)
  l : ∀ (sc : Scn) (fn : Str → Bool) (kd : Kd) (W : WX) (X : Cx) (as : List Expr), XOk X G T cl lv N sc fn kd W → chkL T N ex sc fn kd as = true → PA X as (tL X.K G (ev cl ex) W) ∧ FsOk X G (ev cl ex) as
def plainT : Expr → Bool
  | .BoolOp .. => false
  | .Compare .. => false
  | .UnaryOp .Not _ _ => false
  | .NamedExpr .. => false
  | .IfExp .. => false
  | _ => true
theorem pto_val {X : Cx} {a : Expr} {t : TE} (ha : PE X a t) (hp : plainT a = true) : PTo X a (tB t) := by
  refine ⟨pt_val ha ?_, fun op es pos e => ?_⟩
  · intro whole
    cases a with
    | UnaryOp op x p => cases op <;> first | rfl | cases hp
    | _ => first | rfl | cases hp
  · subst e; cases hp
section
variable {T : GT} {N : List Str} {G : Glob} {cl : Clr} {lv : Nat}
theorem SndE.mk1 {e : E} (he : ∀ (sc : Scn) (fn : Str → Bool) (kd : Kd) (W : WX) (X : Cx) (a : Expr), XOk X G T cl lv N sc fn kd W → chkE T N e false sc fn kd a = true → PE X a (tE X.K G (ev cl e) W))
    (hp : ∀ sc fn kd a, chkE T N e false sc fn kd a = true → plainT a = true) (hf : ∀ sc fn kd a, chkE T N e true sc fn kd a = chkE T N e false sc fn kd a) (hl : ∀ sc fn kd as, chkL T N e sc fn kd as = false) : SndE T N G cl lv e :=
  ⟨he, fun sc fn kd W X a C h => pto_val (he sc fn kd W X a C h) (hp sc fn kd a h), fun sc fn kd W X tg a C h => i_seq (he sc fn kd W X a C (by rw [← hf]; exact h)), fun sc fn kd W X as C h => by rw [hl] at h; cases h⟩
theorem SndE.mk2 {e : E} (he : ∀ (sc : Scn) (fn : Str → Bool) (kd : Kd) (W : WX) (X : Cx) (a : Expr), XOk X G T cl lv N sc fn kd W → chkE T N e false sc fn kd a = true → PE X a (tE X.K G (ev cl e) W))
    (ht : ∀ (sc : Scn) (fn : Str → Bool) (kd : Kd) (W : WX) (X : Cx) (a : Expr), XOk X G T cl lv N sc fn kd W → chkE T N e false sc fn kd a = true → PTo X a (tT X.K G (ev cl e) W))
    (hf : ∀ sc fn kd a, chkE T N e true sc fn kd a = chkE T N e false sc fn kd a) (hl : ∀ sc fn kd as, chkL T N e sc fn kd as = false) : SndE T N G cl lv e :=
  ⟨he, ht, fun sc fn kd W X tg a C h => i_seq (he sc fn kd W X a C (by rw [← hf]; exact h)), fun sc fn kd W X as C h => by rw [hl] at h; cases h⟩
theorem pt_to {X : Cx} {a : Expr} {t : TT} (h : PT X a t) (n : ∀ op es pos, a ≠ .BoolOp op es pos) : PTo X a t := ⟨h, fun op es pos e => absurd e (n op es pos)⟩
theorem PTo.whole {X : Cx} {a : Expr} {t : TT} (h : PTo X a t) : PT X a t := h.1

theorem snd_var (i : Nat) : SndE T N G cl lv (.var i) := .mk1 (fun sc fn kd W X a C h => by
    unfold chkE at h
    split at h
    · rw [Bool.and_eq_true, decide_eq_true_eq] at h
      exact e_var C h.1 h.2
    · cases h) (fun sc fn kd a h => by unfold chkE at h; split at h <;> first | rfl | cases h) (fun _ _ _ _ => rfl) (fun _ _ _ _ => rfl)
theorem snd_lit (w : Wv) : SndE T N G cl lv (.lit w) := .mk1 (fun sc fn kd W X a C h => by
    unfold chkE at h
    split at h
    · rename_i c j p
      unfold cstB at h
      split at h
      · exact e_lit pe_non fun _ _ _ => .non
      · rw [decide_eq_true_eq] at h; subst h; exact e_lit pe_bl fun _ _ _ => .bl _
      · rw [decide_eq_true_eq] at h; subst h; exact e_lit pe_int fun _ _ _ => .int _
      · rw [decide_eq_true_eq] at h; subst h; exact e_lit pe_str fun _ _ _ => .str _
      · cases h
    · cases h) (fun sc fn kd a h => by unfold chkE at h; split at h <;> first | rfl | cases h) (fun _ _ _ _ => rfl) (fun _ _ _ _ => rfl)
theorem snd_glob (y : Str) (c : Cst) : SndE T N G cl lv (.glob y c) := .mk1 (fun sc fn kd W X a C h => by
    unfold chkE at h
    split at h
    · simp only [Bool.and_eq_true, decide_eq_true_eq] at h
      obtain ⟨rfl, h1, h2⟩ := h
      exact e_glob C h1 h2
    · cases h) (fun sc fn kd a h => by unfold chkE at h; split at h <;> first | rfl | cases h) (fun _ _ _ _ => rfl) (fun _ _ _ _ => rfl)
theorem snd_bin (o : Bop) {a b : E} (ia : SndE T N G cl lv a) (ib : SndE T N G cl lv b) : SndE T N G cl lv (.bin o a b) := .mk1 (fun sc fn kd W X x C h => by
    unfold chkE at h
    split at h
    · simp only [Bool.and_eq_true, decide_eq_true_eq] at h
      obtain ⟨rfl, h1, h2⟩ := h
      exact e_bin o (ia.e sc fn kd W X _ C h1) (ib.e sc fn kd W X _ C h2)
    · cases h) (fun sc fn kd a h => by unfold chkE at h; split at h <;> first | rfl | cases h) (fun _ _ _ _ => rfl) (fun _ _ _ _ => rfl)
theorem snd_neg {a : E} (ia : SndE T N G cl lv a) : SndE T N G cl lv (.neg a) := .mk1 (fun sc fn kd W X x C h => by
    unfold chkE at h
    split at h
    · exact e_neg (ia.e sc fn kd W X _ C h)
    · cases h) (fun sc fn kd a h => by unfold chkE at h; split at h <;> first | rfl | cases h) (fun _ _ _ _ => rfl) (fun _ _ _ _ => rfl)
theorem isNonC_eq {r : Expr} (h : isNonC r = true) : ∃ j p, r = .Constant .none j p := by
  unfold isNonC at h
  split at h
  · exact ⟨_, _, rfl⟩
  · cases h
theorem snd_isN {a : E} (ia : SndE T N G cl lv a) : SndE T N G cl lv (.isN a) := .mk2 (fun sc fn kd W X x C h => by
    unfold chkE at h
    split at h
    · simp only [Bool.and_eq_true] at h
      obtain ⟨h1, h2⟩ := h
      obtain ⟨j, p, rfl⟩ := isNonC_eq h1
      exact e_isN (ia.e sc fn kd W X _ C h2)
    · cases h) (fun sc fn kd W X x C h => by
    unfold chkE at h
    split at h
    · simp only [Bool.and_eq_true] at h
      obtain ⟨h1, h2⟩ := h
      obtain ⟨j, p, rfl⟩ := isNonC_eq h1
      exact pt_to (t_isN (ia.e sc fn kd W X _ C h2)) (fun _ _ _ z => by cases z)
    · cases h) (fun _ _ _ _ => rfl) (fun _ _ _ _ => rfl)
theorem snd_notN {a : E} (ia : SndE T N G cl lv a) : SndE T N G cl lv (.notN a) := .mk2 (fun sc fn kd W X x C h => by
    unfold chkE at h
    split at h
    · simp only [Bool.and_eq_true] at h
      obtain ⟨h1, h2⟩ := h
      obtain ⟨j, p, rfl⟩ := isNonC_eq h1
      exact e_notN (ia.e sc fn kd W X _ C h2)
    · cases h) (fun sc fn kd W X x C h => by
    unfold chkE at h
    split at h
    · simp only [Bool.and_eq_true] at h
      obtain ⟨h1, h2⟩ := h
      obtain ⟨j, p, rfl⟩ := isNonC_eq h1
      exact pt_to (t_notN (ia.e sc fn kd W X _ C h2)) (fun _ _ _ z => by cases z)
    · cases h) (fun _ _ _ _ => rfl) (fun _ _ _ _ => rfl)
theorem cop_ne {o : Cop} (h : copA o ≠ .Is ∧ copA o ≠ .IsNot) : o ≠ .isN ∧ o ≠ .notN := ⟨fun z => h.1 (by rw [z]; rfl), fun z => h.2 (by rw [z]; rfl)⟩
theorem snd_cmp (o : Cop) {a b : E} (ia : SndE T N G cl lv a) (ib : SndE T N G cl lv b) : SndE T N G cl lv (.cmp o a b) := .mk2 (fun sc fn kd W X x C h => by
    unfold chkE at h
    split at h
    · simp only [Bool.and_eq_true, decide_eq_true_eq, Bool.not_eq_true'] at h
      obtain ⟨rfl, h0, h1, h2, h3⟩ := h
      exact e_cmp C o (cop_ne h0).1 (cop_ne h0).2 (ia.e sc fn kd W X _ C h2) (ib.e sc fn kd W X _ C h3) h1
    · cases h) (fun sc fn kd W X x C h => by
    unfold chkE at h
    split at h
    · simp only [Bool.and_eq_true, decide_eq_true_eq, Bool.not_eq_true'] at h
      obtain ⟨rfl, h0, h1, h2, h3⟩ := h
      exact pt_to (t_cmp C o (cop_ne h0).1 (cop_ne h0).2 (ia.e sc fn kd W X _ C h2) (ib.e sc fn kd W X _ C h3) h1) (fun _ _ _ z => by cases z)
    · cases h) (fun _ _ _ _ => rfl) (fun _ _ _ _ => rfl)
theorem snd_chain (o o' : Cop) {a b c : E} (ia : SndE T N G cl lv a) (ib : SndE T N G cl lv b) (ic : SndE T N G cl lv c) : SndE T N G cl lv (.chain o o' a b c) := .mk2 (fun sc fn kd W X x C h => by
    unfold chkE at h
    split at h
    · simp only [Bool.and_eq_true, decide_eq_true_eq, Bool.not_eq_true'] at h
      obtain ⟨⟨rfl, rfl⟩, ⟨h0, h00⟩, h1, h2, h3, h4⟩ := h
      exact e_chain C o o' (cop_ne h0).1 (cop_ne h0).2 (cop_ne h00).1 (cop_ne h00).2 (ia.e sc fn kd W X _ C h2) (ib.e sc fn kd W X _ C h3) (ic.e sc fn kd W X _ C h4) h1
    · cases h) (fun sc fn kd W X x C h => by
    unfold chkE at h
    split at h
    · simp only [Bool.and_eq_true, decide_eq_true_eq, Bool.not_eq_true'] at h
      obtain ⟨⟨rfl, rfl⟩, ⟨h0, h00⟩, h1, h2, h3, h4⟩ := h
      exact pt_to (t_chain C o o' (cop_ne h0).1 (cop_ne h0).2 (cop_ne h00).1 (cop_ne h00).2 (ia.e sc fn kd W X _ C h2) (ib.e sc fn kd W X _ C h3) (ic.e sc fn kd W X _ C h4) h1) (fun _ _ _ z => by cases z)
    · cases h) (fun _ _ _ _ => rfl) (fun _ _ _ _ => rfl)
theorem snd_and {a b : E} (ia : SndE T N G cl lv a) (ib : SndE T N G cl lv b) : SndE T N G cl lv (.and a b) := .mk2 (fun sc fn kd W X x C h => by
    unfold chkE at h
    split at h
    · rw [Bool.and_eq_true] at h
      exact (pe_and (ia.e sc fn kd W X _ C h.1) (pe_one (ib.e sc fn kd W X _ C h.2))).imp fun σ H Q q => andW q
    · rw [Bool.and_eq_true] at h
      exact (pe_and (ia.e sc fn kd W X _ C h.1) (ib.e sc fn kd W X _ C h.2)).imp fun σ H Q q => andW q
    · cases h) (fun sc fn kd W X x C h => by
    unfold chkE at h
    split at h
    · rename_i l m p
      rw [Bool.and_eq_true] at h
      have z : PW X (.BoolOp .And [l, m] p) (tT X.K G (ev cl (.and a b)) W) := (pw_and (ia.t sc fn kd W X _ C h.1).1 (pw_and1 (ib.t sc fn kd W X _ C h.2).1)).imp fun σ H Q q => tandW q
      exact ⟨z.pt, fun _ _ _ e => by cases e; exact z⟩
    · rename_i l m n rest p
      rw [Bool.and_eq_true] at h
      have z : PW X (.BoolOp .And (l :: m :: n :: rest) p) (tT X.K G (ev cl (.and a b)) W) := (pw_and (ia.t sc fn kd W X _ C h.1).1 ((ib.t sc fn kd W X _ C h.2).2 _ _ _ rfl)).imp fun σ H Q q => tandW q
      exact ⟨z.pt, fun _ _ _ e => by cases e; exact z⟩
    · cases h) (fun _ _ _ _ => rfl) (fun _ _ _ _ => rfl)
theorem snd_or {a b : E} (ia : SndE T N G cl lv a) (ib : SndE T N G cl lv b) : SndE T N G cl lv (.or a b) := .mk2 (fun sc fn kd W X x C h => by
    unfold chkE at h
    split at h
    · rw [Bool.and_eq_true] at h
      exact (pe_or (ia.e sc fn kd W X _ C h.1) (pe_one (ib.e sc fn kd W X _ C h.2))).imp fun σ H Q q => orW q
    · rw [Bool.and_eq_true] at h
      exact (pe_or (ia.e sc fn kd W X _ C h.1) (ib.e sc fn kd W X _ C h.2)).imp fun σ H Q q => orW q
    · cases h) (fun sc fn kd W X x C h => by
    unfold chkE at h
    split at h
    · rename_i l m p
      rw [Bool.and_eq_true] at h
      have z : PW X (.BoolOp .Or [l, m] p) (tT X.K G (ev cl (.or a b)) W) := (pw_or (ia.t sc fn kd W X _ C h.1).1 (pw_or1 (ib.t sc fn kd W X _ C h.2).1)).imp fun σ H Q q => torW q
      exact ⟨z.pt, fun _ _ _ e => by cases e; exact z⟩
    · rename_i l m n rest p
      rw [Bool.and_eq_true] at h
      have z : PW X (.BoolOp .Or (l :: m :: n :: rest) p) (tT X.K G (ev cl (.or a b)) W) := (pw_or (ia.t sc fn kd W X _ C h.1).1 ((ib.t sc fn kd W X _ C h.2).2 _ _ _ rfl)).imp fun σ H Q q => torW q
      exact ⟨z.pt, fun _ _ _ e => by cases e; exact z⟩
    · cases h) (fun _ _ _ _ => rfl) (fun _ _ _ _ => rfl)
theorem snd_not {a : E} (ia : SndE T N G cl lv a) : SndE T N G cl lv (.not a) := .mk2 (fun sc fn kd W X x C h => by
    unfold chkE at h
    split at h
    · exact e_not (ia.e sc fn kd W X _ C h)
    · cases h) (fun sc fn kd W X x C h => by
    unfold chkE at h
    split at h
    · exact pt_to (t_not (ia.t sc fn kd W X _ C h).1) (fun _ _ _ z => by cases z)
    · cases h) (fun _ _ _ _ => rfl) (fun _ _ _ _ => rfl)
end
end Dy

end
section
set_option Elab.async false
set_option linter.all false
set_option maxRecDepth 100000
set_option maxHeartbeats 400000
/-! Dy, part J: soundness of expressions, the rest. -/
namespace Dy
open PySem PySem.Spec PyProof.Rows L2
section
variable {T : GT} {N : List Str} {G : Glob} {cl : Clr} {lv : Nat}
theorem pt_ite {X : Cx} {c a b : Expr} {tc ta tb : TT} {pos : Pos} (hc : PT X c tc) (ha : PT X a ta) (hb : PT X b tb) : PT X (.IfExp c a b pos) (fun σ H Q => tc σ H fun k H1 => if k = true then ta σ H1 Q else tb σ H1 Q) := by
  refine ⟨fun pins s σ H Q I h => ?_⟩
  rw [PySem.arm_isTrue_IfExp]
  refine wpAny_bind (thn (hc.run pins s σ H _ I h) fun d s1 ⟨H1, I1, q1⟩ => ?_)
  cases d with
  | true => exact ha.run pins s1 σ H1 Q I1 q1
  | false => exact hb.run pins s1 σ H1 Q I1 q1
theorem snd_ite {c a b : E} (ic : SndE T N G cl lv c) (ia : SndE T N G cl lv a) (ib : SndE T N G cl lv b) : SndE T N G cl lv (.ite c a b) := .mk2 (fun sc fn kd W X x C h => by
    unfold chkE at h
    split at h
    · simp only [Bool.and_eq_true] at h
      obtain ⟨h1, h2, h3⟩ := h
      exact e_ite (ic.t sc fn kd W X _ C h1).1 (ia.e sc fn kd W X _ C h2) (ib.e sc fn kd W X _ C h3)
    · cases h) (fun sc fn kd W X x C h => by
    unfold chkE at h
    split at h
    · simp only [Bool.and_eq_true] at h
      obtain ⟨h1, h2, h3⟩ := h
      refine pt_to ((pt_ite (ic.t sc fn kd W X _ C h1).1 (ia.t sc fn kd W X _ C h2).1 (ib.t sc fn kd W X _ C h3).1).imp fun σ H Q q => ?_) (fun _ _ _ z => by cases z)
      obtain ⟨ι, Y, S, σd, R, rs, p⟩ := q
      have p : Post X.K G Y ι H ((ev cl c σd S).bind fun t S => iteK t (ev cl a σd S) (ev cl b σd S)) _ (L2.WE W σ) := p
      refine ⟨ι, Y, S, σd, R, rs, p.bind.mono ?_ idE⟩
      rintro v H' ⟨ι1, w, S1, e, R1, r1, p1⟩
      cases w with
      | bl t =>
        cases r1.bl_eq
        refine ⟨t, rfl, ?_⟩
        cases t with
        | true => exact ⟨ι1, Y, S1, σd, R1, rs.evo e, p1⟩
        | false => exact ⟨ι1, Y, S1, σd, R1, rs.evo e, p1⟩
      | _ => exact p1.elim
    · cases h) (fun _ _ _ _ => rfl) (fun _ _ _ _ => rfl)
theorem snd_tup {es : E} (ie : SndE T N G cl lv es) : SndE T N G cl lv (.tup es) := .mk1 (fun sc fn kd W X x C h => by
    unfold chkE at h
    split at h
    · exact e_tup (ie.l sc fn kd W X _ C h).1
    · cases h) (fun sc fn kd a h => by unfold chkE at h; split at h <;> first | rfl | cases h) (fun _ _ _ _ => rfl) (fun _ _ _ _ => rfl)
theorem snd_lst {es : E} (ie : SndE T N G cl lv es) : SndE T N G cl lv (.lst es) := .mk1 (fun sc fn kd W X x C h => by
    unfold chkE at h
    split at h
    · exact e_lst (ie.l sc fn kd W X _ C h).1
    · cases h) (fun sc fn kd a h => by unfold chkE at h; split at h <;> first | rfl | cases h) (fun _ _ _ _ => rfl) (fun _ _ _ _ => rfl)
theorem snd_new {es : E} (ie : SndE T N G cl lv es) : SndE T N G cl lv (.new es) := .mk1 (fun sc fn kd W X x C h => by
    unfold chkE at h
    split at h
    · exact e_new (ie.l sc fn kd W X _ C h).1
    · cases h) (fun sc fn kd a h => by unfold chkE at h; split at h <;> first | rfl | cases h) (fun _ _ _ _ => rfl) (fun _ _ _ _ => rfl)
theorem snd_nil : SndE T N G cl lv .nil := ⟨fun sc fn kd W X x C h => (by cases h), fun sc fn kd W X x C h => (by cases h), fun sc fn kd W X tg x C h => (by cases h), fun sc fn kd W X as C h => by
  unfold chkL at h
  cases as with
  | nil => exact ⟨a_nil, fs_nil⟩
  | cons _ _ => cases h⟩
theorem snd_cons {e es : E} (i1 : SndE T N G cl lv e) (i2 : SndE T N G cl lv es) : SndE T N G cl lv (.cons e es) := ⟨fun sc fn kd W X x C h => (by cases h), fun sc fn kd W X x C h => (by cases h), fun sc fn kd W X tg x C h => (by cases h), fun sc fn kd W X as C h => by
  unfold chkL at h
  cases as with
  | nil => cases h
  | cons a as =>
    simp only [Bool.and_eq_true] at h
    obtain ⟨h1, h2, h3⟩ := h
    exact ⟨a_cons h1 (i1.e sc fn kd W X _ C h2) (i2.l sc fn kd W X _ C h3).1, fs_cons (i1.e sc fn kd W X _ C h2) (i2.l sc fn kd W X _ C h3).2⟩⟩
theorem snd_idx {a b : E} (ia : SndE T N G cl lv a) (ib : SndE T N G cl lv b) : SndE T N G cl lv (.idx a b) := .mk1 (fun sc fn kd W X x C h => by
    unfold chkE at h
    split at h
    · simp only [Bool.and_eq_true] at h
      obtain ⟨h1, h2, h3⟩ := h
      exact e_idx h1 (ia.e sc fn kd W X _ C h2) (ib.e sc fn kd W X _ C h3)
    · cases h) (fun sc fn kd a h => by unfold chkE at h; split at h <;> first | rfl | cases h) (fun _ _ _ _ => rfl) (fun _ _ _ _ => rfl)
theorem noB_ev {e : E} (h : noB e = true) : ∀ σ S, ev cl e σ S = .ok .non S := by
  unfold noB at h
  split at h
  · intro σ S; rfl
  · cases h
theorem snd_sl {a lo hi : E} (ia : SndE T N G cl lv a) (il : SndE T N G cl lv lo) (ih : SndE T N G cl lv hi) : SndE T N G cl lv (.sl a lo hi) := .mk1 (fun sc fn kd W X x C h => by
    unfold chkE at h
    split at h
    · simp only [Bool.and_eq_true] at h
      obtain ⟨h1, h2, h3⟩ := h
      exact e_sl (bl := noB lo) (bh := noB hi) (ia.e sc fn kd W X _ C h3) (o_b (fun _ => rfl) fun z => by rw [h1] at z; cases z) (o_b (fun _ => rfl) fun z => by rw [h2] at z; cases z) (fun z => noB_ev z) (fun z => noB_ev z)
    · simp only [Bool.and_eq_true, Bool.not_eq_true'] at h
      obtain ⟨h1, h2, h3, h4⟩ := h
      exact e_sl (bl := noB lo) (bh := noB hi) (ia.e sc fn kd W X _ C h3) (o_b (fun z => by rw [h1] at z; cases z) fun _ => ⟨_, rfl, il.e sc fn kd W X _ C h4⟩) (o_b (fun _ => rfl) fun z => by rw [h2] at z; cases z) (fun z => noB_ev z) (fun z => noB_ev z)
    · simp only [Bool.and_eq_true, Bool.not_eq_true'] at h
      obtain ⟨h1, h2, h3, h4⟩ := h
      exact e_sl (bl := noB lo) (bh := noB hi) (ia.e sc fn kd W X _ C h3) (o_b (fun _ => rfl) fun z => by rw [h1] at z; cases z) (o_b (fun z => by rw [h2] at z; cases z) fun _ => ⟨_, rfl, ih.e sc fn kd W X _ C h4⟩) (fun z => noB_ev z) (fun z => noB_ev z)
    · simp only [Bool.and_eq_true, Bool.not_eq_true'] at h
      obtain ⟨h1, h2, h3, h4, h5⟩ := h
      exact e_sl (bl := noB lo) (bh := noB hi) (ia.e sc fn kd W X _ C h3) (o_b (fun z => by rw [h1] at z; cases z) fun _ => ⟨_, rfl, il.e sc fn kd W X _ C h4⟩) (o_b (fun z => by rw [h2] at z; cases z) fun _ => ⟨_, rfl, ih.e sc fn kd W X _ C h5⟩) (fun z => noB_ev z) (fun z => noB_ev z)
    · cases h) (fun sc fn kd a h => by unfold chkE at h; split at h <;> first | rfl | cases h) (fun _ _ _ _ => rfl) (fun _ _ _ _ => rfl)
theorem chkL_nil {es : E} {sc : Scn} {fn : Str → Bool} {kd : Kd} (h : chkL T N es sc fn kd [] = true) : es = .nil := by
  cases es <;> first | rfl | cases h
theorem snd_call (f : Str) {es : E} (ie : SndE T N G cl lv es) : SndE T N G cl lv (.call f es) := .mk1 (fun sc fn kd W X x C h => by
    unfold chkE at h
    split at h
    · rename_i g q as p
      simp only [Bool.and_eq_true, decide_eq_true_eq] at h
      obtain ⟨rfl, h1, h2, h3, h4⟩ := h
      cases as with
      | nil =>
        cases chkL_nil h4
        exact e_call0 C h1 h2
      | cons a as => exact e_call C h1 h2 h3 (ie.l sc fn kd W X _ C h4).1
    · cases h) (fun sc fn kd a h => by unfold chkE at h; split at h <;> first | rfl | cases h) (fun _ _ _ _ => rfl) (fun _ _ _ _ => rfl)
theorem snd_bi (b : BI) {es : E} (ie : SndE T N G cl lv es) : SndE T N G cl lv (.bi b es) := .mk1 (fun sc fn kd W X x C h => by
    unfold chkE at h
    split at h
    · rename_i g q as p
      simp only [Bool.and_eq_true, decide_eq_true_eq] at h
      obtain ⟨rfl, h1, h2, h0, h3, h4⟩ := h
      cases as with
      | nil => cases h0
      | cons a as => exact e_bi C b h1 h2 h3 (ie.l sc fn kd W X _ C h4).1
    · cases h) (fun sc fn kd a h => by unfold chkE at h; split at h <;> first | rfl | cases h) (fun _ _ _ _ => rfl) (fun _ _ _ _ => rfl)
theorem snd_mi (m : MI) {a es : E} (ia : SndE T N G cl lv a) (ie : SndE T N G cl lv es) : SndE T N G cl lv (.mi m a es) := .mk1 (fun sc fn kd W X x C h => by
    unfold chkE at h
    split at h
    · rename_i o nm q as p
      simp only [Bool.and_eq_true] at h
      obtain ⟨h0, h1, h2, h3, h4, h5, h6, h7⟩ := h
      rw [decide_eq_true_eq] at h0 h2
      subst h0
      cases as with
      | nil => cases h4
      | cons x as => exact e_mi m (ia.e sc fn kd W X _ C h6) h1 (by rw [h2]; exact beq_self_eq_true _) h5 h3 (ie.l sc fn kd W X _ C h7).1
    · cases h) (fun sc fn kd a h => by unfold chkE at h; split at h <;> first | rfl | cases h) (fun _ _ _ _ => rfl) (fun _ _ _ _ => rfl)
theorem snd_rng1 {a : E} (ia : SndE T N G cl lv a) : SndE T N G cl lv (.rng1 a) := by
  have no : ∀ sc fn kd x, ¬ chkE T N (.rng1 a) false sc fn kd x = true := fun sc fn kd x h => by
    unfold chkE at h
    split at h
    · rw [Bool.false_and] at h; cases h
    · cases h
  refine ⟨fun sc fn kd W X x C h => absurd h (no _ _ _ _), fun sc fn kd W X x C h => absurd h (no _ _ _ _), fun sc fn kd W X tg x C h => ?_, fun sc fn kd W X as C h => (by cases h)⟩
  unfold chkE at h
  split at h
  · simp only [Bool.and_eq_true, decide_eq_true_eq] at h
    obtain ⟨_, rfl, h1, h2, h3, h4⟩ := h
    exact i_rng1 C h1 h2 h3 (ia.e sc fn kd W X _ C h4)
  · cases h
theorem snd_rng2 {a b : E} (ia : SndE T N G cl lv a) (ib : SndE T N G cl lv b) : SndE T N G cl lv (.rng2 a b) := by
  have no : ∀ sc fn kd x, ¬ chkE T N (.rng2 a b) false sc fn kd x = true := fun sc fn kd x h => by
    unfold chkE at h
    split at h
    · rw [Bool.false_and] at h; cases h
    · cases h
  refine ⟨fun sc fn kd W X x C h => absurd h (no _ _ _ _), fun sc fn kd W X x C h => absurd h (no _ _ _ _), fun sc fn kd W X tg x C h => ?_, fun sc fn kd W X as C h => (by cases h)⟩
  unfold chkE at h
  split at h
  · simp only [Bool.and_eq_true, decide_eq_true_eq] at h
    obtain ⟨_, rfl, h1, h2, h3, h4, h5, h6⟩ := h
    exact i_rng2 C h1 h2 h3 h4 (ia.e sc fn kd W X _ C h5) (ib.e sc fn kd W X _ C h6)
  · cases h
/-! targets -/
mutual
theorem chkG_ok {sc : Scn} {fn : Str → Bool} {kd : Kd} {W : WX} {X : Cx} (C : XOk X G T cl lv N sc fn kd W) : ∀ (g : Tg) (e : Expr), chkG N sc fn g e = true → PG X e (tgT X.K g)
  | .nm i, e, h => by
    cases e with
    | Name x p =>
      have h : (decide (N[i]? = some x) && isLoc sc fn x) = true := h
      rw [Bool.and_eq_true, decide_eq_true_eq] at h
      obtain ⟨l1, l2⟩ := C.loc h.2
      exact pg_name (by rw [C.hN]; exact C.nd) (by rw [C.hN]; exact h.1) l1 l2
    | _ => cases h
  | .tup ts, e, h => by
    cases e with
    | Tuple es k p =>
      obtain ⟨h1, h2, h3⟩ := chkGs_ok C ts es h
      exact pg_tup C.calm h1 h2 h3
    | _ => cases h
  | .nil, e, h => by cases e <;> cases h
  | .cons _ _, e, h => by cases e <;> cases h
theorem chkGs_ok {sc : Scn} {fn : Str → Bool} {kd : Kd} {W : WX} {X : Cx} (C : XOk X G T cl lv N sc fn kd W) : ∀ (g : Tg) (es : List Expr), chkGs N sc fn g es = true → PGs X es (tgTs X.K g) ∧ (assignEach es X.env).length = tgLen g ∧ (assignEach es X.env).findIdx? (·.1) = none
  | .nil, es, h => by
    cases es with
    | nil => exact ⟨pgs_nil, rfl, rfl⟩
    | cons _ _ => cases h
  | .cons t ts, es, h => by
    cases es with
    | nil => cases h
    | cons e es =>
      have h : (noStar e && chkG N sc fn t e && chkGs N sc fn ts es) = true := h
      rw [Bool.and_eq_true, Bool.and_eq_true] at h
      obtain ⟨⟨h1, h2⟩, h3⟩ := h
      obtain ⟨i1, i2, i3⟩ := chkGs_ok C ts es h3
      have ae : assignEach (e :: es) X.env = (false, assign e X.env) :: assignEach es X.env := by
        cases e <;> first | rfl | cases h1
      refine ⟨pgs_cons (chkG_ok C t e h2) i1 (by rw [ae]; rfl), ?_, ?_⟩
      · rw [ae, List.length_cons, i2]; rfl
      · rw [ae, List.findIdx?_cons, i3]; rfl
  | .nm _, es, h => by cases es <;> cases h
  | .tup _, es, h => by cases es <;> cases h
end
theorem yesE_ev {e : E} (h : yesE e = true) : ev cl e = fun _ S => .ok (.bl true) S := by
  unfold yesE at h
  split at h
  · rfl
  · cases h
/-- a clause's tests -/
theorem ifs_ok {c : E} (ic : SndE T N G cl lv c) {sc' : Scn} {fn' : Str → Bool} {kd : Kd} {ifs : List Expr} (h : (match ifs with | [] => yesE c | [t] => chkE T N c false sc' fn' kd t | _ => false) = true) (X : Cx) :
    ∃ tt : TT, TtOk X G tt (ev cl c) ∧ ∀ X' : Cx, X'.K = X.K → XOk X' G T cl lv N sc' fn' kd (fun _ _ _ _ => False) → PTs X' ifs tt := by
  match ifs, h with
  | [], h =>
    rw [yesE_ev h]
    exact ⟨tYes, tt_yes, fun _ _ _ => pts_nil⟩
  | [t], h => exact ⟨tT X.K G (ev cl c) (fun _ _ _ _ => False), tt_one, fun X' e C' => by rw [← e]; exact pts_one (ic.t sc' fn' kd _ X' _ C' h).1⟩
  | _ :: _ :: _, h => cases h
theorem snd_lc (g : Tg) {it c e : E} (own : List (Str × Nat)) (ii : SndE T N G cl lv it) (ic : SndE T N G cl lv c) (ie : SndE T N G cl lv e) : SndE T N G cl lv (.lc g it c e own) := .mk1 (fun sc fn kd W X x C h => by
    unfold chkE at h
    split at h
    · rename_i elt tg iter ifs isas scope pos
      simp only [Bool.and_eq_true] at h
      obtain ⟨h0, h1, h2, h3, h4, h5, h6, h7⟩ := h
      rw [decide_eq_true_eq] at h0
      subst h0
      obtain ⟨tt, ht, hts⟩ := ifs_ok (G := G) (cl := cl) (lv := lv) ic h6 X
      exact e_lc C h1 h2 h3 ht (ii.i sc fn kd W X tg _ C h4) (fun X' eK C' => by rw [← eK]; exact chkG_ok C' g tg h5) hts (fun X' eK C' => by rw [← eK]; exact ie.e _ _ kd _ X' _ C' h7)
    · cases h) (fun sc fn kd a h => by unfold chkE at h; split at h <;> first | rfl | cases h) (fun _ _ _ _ => rfl) (fun _ _ _ _ => rfl)
theorem snd_dc (g : Tg) {it c k e : E} (own : List (Str × Nat)) (ii : SndE T N G cl lv it) (ic : SndE T N G cl lv c) (ik : SndE T N G cl lv k) (ie : SndE T N G cl lv e) : SndE T N G cl lv (.dc g it c k e own) := .mk1 (fun sc fn kd W X x C h => by
    unfold chkE at h
    split at h
    · rename_i kx elt tg iter ifs isas scope pos
      simp only [Bool.and_eq_true] at h
      obtain ⟨h0, h1, h2, h3, h4, h5, h6, h7, h8⟩ := h
      rw [decide_eq_true_eq] at h0
      subst h0
      obtain ⟨tt, ht, hts⟩ := ifs_ok (G := G) (cl := cl) (lv := lv) ic h6 X
      exact e_dc C h1 h2 h3 ht (ii.i sc fn kd W X tg _ C h4) (fun X' eK C' => by rw [← eK]; exact chkG_ok C' g tg h5) hts (fun X' eK C' => by rw [← eK]; exact ik.e _ _ kd _ X' _ C' h7) (fun X' eK C' => by rw [← eK]; exact ie.e _ _ kd _ X' _ C' h8)
    · cases h) (fun sc fn kd a h => by unfold chkE at h; split at h <;> first | rfl | cases h) (fun _ _ _ _ => rfl) (fun _ _ _ _ => rfl)
theorem snd_fmt {e : E} (ie : SndE T N G cl lv e) : SndE T N G cl lv (.fmt e) := .mk1 (fun sc fn kd W X x C h => by
    unfold chkE at h
    split at h
    · simp only [Bool.and_eq_true, decide_eq_true_eq] at h
      obtain ⟨rfl, h2⟩ := h
      exact e_fmt (ie.e sc fn kd W X _ C h2)
    · cases h) (fun sc fn kd a h => by unfold chkE at h; split at h <;> first | rfl | cases h) (fun _ _ _ _ => rfl) (fun _ _ _ _ => rfl)
theorem snd_fs {es : E} (ie : SndE T N G cl lv es) : SndE T N G cl lv (.fs es) := .mk1 (fun sc fn kd W X x C h => by
    unfold chkE at h
    split at h
    · rename_i a b as p
      exact e_fs (c := a) (ie.l sc fn kd W X _ C h).2
    · cases h) (fun sc fn kd a h => by unfold chkE at h; split at h <;> first | rfl | cases h) (fun _ _ _ _ => rfl) (fun _ _ _ _ => rfl)
theorem snd_anyOut {e : E} (z y : Str) (ie : SndE T N G cl lv e) : SndE T N G cl lv (.anyOut e z y) := .mk1 (fun sc fn kd W X x C h => by
    unfold chkE at h
    split at h
    · simp only [Bool.and_eq_true] at h
      obtain ⟨h0, h1, h2, h3, h4, h5, h6⟩ := h
      rw [decide_eq_true_eq] at h0
      obtain ⟨rfl, rfl, rfl, rfl, rfl, rfl⟩ := h0
      exact e_anyOut C h1 h2 h3 h4 h5 (ie.e sc fn .gen W X _ C h6)
    · cases h) (fun sc fn kd a h => by unfold chkE at h; split at h <;> first | rfl | cases h) (fun _ _ _ _ => rfl) (fun _ _ _ _ => rfl)
theorem snd_told {e : E} (f y : Str) (ie : SndE T N G cl lv e) : SndE T N G cl lv (.told f y e) := .mk1 (fun sc fn kd W X x C h => by
    unfold chkE at h
    split at h
    · simp only [Bool.and_eq_true, decide_eq_true_eq] at h
      obtain ⟨⟨rfl, rfl⟩, h1, h2, h3, h4, h5⟩ := h
      exact e_told C h1 h2 h3 h4 fun X' W' eK C' => by rw [← eK]; exact ie.e _ _ .no W' X' _ C' h5
    · cases h) (fun sc fn kd a h => by unfold chkE at h; split at h <;> first | rfl | cases h) (fun _ _ _ _ => rfl) (fun _ _ _ _ => rfl)
theorem snd_lam (k : Nat) : SndE T N G cl lv (.lam k) := .mk1 (fun sc fn kd W X x C h => by
    unfold chkE at h
    split at h
    · simp only [Bool.and_eq_true, decide_eq_true_eq] at h
      obtain ⟨rfl, h2⟩ := h
      exact e_lam C h2
    · cases h) (fun sc fn kd a h => by unfold chkE at h; split at h <;> first | rfl | cases h) (fun _ _ _ _ => rfl) (fun _ _ _ _ => rfl)
theorem snd_toldV {e : E} (f y : Str) (ie : SndE T N G cl lv e) : SndE T N G cl lv (.toldV f y e) := .mk1 (fun sc fn kd W X x C h => by
    unfold chkE at h
    split at h
    · simp only [Bool.and_eq_true, decide_eq_true_eq] at h
      obtain ⟨rfl, h1, h2, h3, h4⟩ := h
      exact e_toldV C h1 h2 h3 (ie.e sc fn kd W X _ C h4)
    · cases h) (fun sc fn kd a h => by unfold chkE at h; split at h <;> first | rfl | cases h) (fun _ _ _ _ => rfl) (fun _ _ _ _ => rfl)
theorem snd_no {e : E} (h : ∀ b sc fn kd x, chkE T N e b sc fn kd x = false) (h2 : ∀ sc fn kd as, chkL T N e sc fn kd as = false) : SndE T N G cl lv e :=
  ⟨fun sc fn kd W X x C z => (by rw [h] at z; cases z), fun sc fn kd W X x C z => (by rw [h] at z; cases z), fun sc fn kd W X tg x C z => (by rw [h] at z; cases z), fun sc fn kd W X as C z => (by rw [h2] at z; cases z)⟩
/-- THE soundness of expressions -/
theorem snd (e : E) : SndE T N G cl lv e := by
  induction e with
  | var i => exact snd_var i
  | lit w => exact snd_lit w
  | glob x c => exact snd_glob x c
  | bin o a b ia ib => exact snd_bin o ia ib
  | neg a ia => exact snd_neg ia
  | isN a ia => exact snd_isN ia
  | notN a ia => exact snd_notN ia
  | cmp o a b ia ib => exact snd_cmp o ia ib
  | chain o o' a b c ia ib ic => exact snd_chain o o' ia ib ic
  | and a b ia ib => exact snd_and ia ib
  | or a b ia ib => exact snd_or ia ib
  | not a ia => exact snd_not ia
  | ite c a b ic ia ib => exact snd_ite ic ia ib
  | tup es i => exact snd_tup i
  | lst es i => exact snd_lst i
  | new es i => exact snd_new i
  | nil => exact snd_nil
  | cons e es i1 i2 => exact snd_cons i1 i2
  | idx a b ia ib => exact snd_idx ia ib
  | sl a lo hi ia il ih => exact snd_sl ia il ih
  | call f es i => exact snd_call f i
  | bi b es i => exact snd_bi b i
  | mi m a es ia i => exact snd_mi m ia i
  | rng1 a ia => exact snd_rng1 ia
  | rng2 a b ia ib => exact snd_rng2 ia ib
  | lc g it c e own ii ic ie => exact snd_lc g own ii ic ie
  | dc g it c k e own ii ic ik ie => exact snd_dc g own ii ic ik ie
  | fmt e i => exact snd_fmt i
  | fs es i => exact snd_fs i
  | anyOut e z x i => exact snd_anyOut z x i
  | told f x e i => exact snd_told f x i
  | lam k => exact snd_lam k
  | toldV f x e i => exact snd_toldV f x i
end
end Dy

end
section
set_option Elab.async false
set_option linter.all false
set_option maxRecDepth 100000
set_option maxHeartbeats 400000
namespace Dy
open PySem PySem.Spec PyProof.Rows L2
theorem fm_len {α β : Type} (f : α → Option β) : ∀ l : List α, (l.filterMap f).length = l.length → ∀ e ∈ l, f e ≠ none
  | [], _, e, h => by cases h
  | a :: l, hl, e, h => by
    have hle := List.length_filterMap_le f l
    rw [List.filterMap_cons] at hl
    cases ha : f a with
    | none => rw [ha] at hl; simp only [List.length_cons] at hl; omega
    | some b =>
      rw [ha] at hl
      simp only [List.length_cons] at hl
      rcases List.mem_cons.mp h with rfl | h
      · rw [ha]; simp
      · exact fm_len f l (by omega) e h
def notLoc (sc : List (Str × NameKind)) : Expr → Bool
  | .Name x _ => decide (sc.lookup x ≠ some .local)
  | _ => true
def noneSw (sc : List (Str × NameKind)) : Expr → Expr → Bool
  | .Tuple ts _ _, .Tuple vs _ _ => decide (ts.length ≠ 2 ∧ ts.length ≠ 3) || (vs.all (foldedForSure 8) || ts.any (notLoc sc))
  | .List .., _ => false
  | _, _ => true
theorem noneSw_ok {sc : List (Str × NameKind)} {tg v : Expr} {env : Env} (hk : env.scope.kind = .function) (hs : env.scope.names = sc) (h : noneSw sc tg v = true) : swappedStores [tg] v env = pure none := by
  cases tg with
  | Tuple ts k p =>
    cases v with
    | Tuple vs k2 p2 =>
      have h : (decide (ts.length ≠ 2 ∧ ts.length ≠ 3) || (vs.all (foldedForSure 8) || ts.any (notLoc sc))) = true := h
      unfold swappedStores
      simp only [pure_bind]
      split
      · rfl
      · split
        · rfl
        · split
          · rfl
          · rename_i h1 h2 h3
            have ha : vs.all (foldedForSure 8) = true := by
              rw [Bool.or_eq_true, Bool.or_eq_true, decide_eq_true_eq] at h
              rcases h with h | h | h
              · refine absurd ?_ h1
                have e2 : (ts.length == 2) = false := beq_false_of_ne h.1
                have e3 : (ts.length == 3) = false := beq_false_of_ne h.2
                rw [e2, e3]; rfl
              · exact h
              · exfalso
                rw [Bool.or_eq_true, not_or] at h3
                have z := h3.1
                rw [bne_iff_ne] at z
                have hl := Decidable.not_not.mp z
                rw [List.any_eq_true] at h
                obtain ⟨e, he, hn⟩ := h
                have q := fm_len _ ts hl e he
                cases e with
                | Name x p =>
                  have hn : decide (sc.lookup x ≠ some .local) = true := hn
                  rw [decide_eq_true_eq] at hn
                  apply q
                  have hkx : (env.kindOf x == some NameKind.local) = false := by
                    refine beq_false_of_ne ?_
                    show env.scope.names.lookup x ≠ _
                    rw [hs]; exact hn
                  simp only [hkx, Bool.false_and, Bool.false_eq_true, if_false]
                | _ => exact q rfl
            rw [if_pos ha]
    | _ => rfl
  | List ts p => cases h
  | _ => cases v <;> rfl

def noStarE (e : Expr) : Bool := noStar e
theorem anyStar {vs : List Expr} {f : Expr → Bool} (h : vs.all noStar = true) (hf : ∀ v, f v = true → noStar v = false) : ¬ vs.any f = true := fun hh => by
  rw [List.any_eq_true] at hh
  obtain ⟨v, hv, hm⟩ := hh
  have h1 := List.all_eq_true.mp h v hv
  rw [hf v hm] at h1
  cases h1
theorem sw2 {sc : List (Str × NameKind)} {env : Env} {x y : Str} {a b : Expr} {px py pt pt2 : Pos} {kt k2 : Nat} (hk : env.scope.kind = .function) (hs : env.scope.names = sc) (hx : sc.lookup x = some .local) (hy : sc.lookup y = some .local) (hl : py.line = px.line) (hn : x ≠ y)
    (h1 : [a, b].all noStar = true) (h2 : [a, b].all (foldedForSure 8) = false) (h3 : [a, b].all (constantsAlone 8) = false) :
    swappedStores [.Tuple [.Name x px, .Name y py] kt pt] (.Tuple [a, b] k2 pt2) env = pure (some [x, y]) := by
  have hb : env.blockKind = .function := by unfold Env.blockKind; rw [hk]; rfl
  have kx : env.kindOf x = some .local := by show env.scope.names.lookup x = _; rw [hs]; exact hx
  have ky : env.kindOf y = some .local := by show env.scope.names.lookup y = _; rw [hs]; exact hy
  have ed : ([x, y] : List Str).eraseDups = [x, y] := by
    rw [List.eraseDups_cons, List.filter_cons, if_pos (by simpa using Ne.symm hn), List.filter_nil, List.eraseDups_cons, List.filter_nil, List.eraseDups_nil]
  unfold swappedStores
  simp only [pure_bind]
  rw [if_neg (by rw [hb]; exact Bool.false_ne_true), if_neg (anyStar h1 (fun v hv => by cases v <;> first | rfl | cases hv))]
  simp only [List.filterMap_cons, List.filterMap_nil, List.head?_cons, Option.map_some, Option.getD_some, Expr.pos, kx, ky, hl, beq_self_eq_true, Bool.and_true, if_true, ed, List.length_cons, List.length_nil, bne_self_eq_false, Bool.or_false, Bool.false_eq_true, if_false, h2, h3]
theorem sw3 {sc : List (Str × NameKind)} {env : Env} {x y z : Str} {a b c : Expr} {px py pz pt pt2 : Pos} {kt k2 : Nat} (hk : env.scope.kind = .function) (hs : env.scope.names = sc) (hx : sc.lookup x = some .local) (hy : sc.lookup y = some .local) (hz : sc.lookup z = some .local) (hl : py.line = px.line) (hl2 : pz.line = px.line) (hn : x ≠ y) (hn2 : x ≠ z) (hn3 : y ≠ z)
    (h1 : [a, b, c].all noStar = true) (h2 : [a, b, c].all (foldedForSure 8) = false) (h3 : [a, b, c].all (constantsAlone 8) = false) :
    swappedStores [.Tuple [.Name x px, .Name y py, .Name z pz] kt pt] (.Tuple [a, b, c] k2 pt2) env = pure (some [x, y, z]) := by
  have hb : env.blockKind = .function := by unfold Env.blockKind; rw [hk]; rfl
  have kx : env.kindOf x = some .local := by show env.scope.names.lookup x = _; rw [hs]; exact hx
  have ky : env.kindOf y = some .local := by show env.scope.names.lookup y = _; rw [hs]; exact hy
  have kz : env.kindOf z = some .local := by show env.scope.names.lookup z = _; rw [hs]; exact hz
  have ed : ([x, y, z] : List Str).eraseDups = [x, y, z] := by
    rw [List.eraseDups_cons, List.filter_cons, if_pos (by simpa using Ne.symm hn), List.filter_cons, if_pos (by simpa using Ne.symm hn2), List.filter_nil, List.eraseDups_cons, List.filter_cons, if_pos (by simpa using Ne.symm hn3), List.filter_nil, List.eraseDups_cons, List.filter_nil, List.eraseDups_nil]
  unfold swappedStores
  simp only [pure_bind]
  rw [if_neg (by rw [hb]; exact Bool.false_ne_true), if_neg (anyStar h1 (fun v hv => by cases v <;> first | rfl | cases hv))]
  simp only [List.filterMap_cons, List.filterMap_nil, List.head?_cons, Option.map_some, Option.getD_some, Expr.pos, kx, ky, kz, hl, hl2, beq_self_eq_true, Bool.and_true, if_true, ed, List.length_cons, List.length_nil, bne_self_eq_false, Bool.or_false, Bool.false_eq_true, if_false, h2, h3]
end Dy

end
section
set_option Elab.async false
set_option linter.all false
set_option maxRecDepth 100000
set_option maxHeartbeats 400000
/-! Dy, part L: statements. -/
namespace Dy
open PySem PySem.Spec PyProof.Rows L2

/-- what is wanted of a statement's result -/
def PostS (K : PySem.W.Frag) (G : Glob) (Y : Addr → Prop) (ι : Io) (H : Hp) (r : SR) (D : Ends) (W : WX) : Prop := match r with
  | .nx σd S => ∀ ι' H' σ', Evo ι H ι' H' → Rel K G ι' Y S H' → RepS K H' ι' Y σd σ' → D.nx σ' H'
  | .rt w S => ∀ ι' H' v, Evo ι H ι' H' → Rel K G ι' Y S H' → RepV K H' ι' Y w v → D.rt v H'
  | .bk σd S => ∀ ι' H' σ', Evo ι H ι' H' → Rel K G ι' Y S H' → RepS K H' ι' Y σd σ' → D.bk σ' H'
  | .ct σd S => ∀ ι' H' σ', Evo ι H ι' H' → Rel K G ι' Y S H' → RepS K H' ι' Y σd σ' → D.ct σ' H'
  | .xc c σd S => ∃ C, G.cls c = some C ∧ ∀ ι' H' σ', Evo ι H ι' H' → Rel K G ι' Y S H' → RepS K H' ι' Y σd σ' → W (.ref C) none σ' H'
  | .bad => False
def tS (K : PySem.W.Frag) (G : Glob) (f : Sl → Sto → SR) (W : WX) : TS := fun D σ H => ∃ ι Y S σd, Rel K G ι Y S H ∧ RepS K H ι Y σd σ ∧ PostS K G Y ι H (f σd S) D W
section
variable {K : PySem.W.Frag} {G : Glob} {Y : Addr → Prop} {ι ι' : Io} {H H' : Hp} {r : SR} {D : Ends} {W : WX}
theorem PostS.evo (h : PostS K G Y ι H r D W) (e : Evo ι H ι' H') : PostS K G Y ι' H' r D W := by
  cases r with
  | nx σd S => exact fun ι2 H2 σ2 e2 R rs => h ι2 H2 σ2 (e.trans e2) R rs
  | bk σd S => exact fun ι2 H2 σ2 e2 R rs => h ι2 H2 σ2 (e.trans e2) R rs
  | ct σd S => exact fun ι2 H2 σ2 e2 R rs => h ι2 H2 σ2 (e.trans e2) R rs
  | rt w S => exact fun ι2 H2 v e2 R r => h ι2 H2 v (e.trans e2) R r
  | xc c σd S =>
    obtain ⟨C, hc, h⟩ := h
    exact ⟨C, hc, fun ι2 H2 σ2 e2 R rs => h ι2 H2 σ2 (e.trans e2) R rs⟩
  | bad => exact h
theorem PostS.bs {x : Res} {σd : Sl} {σ : L2.St} {k : Wv → Sto → SR} (rs : RepS K H ι Y σd σ) (h : PostS K G Y ι H (x.bs σd k) D W) :
    Post K G Y ι H x (fun v H' => ∃ ι' w S', Evo ι H ι' H' ∧ Rel K G ι' Y S' H' ∧ RepV K H' ι' Y w v ∧ PostS K G Y ι' H' (k w S') D W) (L2.WE W σ) := by
  cases x with
  | ok w S => exact fun ι' H' v e R r => ⟨ι', w, S, e, R, r, PostS.evo h e⟩
  | exc c S =>
    obtain ⟨C, hc, h⟩ := h
    exact ⟨C, hc, fun ι' H' e R => h ι' H' σ e R (rs.evo e)⟩
  | bad => exact h
theorem PostS.nx {σd : Sl} {σ : L2.St} {S : Sto} (h : PostS K G Y ι H (.nx σd S) D W) (R : Rel K G ι Y S H) (rs : RepS K H ι Y σd σ) : D.nx σ H := h ι H σ (Evo.refl _ _) R rs
theorem PostS.rt {w : Wv} {v : V} {S : Sto} (h : PostS K G Y ι H (.rt w S) D W) (R : Rel K G ι Y S H) (r : RepV K H ι Y w v) : D.rt v H := h ι H v (Evo.refl _ _) R r
/-- an object of the store is written -/
theorem evo_write {S : Sto} (R : Rel K G ι Y S H) {n : Nat} {p : Addr} {o : HO} (hn : ι n = some p) : Evo ι H ι (upd H p o) where
  keep := fun a u e ni _ => by rw [upd_ne (fun z : a = p => ni n (z ▸ hn))]; exact e
  ext := fun _ _ e => e
  new := fun _ _ e => .inl e
  stay := fun a h => by
    by_cases z : a = p
    · subst z; rw [upd_same]; simp
    · rw [upd_ne z]; exact h
theorem Rel.write {S : Sto} (R : Rel K G ι Y S H) {n : Nat} {p : Addr} {so : SO} {o : HO} (hn : ι n = some p) (n1 : ∀ ps, H p ≠ some (.tbl ps)) (n2 : ∀ c s, H p ≠ some (LamX.CodeO c s)) (r : RepO K G H ι Y p so o) : Rel K G ι Y (S.set n so) (upd H p o) where
  inj := R.inj
  lt := fun i a e => by rw [List.length_set]; exact R.lt i a e
  obj := fun i u e => by
    have E : Evo ι H ι (upd H p o) := evo_write R hn
    by_cases z : i = n
    · subst z
      rw [List.getElem?_set_self (R.lt i p hn)] at e
      cases e
      exact ⟨p, o, hn, upd_same, r.evo E⟩
    · rw [List.getElem?_set_ne (Ne.symm z)] at e
      obtain ⟨a, ho, h1, h2, h3⟩ := R.obj i u e
      exact ⟨a, ho, h1, by rw [upd_ne (fun q : a = p => z (R.inj i n a h1 (q ▸ hn)))]; exact h2, h3.evo E⟩
  yt := fun a h => by
    rw [upd_ne (fun z : a = p => R.ny n p hn (z ▸ h))]
    exact R.yt a h
  ny := R.ny
  tabs := fun q hq => by
    obtain ⟨ps, h1, h2, h3⟩ := R.tabs q hq
    refine ⟨ps, ?_, h2, fun pos cv hc => ?_⟩
    · rw [upd_ne (fun z : q.1 = p => n1 ps (z ▸ h1))]; exact h1
    · obtain ⟨c, e1, e2⟩ := h3 pos cv hc
      exact ⟨c, e1, by rw [upd_ne (fun z : c = p => n2 c q.2 (z ▸ e2))]; exact e2⟩
  gens := fun P hP => by
    obtain ⟨ps, h1, h2⟩ := R.gens P hP
    exact ⟨ps, by rw [upd_ne (fun z : P = p => n1 ps (z ▸ h1))]; exact h1, h2⟩
end

/-! ### comprehensions and the local that takes them -/
def swC (sc : Scn) (tg v : Expr) : Bool := match tg, v with
  | .Name y py, .ListComp _ _ s p => decide (sc.lookup y = some .local) && (py.line == p.line && !(s.names.any fun (n, k) => n == y && (k == .local || k == .cell)))
  | .Name y py, .SetComp _ _ s p => decide (sc.lookup y = some .local) && (py.line == p.line && !(s.names.any fun (n, k) => n == y && (k == .local || k == .cell)))
  | .Name y py, .DictComp _ _ _ s p => decide (sc.lookup y = some .local) && (py.line == p.line && !(s.names.any fun (n, k) => n == y && (k == .local || k == .cell)))
  | _, _ => false
theorem swC_ok {sc : Scn} {env : Env} (hk : env.scope.kind = .function) (hs : env.scope.names = sc) (tg v : Expr) (l : Nat) : swapsWith v (some tg) l env = pure (swC sc tg v) := by
  have hb : env.blockKind = .function := by unfold Env.blockKind; rw [hk]; rfl
  have key : ∀ (y : Str) (b c : Bool), (env.blockKind == .function && env.kindOf y == some .local && b && c) = (decide (sc.lookup y = some .local) && (b && c)) := fun y b c => by
    rw [hb]
    have : (env.kindOf y == some .local) = decide (sc.lookup y = some .local) := by
      have e : env.kindOf y = sc.lookup y := by show env.scope.names.lookup y = _; rw [hs]
      rw [e]
      by_cases h : sc.lookup y = some .local
      · rw [h]; rfl
      · rw [beq_false_of_ne h, decide_eq_false h]
    rw [this, Bool.and_assoc]
    simp
  cases v with
  | ListComp e gs s p =>
    cases tg with
    | Name y py => exact congrArg pure (key y _ _)
    | _ => rfl
  | SetComp e gs s p =>
    cases tg with
    | Name y py => exact congrArg pure (key y _ _)
    | _ => rfl
  | DictComp k e gs s p =>
    cases tg with
    | Name y py => exact congrArg pure (key y _ _)
    | _ => rfl
  | _ => cases tg <;> rfl
section
variable {X : Cx} {G : Glob} {T : GT} {cl : Clr} {lv : Nat} {N : List Str} {sc : Scn} {fn : Str → Bool} {kd : Kd} {W : WX} {scope : Scope} {own : List (Str × Nat)}
/-- name = {..} on one line, the name a local -/
theorem ps_setDc {i : Nat} {y : Str} {py : Pos} {kx vx tg iter : Expr} {ifs : List Expr} {pos spos : Pos} {wi : TI} {g : TG} {tt : TT} {tk tv : TE} (hc : X.calm = true) (hN : X.N.Nodup) (hy : X.N[i]? = some y) (hyl : X.env.scope.names.lookup y = some .local)
    (hsw : swapsWith (.DictComp kx vx [⟨tg, iter, ifs, 0⟩] scope pos) (some (.Name y py)) spos.line X.env = pure true) (hi : PI X tg iter wi) (ok : BlkOk X.N X.env.scope scope own)
    (hg : ∀ (s : Shared) (H : Hp) (C : Addr) (cl : List (Str × Addr)) (fp : List Addr), PG (X.blk s H scope (compEnvC scope cl C X.env) fp) tg g) (ht : ∀ (s : Shared) (H : Hp) (C : Addr) (cl : List (Str × Addr)) (fp : List Addr), PTs (X.blk s H scope (compEnvC scope cl C X.env) fp) ifs tt)
    (hk : ∀ (s : Shared) (H : Hp) (C : Addr) (cl : List (Str × Addr)) (fp : List Addr), PE (X.blk s H scope (compEnvC scope cl C X.env) fp) kx tk)
    (he : ∀ (s : Shared) (H : Hp) (C : Addr) (cl : List (Str × Addr)) (fp : List Addr), PE (X.blk s H scope (compEnvC scope cl C X.env) fp) vx tv) (hs : ∀ x, foldedSetIterable iter X.env x = pure x) :
    PS X (.Assign [.Name y py] (.DictComp kx vx [⟨tg, iter, ifs, 0⟩] scope pos) spos) (tAsg (tDc wi g tt tk tv (own.map (·.2))) (gName i)) := by
  refine ⟨fun pins s σ H D I h => ?_⟩
  rw [exec_Assign_Name_used _ _ _ _ hsw]
  refine wpAny_bind (wpAny_standAt (wpAny_bind ?_))
  show wpAny _ X.A (do let _ ← comprehension (.DictComp kx vx [⟨tg, iter, ifs, 0⟩] scope pos) scope X.env (firstIterPos [⟨tg, iter, ifs, 0⟩] pos) newDict false (eval iter X.env) (some (assign (.Name y py) X.env))) _ _ s
  have h : tDc wi g tt tk tv (own.map (·.2)) σ H (fun x H1 => gName i x σ H1 D.nx) := h
  refine wpAny_bind (thn (dc_core (Qf := fun _ s' => SP X pins D .next s') hc hN I hi ok hg ht hk he hs h fun L C s' m H' I' q hn f => ?_) fun _ s' hq => wpAny_pure (wpAny_pure hq))
  show wpAny _ _ (assign (.Name y py) X.env (.ref L)) _ _ _
  refine wpAny_assign_Name (store_ok2 (v := V.ref L) I' hN hy (.inl hyl) rfl (fun s2 I2 ⟨a, sb, ha⟩ => ?_) (.inr hyl))
  obtain ⟨f0, f1, f2, f3, f4, f5⟩ := f
  have haC : C ≠ a := by
    rcases ha with z | z
    · rw [z]; exact f1
    · exact fun e => f4 y a z e.symm
  refine ⟨m, hn.sameBut sb haC, fun h3 sb3 => ?_⟩
  exact ⟨_, H', I2.turned (t' := s2.toks) (fun b o hb e => (sb3.2 b hb).trans e) f0 f1 f3 f4 f5, q⟩
theorem s_setLc (C : XOk X G T cl lv N sc fn kd W) {i : Nat} {y : Str} {g : Tg} {fi fc fe : Sl → Sto → Res} {tt : TT} {elt tg iter : Expr} {ifs : List Expr} {py pos spos : Pos} (hy : N[i]? = some y) (hyl : sc.lookup y = some .local) (hsw : swC sc (.Name y py) (.ListComp elt [⟨tg, iter, ifs, 0⟩] scope pos) = true)
    (hb : blkN N sc scope own = true) (hg : inOwn (own.map (·.2)) g = true) (hns : noSet iter = true) (ht : TtOk X G tt fc)
    (hi : PI X tg iter (tI X.K G (fun σ S => (fi σ S).bind itK) W))
    (hgt : ∀ X' : Cx, X'.K = X.K → XOk X' G T cl lv N (relN sc scope.names) (blkF scope) kd (fun _ _ _ _ => False) → PG X' tg (tgT X.K g))
    (htt : ∀ X' : Cx, X'.K = X.K → XOk X' G T cl lv N (relN sc scope.names) (blkF scope) kd (fun _ _ _ _ => False) → PTs X' ifs tt)
    (hte : ∀ X' : Cx, X'.K = X.K → XOk X' G T cl lv N (relN sc scope.names) (blkF scope) kd (fun _ _ _ _ => False) → PE X' elt (tE X.K G fe (fun _ _ _ _ => False))) :
    PS X (.Assign [.Name y py] (.ListComp elt [⟨tg, iter, ifs, 0⟩] scope pos) spos) (tAsg (tE X.K G (fun σ S => (fi σ S).bind fun x S => match itW x with | some items => lcLoop (lcF g fc fe (wipeW σ (own.map (·.2)))) items [] S | none => .bad) W) (gName i)) := by
  refine (ps_setLc (i := i) C.calm (by rw [C.hN]; exact C.nd) (by rw [C.hN]; exact hy) (by rw [C.sc]; exact hyl) (by rw [swC_ok C.kind C.sc, hsw]) hi (C.blkOk hb) (fun s H Cc cl' fp => hgt _ rfl (C.blk hb s H Cc cl' fp)) (fun s H Cc cl' fp => htt _ rfl (C.blk hb s H Cc cl' fp)) (fun s H Cc cl' fp => hte _ rfl (C.blk hb s H Cc cl' fp)) (noFold hns)).imp fun D σ H q => ?_
  exact lcW hg ht q
theorem s_setDc (C : XOk X G T cl lv N sc fn kd W) {i : Nat} {y : Str} {g : Tg} {fi fc fk fe : Sl → Sto → Res} {tt : TT} {kx elt tg iter : Expr} {ifs : List Expr} {py pos spos : Pos} (hy : N[i]? = some y) (hyl : sc.lookup y = some .local) (hsw : swC sc (.Name y py) (.DictComp kx elt [⟨tg, iter, ifs, 0⟩] scope pos) = true)
    (hb : blkN N sc scope own = true) (hg : inOwn (own.map (·.2)) g = true) (hns : noSet iter = true) (ht : TtOk X G tt fc)
    (hi : PI X tg iter (tI X.K G (fun σ S => (fi σ S).bind itK) W))
    (hgt : ∀ X' : Cx, X'.K = X.K → XOk X' G T cl lv N (relN sc scope.names) (blkF scope) kd (fun _ _ _ _ => False) → PG X' tg (tgT X.K g))
    (htt : ∀ X' : Cx, X'.K = X.K → XOk X' G T cl lv N (relN sc scope.names) (blkF scope) kd (fun _ _ _ _ => False) → PTs X' ifs tt)
    (htk : ∀ X' : Cx, X'.K = X.K → XOk X' G T cl lv N (relN sc scope.names) (blkF scope) kd (fun _ _ _ _ => False) → PE X' kx (tE X.K G fk (fun _ _ _ _ => False)))
    (hte : ∀ X' : Cx, X'.K = X.K → XOk X' G T cl lv N (relN sc scope.names) (blkF scope) kd (fun _ _ _ _ => False) → PE X' elt (tE X.K G fe (fun _ _ _ _ => False))) :
    PS X (.Assign [.Name y py] (.DictComp kx elt [⟨tg, iter, ifs, 0⟩] scope pos) spos) (tAsg (tE X.K G (fun σ S => (fi σ S).bind fun x S => match itW x with | some items => dcLoop (dcF g fc fk fe (wipeW σ (own.map (·.2)))) items [] S | none => .bad) W) (gName i)) := by
  refine (ps_setDc (i := i) C.calm (by rw [C.hN]; exact C.nd) (by rw [C.hN]; exact hy) (by rw [C.sc]; exact hyl) (by rw [swC_ok C.kind C.sc, hsw]) hi (C.blkOk hb) (fun s H Cc cl' fp => hgt _ rfl (C.blk hb s H Cc cl' fp)) (fun s H Cc cl' fp => htt _ rfl (C.blk hb s H Cc cl' fp)) (fun s H Cc cl' fp => htk _ rfl (C.blk hb s H Cc cl' fp)) (fun s H Cc cl' fp => hte _ rfl (C.blk hb s H Cc cl' fp)) (noFold hns)).imp fun D σ H q => ?_
  exact dcW hg ht q
end
end Dy

end
section
set_option Elab.async false
set_option linter.all false
set_option maxRecDepth 100000
set_option maxHeartbeats 400000
/-! Dy, part M: statements by the evaluator; their checker; soundness. -/
namespace Dy
open PySem PySem.Spec PyProof.Rows L2

section
variable {X : Cx} {G : Glob} {T : GT} {cl : Clr} {lv : Nat} {N : List Str} {sc : Scn} {fn : Str → Bool} {kd : Kd} {W : WX} {st : Stmt}
theorem w_set {g : Tg} {e : E} {vs : List Nat} (hv : inOwn vs g = true) (D : Ends) (σ : L2.St) (H : Hp) (q : tS X.K G (ex cl (.set g e)) W D σ H) : tAsg (tE X.K G (ev cl e) W) (tgT X.K g) D σ H := by
  obtain ⟨ι, Y, S, σd, R, rs, p⟩ := q
  have p : PostS X.K G Y ι H ((ev cl e σd S).bs σd fun w S => match asg g w σd with | some σ' => .nx σ' S | none => .bad) D W := p
  refine ⟨ι, Y, S, σd, R, rs, (p.bs rs).mono ?_ idE⟩
  rintro v H' ⟨ι1, w, S1, ev1, R1, r1, p1⟩
  cases ha : asg g w σd with
  | none => rw [ha] at p1; exact p1.elim
  | some σ' =>
    rw [ha] at p1
    exact asgG vs g w v σd σ' σ _ hv ha r1 (rs.evo ev1) fun σ2 rs2 _ => PostS.nx p1 R1 rs2
theorem s_par2 (C : XOk X G T cl lv N sc fn kd W) {i j : Nat} {x y : Str} {a b : E} {ea eb : Expr} {px py pt pt2 pos : Pos} {kt k2 : Nat} (hi : N[i]? = some x) (hj : N[j]? = some y) (hij : i ≠ j) (hx : sc.lookup x = some .local) (hy : sc.lookup y = some .local) (hl : py.line = px.line) (hn : x ≠ y)
    (h1 : [ea, eb].all noStar = true) (h2 : [ea, eb].all (foldedForSure 8) = false) (h3 : [ea, eb].all (constantsAlone 8) = false) (ha : PE X ea (tE X.K G (ev cl a) W)) (hb : PE X eb (tE X.K G (ev cl b) W)) :
    PS X (.Assign [.Tuple [.Name x px, .Name y py] kt pt] (.Tuple [ea, eb] k2 pt2) pos) (tS X.K G (ex cl (.par2 i j a b)) W) := by
  have s1 : noStar ea = true ∧ noStar eb = true := by
    simp only [List.all_cons, List.all_nil, Bool.and_true, Bool.and_eq_true] at h1
    exact h1
  refine (ps_par C.calm (by rw [C.hN]; exact C.nd) (by rw [C.hN]; exact hi) (by rw [C.hN]; exact hj) hij (by rw [C.sc]; exact hx) (by rw [C.sc]; exact hy) (pa_cons ha (pa_cons hb pa_nil (starEach_cons s1.2)) (starEach_cons s1.1)) (sw2 C.kind C.sc hx hy hl hn h1 h2 h3) (by rfl)).imp fun D σ H q => ?_
  obtain ⟨ι, Y, S, σd, R, rs, p⟩ := q
  have p : PostS X.K G Y ι H ((ev cl a σd S).bs σd fun x S => (ev cl b σd S).bs σd fun y S => .nx ((σd.set i (some x)).set j (some y)) S) D W := p
  refine ⟨ι, Y, S, σd, R, rs, (p.bs rs).mono ?_ idE⟩
  rintro v H' ⟨ι1, w, S1, e1, R1, r1, p1⟩
  refine ⟨ι1, Y, S1, σd, R1, rs.evo e1, (p1.bs (rs.evo e1)).mono ?_ idE⟩
  rintro u H2 ⟨ι2, w2, S2, e2, R2, r2, p2⟩
  exact ⟨v, u, rfl, PostS.nx p2 R2 ((((rs.evo e1).evo e2).set i (r1.evo e2)).set j r2)⟩
theorem s_par3 (C : XOk X G T cl lv N sc fn kd W) {i j l : Nat} {x y z : Str} {a b c : E} {ea eb ec : Expr} {px py pz pt pt2 pos : Pos} {kt k2 : Nat} (hi : N[i]? = some x) (hj : N[j]? = some y) (hl' : N[l]? = some z) (hij : i ≠ j) (hil : i ≠ l) (hjl : j ≠ l) (hx : sc.lookup x = some .local) (hy : sc.lookup y = some .local) (hz : sc.lookup z = some .local) (hl : py.line = px.line) (hl2 : pz.line = px.line) (hn : x ≠ y) (hn2 : x ≠ z) (hn3 : y ≠ z)
    (h1 : [ea, eb, ec].all noStar = true) (h2 : [ea, eb, ec].all (foldedForSure 8) = false) (h3 : [ea, eb, ec].all (constantsAlone 8) = false) (ha : PE X ea (tE X.K G (ev cl a) W)) (hb : PE X eb (tE X.K G (ev cl b) W)) (hc : PE X ec (tE X.K G (ev cl c) W)) :
    PS X (.Assign [.Tuple [.Name x px, .Name y py, .Name z pz] kt pt] (.Tuple [ea, eb, ec] k2 pt2) pos) (tS X.K G (ex cl (.par3 i j l a b c)) W) := by
  have s1 : noStar ea = true ∧ noStar eb = true ∧ noStar ec = true := by
    simp only [List.all_cons, List.all_nil, Bool.and_true, Bool.and_eq_true] at h1
    exact h1
  refine (ps_par3 C.calm (by rw [C.hN]; exact C.nd) (by rw [C.hN]; exact hi) (by rw [C.hN]; exact hj) (by rw [C.hN]; exact hl') hij hil hjl (by rw [C.sc]; exact hx) (by rw [C.sc]; exact hy) (by rw [C.sc]; exact hz) (pa_cons ha (pa_cons hb (pa_cons hc pa_nil (starEach_cons s1.2.2)) (starEach_cons s1.2.1)) (starEach_cons s1.1)) (sw3 C.kind C.sc hx hy hz hl hl2 hn hn2 hn3 h1 h2 h3) (by rfl)).imp fun D σ H q => ?_
  obtain ⟨ι, Y, S, σd, R, rs, p⟩ := q
  have p : PostS X.K G Y ι H ((ev cl a σd S).bs σd fun x S => (ev cl b σd S).bs σd fun y S => (ev cl c σd S).bs σd fun z S => .nx (((σd.set i (some x)).set j (some y)).set l (some z)) S) D W := p
  refine ⟨ι, Y, S, σd, R, rs, (p.bs rs).mono ?_ idE⟩
  rintro v H' ⟨ι1, w, S1, e1, R1, r1, p1⟩
  refine ⟨ι1, Y, S1, σd, R1, rs.evo e1, (p1.bs (rs.evo e1)).mono ?_ idE⟩
  rintro u H2 ⟨ι2, w2, S2, e2, R2, r2, p2⟩
  refine ⟨ι2, Y, S2, σd, R2, (rs.evo e1).evo e2, (p2.bs ((rs.evo e1).evo e2)).mono ?_ idE⟩
  rintro t H3 ⟨ι3, w3, S3, e3, R3, r3, p3⟩
  exact ⟨v, u, t, rfl, PostS.nx p3 R3 ((((((rs.evo e1).evo e2).evo e3).set i (r1.evo (e2.trans e3))).set j (r2.evo e3)).set l r3)⟩
theorem s_setIx (C : XOk X G T cl lv N sc fn kd W) {o i v : E} {eo ei evl : Expr} {p pos : Pos} (hc : ∀ l, swapsWith evl (some (.Subscript eo ei p)) l X.env = pure false) (hsl : noSl ei = true) (ho : PE X eo (tE X.K G (ev cl o) W)) (hi : PE X ei (tE X.K G (ev cl i) W)) (hv : PE X evl (tE X.K G (ev cl v) W)) :
    PS X (.Assign [.Subscript eo ei p] evl pos) (tS X.K G (ex cl (.setIx o i v)) W) := by
  refine (ps_asg hv (pg_sub ho hi set_list (by cases ei <;> first | (intro _; rfl) | cases hsl)) (hc pos.line) (by cases evl <;> rfl) (by rfl)).imp fun D σ H q => ?_
  obtain ⟨ι, Y, S, σd, R, rs, p⟩ := q
  have p : PostS X.K G Y ι H ((ev cl v σd S).bs σd fun w S => (ev cl o σd S).bs σd fun x S => (ev cl i σd S).bs σd fun y S => match setIxW x y w S with | some S' => .nx σd S' | none => .bad) D W := p
  refine ⟨ι, Y, S, σd, R, rs, (p.bs rs).mono ?_ idE⟩
  rintro v H' ⟨ι1, w, S1, e1, R1, r1, p1⟩
  refine ⟨ι1, Y, S1, σd, R1, rs.evo e1, (p1.bs (rs.evo e1)).mono ?_ idE⟩
  rintro u H2 ⟨ι2, w2, S2, e2, R2, r2, p2⟩
  refine ⟨ι2, Y, S2, σd, R2, (rs.evo e1).evo e2, (p2.bs ((rs.evo e1).evo e2)).mono ?_ idE⟩
  rintro t H3 ⟨ι3, w3, S3, e3, R3, r3, p3⟩
  have rs3 := ((rs.evo e1).evo e2).evo e3
  cases w2 <;> first | exact p3.elim | skip
  cases w3 <;> first | exact p3.elim | skip
  rename_i n k
  cases r3.int_eq
  cases r2 with
  | ref hn =>
    have hn3 := e3.ext _ _ hn
    unfold setIxW at p3
    cases hS : S3[n]? with
    | none => simp only [hS] at p3; exact p3.elim
    | some so =>
      obtain ⟨a, ho', h1, h2, h3⟩ := R3.obj n so hS
      rw [hn3] at h1
      cases h1
      cases so with
      | lst ws =>
        simp only [hS] at p3
        cases h3 with
        | @lst ws' us l =>
          cases hx : ixN ws.length k with
          | none => simp only [hx] at p3; exact p3.elim
          | some j =>
            simp only [hx] at p3
            obtain ⟨n1, n2⟩ := codeO_lst h2
            refine ⟨_, _, k, j, rfl, rfl, h2, by rw [← l.length]; exact hx, ?_⟩
            have E := evo_write (o := HO.lst (us.set j v)) R3 hn3
            exact p3 ι3 _ σ E (R3.write hn3 n1 n2 (.lst (l.set (r1.evo (e2.trans e3)) j))) (rs3.evo E)
      | _ => simp only [hS] at p3; exact p3.elim
theorem ip_W (o : Bop) : PIp X (bopA o) (fun x y H Q => ∃ ι Y S w w' E, Rel X.K G ι Y S H ∧ RepV X.K H ι Y w x ∧ RepV X.K H ι Y w' y ∧ Post X.K G Y ι H (augW o w w' S) Q E) := by
  intro pins s σ H x y v u Q I r1 r2 h
  obtain ⟨ι, Y, S, w, w', E, R, q1, q2, p⟩ := h
  cases o with
  | add =>
    cases w <;> first | exact p.elim | skip
    cases w' <;> first | exact p.elim | skip
    cases q1.int_eq; cases q2.int_eq
    exact ip_add pins s σ H _ _ v u Q I r1 r2 ⟨_, _, rfl, rfl, p.here R (.int _)⟩
  | sub =>
    cases w <;> first | exact p.elim | skip
    cases w' <;> first | exact p.elim | skip
    cases q1.int_eq; cases q2.int_eq
    exact ip_sub pins s σ H _ _ v u Q I r1 r2 ⟨_, _, rfl, rfl, p.here R (.int _)⟩
  | _ => cases w <;> exact p.elim
theorem s_aug (C : XOk X G T cl lv N sc fn kd W) {i : Nat} {x : Str} (o : Bop) {e : E} {ea : Expr} {p pos : Pos} (hi : N[i]? = some x) (hx : isLoc sc fn x = true) (ha : PE X ea (tE X.K G (ev cl e) W)) : PS X (.AugAssign (.Name x p) (bopA o) ea pos) (tS X.K G (ex cl (.aug i o e)) W) := by
  obtain ⟨l1, l2⟩ := C.loc hx
  refine (ps_aug (i := i) (by rw [C.hN]; exact C.nd) (by rw [C.hN]; exact hi) l1 ha (ip_W (G := G) o) l2).imp fun D σ H q => ?_
  obtain ⟨ι, Y, S, σd, R, rs, p⟩ := q
  have p : PostS X.K G Y ι H (match σd[i]? with | some (some x) => (ev cl e σd S).bs σd fun y S => (augW o x y S).bs σd fun z S => .nx (σd.set i (some z)) S | _ => .bad) D W := p
  cases hσ : σd[i]? with
  | none => rw [hσ] at p; exact p.elim
  | some ow =>
    cases ow with
    | none => rw [hσ] at p; exact p.elim
    | some w =>
      rw [hσ] at p
      obtain ⟨xv, h1, h2⟩ := rs.2 i w hσ
      refine ⟨xv, h1, ι, Y, S, σd, R, rs, ((show PostS X.K G Y ι H ((ev cl e σd S).bs σd fun y S => (augW o w y S).bs σd fun z S => .nx (σd.set i (some z)) S) D W from p).bs rs).mono ?_ idE⟩
      rintro u H2 ⟨ι2, w2, S2, e2, R2, r2, p2⟩
      refine ⟨ι2, Y, S2, w, w2, L2.WE W σ, R2, h2.evo e2, r2, (p2.bs (rs.evo e2)).mono ?_ idE⟩
      rintro z H3 ⟨ι3, w3, S3, e3, R3, r3, p3⟩
      exact PostS.nx p3 R3 (((rs.evo e2).evo e3).set i r3)
theorem s_expr {e : E} {ea : Expr} {pos : Pos} (hs : swapsWith ea none pos.line X.env = pure false) (ha : PE X ea (tE X.K G (ev cl e) W)) : PS X (.Expr ea pos) (tS X.K G (ex cl (.expr e)) W) := by
  refine (ps_expr ha hs).imp fun D σ H q => ?_
  obtain ⟨ι, Y, S, σd, R, rs, p⟩ := q
  have p : PostS X.K G Y ι H ((ev cl e σd S).bs σd fun _ S => .nx σd S) D W := p
  refine ⟨ι, Y, S, σd, R, rs, (p.bs rs).mono ?_ idE⟩
  rintro v H' ⟨ι1, w, S1, e1, R1, r1, p1⟩
  exact PostS.nx p1 R1 (rs.evo e1)
theorem s_ret {e : E} {ea : Expr} {pos : Pos} (ha : PE X ea (tE X.K G (ev cl e) W)) : PS X (.Return (some ea) pos) (tS X.K G (ex cl (.ret e)) W) := by
  refine (ps_ret ha).imp fun D σ H q => ?_
  obtain ⟨ι, Y, S, σd, R, rs, p⟩ := q
  have p : PostS X.K G Y ι H ((ev cl e σd S).bs σd fun w S => .rt w S) D W := p
  refine ⟨ι, Y, S, σd, R, rs, (p.bs rs).mono ?_ idE⟩
  rintro v H' ⟨ι1, w, S1, e1, R1, r1, p1⟩
  exact PostS.rt p1 R1 r1
theorem s_retN {pos : Pos} : PS X (.Return none pos) (tS X.K G (ex cl (.ret (.lit .non))) W) := by
  refine ps_retN.imp fun D σ H q => ?_
  obtain ⟨ι, Y, S, σd, R, rs, p⟩ := q
  exact PostS.rt p R .non
theorem s_ifs {c : E} {a b : Sm} {ec : Expr} {pa pb : List Stmt} {pos : Pos} (hc : PT X ec (tT X.K G (ev cl c) W)) (ha : PSs X pa (tS X.K G (ex cl a) W)) (hb : PSs X pb (tS X.K G (ex cl b) W)) : PS X (.If ec pa pb pos) (tS X.K G (ex cl (.ifs c a b)) W) := by
  refine (ps_if hc ha hb).imp fun D σ H q => ?_
  obtain ⟨ι, Y, S, σd, R, rs, p⟩ := q
  have p : PostS X.K G Y ι H ((ev cl c σd S).bs σd fun t S => iteS t (ex cl a σd S) (ex cl b σd S)) D W := p
  refine ⟨ι, Y, S, σd, R, rs, (p.bs rs).mono ?_ idE⟩
  rintro v H' ⟨ι1, w, S1, e1, R1, r1, p1⟩
  cases w with
  | bl t =>
    cases r1.bl_eq
    refine ⟨t, rfl, ?_⟩
    cases t with
    | true => exact ⟨ι1, Y, S1, σd, R1, rs.evo e1, p1⟩
    | false => exact ⟨ι1, Y, S1, σd, R1, rs.evo e1, p1⟩
  | _ => exact p1.elim
theorem s_whl (hp : PassesOwn (model X.prog X.w) X.A X.env X.xe) {c : E} {b : Sm} {ec : Expr} {pb : List Stmt} {pos : Pos} (hc : PT X ec (tT X.K G (ev cl c) W)) (hb : PSs X pb (tS X.K G (ex cl b) W)) : PS X (.While ec pb [] pos) (tS X.K G (ex cl (.whl c b)) W) := by
  refine (ps_while hp hc hb).imp fun D σ H q => ?_
  obtain ⟨ι, Y, S, σd, R, rs, p⟩ := q
  have p : PostS X.K G Y ι H (wLoop (ev cl c) (ex cl b) fuelW σd S) D W := p
  refine ⟨fun m σ H => ∃ ι Y S σd, Rel X.K G ι Y S H ∧ RepS X.K H ι Y σd σ ∧ PostS X.K G Y ι H (wLoop (ev cl c) (ex cl b) m σd S) D W, ⟨fuelW, ι, Y, S, σd, R, rs, p⟩, ?_⟩
  rintro m σ H ⟨ι, Y, S, σd, R, rs, p⟩
  cases m with
  | zero => exact p.elim
  | succ m =>
    have p : PostS X.K G Y ι H ((ev cl c σd S).bs σd fun t S => iteS t (match ex cl b σd S with
      | .nx σ S => wLoop (ev cl c) (ex cl b) m σ S
      | .ct σ S => wLoop (ev cl c) (ex cl b) m σ S
      | .bk σ S => .nx σ S
      | r => r) (.nx σd S)) D W := p
    refine ⟨ι, Y, S, σd, R, rs, (p.bs rs).mono ?_ idE⟩
    rintro v H' ⟨ι1, w, S1, e1, R1, r1, p1⟩
    cases w with
    | bl t =>
      cases r1.bl_eq
      refine ⟨t, rfl, ?_⟩
      cases t with
      | false => exact PostS.nx p1 R1 (rs.evo e1)
      | true =>
        rw [if_pos rfl]
        refine ⟨fun σ H => ∃ ι Y S σd, Rel X.K G ι Y S H ∧ RepS X.K H ι Y σd σ ∧ PostS X.K G Y ι H (wLoop (ev cl c) (ex cl b) m σd S) D W, fun σ' H' h => ⟨m, Nat.lt_succ_self _, h⟩, ι1, Y, S1, σd, R1, rs.evo e1, ?_⟩
        have p1 : PostS X.K G Y ι1 H' (match ex cl b σd S1 with
          | .nx σ S => wLoop (ev cl c) (ex cl b) m σ S
          | .ct σ S => wLoop (ev cl c) (ex cl b) m σ S
          | .bk σ S => .nx σ S
          | r => r) D W := p1
        cases er : ex cl b σd S1 with
        | nx σ2 S2 => rw [er] at p1; exact fun ι3 H3 σ3 e3 R3 rs3 => ⟨ι3, Y, S2, σ2, R3, rs3, PostS.evo p1 e3⟩
        | ct σ2 S2 => rw [er] at p1; exact fun ι3 H3 σ3 e3 R3 rs3 => ⟨ι3, Y, S2, σ2, R3, rs3, PostS.evo p1 e3⟩
        | bk σ2 S2 => rw [er] at p1; exact p1
        | rt w S2 => rw [er] at p1; exact p1
        | xc c σ2 S2 => rw [er] at p1; exact p1
        | bad => rw [er] at p1; exact p1
    | _ => exact p1.elim
theorem s_for (C : XOk X G T cl lv N sc fn kd W) (hp : PassesOwn (model X.prog X.w) X.A X.env X.xe) {g : Tg} {vs : List Nat} {it : E} {b : Sm} {tg iter : Expr} {pb : List Stmt} {pos : Pos} (hv : inOwn vs g = true) (hns : noSet iter = true) (hi : PI X tg iter (tI X.K G (fun σ S => (ev cl it σ S).bind itK) W)) (hg : PG X tg (tgT X.K g)) (hb : PSs X pb (tS X.K G (ex cl b) W)) :
    PS X (.For tg iter pb [] pos) (tS X.K G (ex cl (.forr g it b)) W) := by
  refine (ps_for hp C.calm hi hg hb (noFold hns)).imp fun D σ H q => ?_
  obtain ⟨ι, Y, S, σd, R, rs, p⟩ := q
  have p : PostS X.K G Y ι H ((ev cl it σd S).bs σd fun x S => match itW x with | some items => fLoop g (ex cl b) items σd S | none => .bad) D W := p
  refine ⟨ι, Y, S, σd, R, rs, ?_⟩
  show PostI X.K G Y ι H ((ev cl it σd S).bind itK) _ _
  cases e : ev cl it σd S with
  | exc c S1 =>
    rw [e] at p
    obtain ⟨Cc, hc, p⟩ := p
    exact ⟨Cc, hc, fun ι' H' ev R' => p ι' H' σ ev R' (rs.evo ev)⟩
  | bad => rw [e] at p; exact p.elim
  | ok x S1 =>
    rw [e] at p
    have p : PostS X.K G Y ι H (match itW x with | some items => fLoop g (ex cl b) items σd S1 | none => .bad) D W := p
    show PostI X.K G Y ι H (itK x S1) _ _
    cases hiw : itW x with
    | none => rw [hiw] at p; exact p.elim
    | some items =>
      rw [hiw] at p
      have ek : itK x S1 = .ok (.lst items) S1 := by unfold itK; rw [hiw]
      rw [ek]
      intro ι1 H1 J e1 R1 w1
      obtain ⟨xs, Gd, wk, rl, hG⟩ := w1
      have ll : items.length = xs.length := rl.length
      refine for_it wk (fun i σ' H' => ∃ (ι' : Io) (S' : Sto) (σd' : Sl), Evo ι1 H1 ι' H' ∧ Rel X.K G ι' Y S' H' ∧ RepS X.K H' ι' Y σd' σ' ∧ PostS X.K G Y ι' H' (fLoop g (ex cl b) (items.drop i) σd' S') D W) ?_ ?_ ?_ ?_
      · exact ⟨ι1, S1, σd, Evo.refl _ _, R1, rs.evo e1, PostS.evo p e1⟩
      · rintro i σ' H' _ ⟨ι', S', σd', ev, _⟩
        exact hG ι' H' ev
      · rintro i xv σ' H' H'' hi2 ⟨ι', S', σd', ev, R', rs', pp⟩ ⟨rfl, hx⟩
        obtain ⟨w, hw, rw1⟩ := rl.getV hx
        have hlt : i < items.length := by omega
        have ed : items.drop i = w :: items.drop (i + 1) := by
          rw [List.drop_eq_getElem_cons hlt]
          rw [List.getElem?_eq_getElem hlt] at hw
          cases hw; rfl
        rw [ed] at pp
        have pp : PostS X.K G Y ι' H'' (match asg g w σd' with
          | some σ' => (match ex cl b σ' S' with
            | .nx σ S => fLoop g (ex cl b) (items.drop (i + 1)) σ S
            | .ct σ S => fLoop g (ex cl b) (items.drop (i + 1)) σ S
            | .bk σ S => .nx σ S
            | r => r)
          | none => .bad) D W := pp
        cases ha : asg g w σd' with
        | none => rw [ha] at pp; exact pp.elim
        | some σa =>
          rw [ha] at pp
          refine asgG vs g w xv σd' σa σ' _ hv ha (rw1.evo ev) rs' fun σ2 rs2 _ => ⟨ι', Y, S', σa, R', rs2, ?_⟩
          have pp : PostS X.K G Y ι' H'' (match ex cl b σa S' with
            | .nx σ S => fLoop g (ex cl b) (items.drop (i + 1)) σ S
            | .ct σ S => fLoop g (ex cl b) (items.drop (i + 1)) σ S
            | .bk σ S => .nx σ S
            | r => r) D W := pp
          cases er : ex cl b σa S' with
          | nx σ3 S3 => rw [er] at pp; exact fun ι3 H3 σ4 e3 R3 rs3 => ⟨ι3, S3, σ3, ev.trans e3, R3, rs3, PostS.evo pp e3⟩
          | ct σ3 S3 => rw [er] at pp; exact fun ι3 H3 σ4 e3 R3 rs3 => ⟨ι3, S3, σ3, ev.trans e3, R3, rs3, PostS.evo pp e3⟩
          | bk σ3 S3 => rw [er] at pp; exact pp
          | rt w S3 => rw [er] at pp; exact pp
          | xc c σ3 S3 => rw [er] at pp; exact pp
          | bad => rw [er] at pp; exact pp
      · rintro σ' H' ⟨ι', S', σd', ev, R', rs', pp⟩
        rw [← ll, List.drop_length] at pp
        exact PostS.nx pp R' rs'
theorem ss_nil : PSs X [] (tS X.K G (ex cl .nil) W) := pss_nil.imp fun D σ H q => by
  obtain ⟨ι, Y, S, σd, R, rs, p⟩ := q
  exact PostS.nx p R rs
theorem ss_seq {a b : Sm} {rest : List Stmt} (ha : PS X st (tS X.K G (ex cl a) W)) (hb : PSs X rest (tS X.K G (ex cl b) W)) : PSs X (st :: rest) (tS X.K G (ex cl (.seq a b)) W) := by
  refine (pss_cons ha hb).imp fun D σ H q => ?_
  obtain ⟨ι, Y, S, σd, R, rs, p⟩ := q
  have p : PostS X.K G Y ι H (match ex cl a σd S with | .nx σ S => ex cl b σ S | r => r) D W := p
  refine ⟨ι, Y, S, σd, R, rs, ?_⟩
  cases er : ex cl a σd S with
  | nx σ2 S2 => rw [er] at p; exact fun ι3 H3 σ3 e3 R3 rs3 => ⟨ι3, Y, S2, σ2, R3, rs3, PostS.evo p e3⟩
  | ct σ2 S2 => rw [er] at p; exact p
  | bk σ2 S2 => rw [er] at p; exact p
  | rt w S2 => rw [er] at p; exact p
  | xc c σ2 S2 => rw [er] at p; exact p
  | bad => rw [er] at p; exact p
end
end Dy

end
section
set_option Elab.async false
set_option linter.all false
set_option maxRecDepth 100000
set_option maxHeartbeats 400000
/-! Dy, part N: the checker of statements and its soundness; functions. -/
namespace Dy
open PySem PySem.Spec PyProof.Rows L2

def noComp : Expr → Bool
  | .ListComp .. => false
  | .SetComp .. => false
  | .DictComp .. => false
  | _ => true
theorem noComp_none {e : Expr} {l : Nat} {env : Env} (h : noComp e = true) : swapsWith e none l env = pure false := by
  cases e <;> first | rfl | cases h
def isNm : Tg → Bool
  | .nm _ => true
  | _ => false
mutual
def chkS (T : GT) (N : List Str) : Sm → Scn → (Str → Bool) → Kd → Stmt → Bool
  | .set g e, sc, fn, kd, x => match x with
    | .Assign [tg] v _ => chkG N sc fn g tg && (inOwn (List.range N.length) g && (chkE T N e false sc fn kd v && (noneSw sc tg v && noStar tg)))
    | _ => false
  | .par2 i j a b, sc, fn, kd, x => match x with
    | .Assign [.Tuple [.Name x px, .Name y py] _ _] (.Tuple [ea, eb] _ _) _ => decide (N[i]? = some x ∧ N[j]? = some y ∧ i ≠ j ∧ sc.lookup x = some .local ∧ sc.lookup y = some .local ∧ py.line = px.line ∧ x ≠ y) &&
        ([ea, eb].all noStar && (![ea, eb].all (foldedForSure 8) && (![ea, eb].all (constantsAlone 8) && (chkE T N a false sc fn kd ea && chkE T N b false sc fn kd eb))))
    | _ => false
  | .par3 i j l a b c, sc, fn, kd, x => match x with
    | .Assign [.Tuple [.Name x px, .Name y py, .Name z pz] _ _] (.Tuple [ea, eb, ec] _ _) _ => decide (N[i]? = some x ∧ N[j]? = some y ∧ N[l]? = some z ∧ i ≠ j ∧ i ≠ l ∧ j ≠ l) && (decide (sc.lookup x = some .local ∧ sc.lookup y = some .local ∧ sc.lookup z = some .local ∧ py.line = px.line ∧ pz.line = px.line ∧ x ≠ y ∧ x ≠ z ∧ y ≠ z) &&
        ([ea, eb, ec].all noStar && (![ea, eb, ec].all (foldedForSure 8) && (![ea, eb, ec].all (constantsAlone 8) && (chkE T N a false sc fn kd ea && (chkE T N b false sc fn kd eb && chkE T N c false sc fn kd ec))))))
    | _ => false
  | .setIx o i v, sc, fn, kd, x => match x with
    | .Assign [.Subscript eo ei _] ev _ => noSl ei && (chkE T N o false sc fn kd eo && (chkE T N i false sc fn kd ei && chkE T N v false sc fn kd ev))
    | _ => false
  | .aug i o e, sc, fn, kd, x => match x with
    | .AugAssign (.Name x _) op ea _ => decide (op = bopA o ∧ N[i]? = some x) && (isLoc sc fn x && chkE T N e false sc fn kd ea)
    | _ => false
  | .expr e, sc, fn, kd, x => match x with
    | .Expr ea _ => noComp ea && chkE T N e false sc fn kd ea
    | _ => false
  | .ifs c a b, sc, fn, kd, x => match x with
    | .If ec pa pb _ => chkE T N c false sc fn kd ec && (chkSs T N a sc fn kd pa && chkSs T N b sc fn kd pb)
    | _ => false
  | .whl c b, sc, fn, kd, x => match x with
    | .While ec pb [] _ => chkE T N c false sc fn kd ec && chkSs T N b sc fn kd pb
    | _ => false
  | .forr g it b, sc, fn, kd, x => match x with
    | .For tg iter pb [] _ => chkG N sc fn g tg && (inOwn (List.range N.length) g && (noSet iter && (chkE T N it true sc fn kd iter && chkSs T N b sc fn kd pb)))
    | _ => false
  | .ret e, sc, fn, kd, x => match x with
    | .Return (some ea) _ => chkE T N e false sc fn kd ea
    | .Return none _ => noB e
    | _ => false
  | .rais c, sc, fn, kd, x => match x with
    | .Raise (some (.Call (.Name y _) [.Constant (.str _) _ _] [] _)) none _ => decide (y = c) && (isGl sc c && T.excs.contains c)
    | _ => false
  | .pass, sc, fn, kd, x => match x with
    | .Pass _ => true
    | .Expr (.Constant (.str _) _ _) _ => true
    | _ => false
  | .brk, sc, fn, kd, x => match x with
    | .Break _ => true
    | _ => false
  | .cnt, sc, fn, kd, x => match x with
    | .Continue _ => true
    | _ => false
  | .nil, _, _, _, _ => false
  | .seq _ _, _, _, _, _ => false
def chkSs (T : GT) (N : List Str) : Sm → Scn → (Str → Bool) → Kd → List Stmt → Bool
  | .nil, _, _, _, as => as.isEmpty
  | .seq a b, sc, fn, kd, as => match as with
    | st :: rest => chkS T N a sc fn kd st && chkSs T N b sc fn kd rest
    | [] => false
  | _, _, _, _, _ => false
end
structure SndS (T : GT) (N : List Str) (G : Glob) (cl : Clr) (lv : Nat) (m : Sm) : Prop where
  s : ∀ (sc : Scn) (fn : Str → Bool) (kd : Kd) (W : WX) (X : Cx) (a : Stmt), XOk X G T cl lv N sc fn kd W → PassesOwn (model X.prog X.w) X.A X.env X.xe → chkS T N m sc fn kd a = true → PS X a (tS X.K G (ex cl m) W)
  l : ∀ (sc : Scn) (fn : Str → Bool) (kd : Kd) (W : WX) (X : Cx) (as : List Stmt), XOk X G T cl lv N sc fn kd W → PassesOwn (model X.prog X.w) X.A X.env X.xe → chkSs T N m sc fn kd as = true → PSs X as (tS X.K G (ex cl m) W)
section
variable {T : GT} {N : List Str} {G : Glob} {cl : Clr} {lv : Nat}
theorem SndS.mk1 {m : Sm} (h : ∀ (sc : Scn) (fn : Str → Bool) (kd : Kd) (W : WX) (X : Cx) (a : Stmt), XOk X G T cl lv N sc fn kd W → PassesOwn (model X.prog X.w) X.A X.env X.xe → chkS T N m sc fn kd a = true → PS X a (tS X.K G (ex cl m) W))
    (hl : ∀ sc fn kd as, chkSs T N m sc fn kd as = false) : SndS T N G cl lv m := ⟨h, fun sc fn kd W X as C hp z => by rw [hl] at z; cases z⟩
theorem snd_set (g : Tg) (e : E) : SndS T N G cl lv (.set g e) := .mk1 (fun sc fn kd W X a C hp h => by
    unfold chkS at h
    split at h
    · rename_i tg v pos
      simp only [Bool.and_eq_true] at h
      obtain ⟨h1, h2, h3, h4, h5⟩ := h
      have hg := chkG_ok (T := T) (G := G) (cl := cl) (lv := lv) C g tg h1
      have he := (snd (T := T) (N := N) (G := G) (cl := cl) (lv := lv) e).e sc fn kd W X v C h3
      by_cases hsw : swC sc tg v = true
      · -- the comprehension's local
        cases tg with
        | Name y py =>
          cases g with
          | nm i =>
            have hi : (decide (N[i]? = some y) && isLoc sc fn y) = true := h1
            rw [Bool.and_eq_true, decide_eq_true_eq] at hi
            have key : PS X (.Assign [.Name y py] v pos) (tAsg (tE X.K G (ev cl e) W) (gName i)) := by
              cases v with
              | ListComp elt gs scope p =>
                cases e with
                | lc g' it c e' own =>
                  unfold chkE at h3
                  split at h3
                  · rename_i elt' tg' iter' ifs' isas scope' p' eq
                    cases eq
                    simp only [Bool.and_eq_true] at h3
                    obtain ⟨a0, a1, a2, a3, a4, a5, a6, a7⟩ := h3
                    rw [decide_eq_true_eq] at a0
                    subst a0
                    have hyl : sc.lookup y = some .local := by
                      have z : (decide (sc.lookup y = some .local) && _) = true := hsw
                      rw [Bool.and_eq_true, decide_eq_true_eq] at z
                      exact z.1
                    obtain ⟨tt, ht, hts⟩ := ifs_ok (G := G) (cl := cl) (lv := lv) (snd c) a6 X
                    exact s_setLc C hi.1 hyl hsw a1 a2 a3 ht ((snd it).i sc fn kd W X tg' _ C a4) (fun X' eK C' => by rw [← eK]; exact chkG_ok C' g' tg' a5) hts (fun X' eK C' => by rw [← eK]; exact (snd e').e _ _ kd _ X' _ C' a7)
                  · cases h3
                | _ => cases h3
              | DictComp kx elt gs scope p =>
                cases e with
                | dc g' it c k' e' own =>
                  unfold chkE at h3
                  split at h3
                  · rename_i kx' elt' tg' iter' ifs' isas scope' p' eq
                    cases eq
                    simp only [Bool.and_eq_true] at h3
                    obtain ⟨a0, a1, a2, a3, a4, a5, a6, a7, a8⟩ := h3
                    rw [decide_eq_true_eq] at a0
                    subst a0
                    have hyl : sc.lookup y = some .local := by
                      have z : (decide (sc.lookup y = some .local) && _) = true := hsw
                      rw [Bool.and_eq_true, decide_eq_true_eq] at z
                      exact z.1
                    obtain ⟨tt, ht, hts⟩ := ifs_ok (G := G) (cl := cl) (lv := lv) (snd c) a6 X
                    exact s_setDc C hi.1 hyl hsw a1 a2 a3 ht ((snd it).i sc fn kd W X tg' _ C a4) (fun X' eK C' => by rw [← eK]; exact chkG_ok C' g' tg' a5) hts (fun X' eK C' => by rw [← eK]; exact (snd k').e _ _ kd _ X' _ C' a7) (fun X' eK C' => by rw [← eK]; exact (snd e').e _ _ kd _ X' _ C' a8)
                  · cases h3
                | _ => cases h3
              | SetComp elt gs scope p => cases e <;> cases h3
              | _ => cases hsw
            exact key.imp fun D σ H q => w_set (g := .nm i) h2 D σ H q
          | _ => cases h1
        | _ => cases hsw
      · rw [Bool.not_eq_true] at hsw
        refine (ps_asg he hg (by show swapsWith v (some tg) pos.line X.env = _; rw [swC_ok C.kind C.sc, hsw]) (noneSw_ok C.kind C.sc h4) (by cases tg <;> first | rfl | cases h5)).imp fun D σ H q => w_set h2 D σ H q
    · cases h) (fun _ _ _ _ => rfl)
theorem snd_par2 (i j : Nat) (a b : E) : SndS T N G cl lv (.par2 i j a b) := .mk1 (fun sc fn kd W X x C hp h => by
    unfold chkS at h
    split at h
    · simp only [Bool.and_eq_true, Bool.not_eq_true'] at h
      obtain ⟨h0, h1, h2, h3, h4, h5⟩ := h
      rw [decide_eq_true_eq] at h0
      obtain ⟨a1, a2, a3, a4, a5, a6, a7⟩ := h0
      exact s_par2 C a1 a2 a3 a4 a5 a6 a7 h1 h2 h3 ((snd a).e sc fn kd W X _ C h4) ((snd b).e sc fn kd W X _ C h5)
    · cases h) (fun _ _ _ _ => rfl)
theorem snd_par3 (i j l : Nat) (a b c : E) : SndS T N G cl lv (.par3 i j l a b c) := .mk1 (fun sc fn kd W X x C hp h => by
    unfold chkS at h
    split at h
    · simp only [Bool.and_eq_true, Bool.not_eq_true'] at h
      obtain ⟨h0, h00, h1, h2, h3, h4, h5, h6⟩ := h
      rw [decide_eq_true_eq] at h0 h00
      obtain ⟨a1, a2, a3, a4, a5, a6⟩ := h0
      obtain ⟨b1, b2, b3, b4, b5, b6, b7, b8⟩ := h00
      exact s_par3 C a1 a2 a3 a4 a5 a6 b1 b2 b3 b4 b5 b6 b7 b8 h1 h2 h3 ((snd a).e sc fn kd W X _ C h4) ((snd b).e sc fn kd W X _ C h5) ((snd c).e sc fn kd W X _ C h6)
    · cases h) (fun _ _ _ _ => rfl)
theorem snd_setIx (o i v : E) : SndS T N G cl lv (.setIx o i v) := .mk1 (fun sc fn kd W X x C hp h => by
    unfold chkS at h
    split at h
    · simp only [Bool.and_eq_true] at h
      obtain ⟨h1, h2, h3, h4⟩ := h
      exact s_setIx C (fun l => by rw [swC_ok C.kind C.sc]; rename_i v' _; cases v' <;> rfl) h1 ((snd o).e sc fn kd W X _ C h2) ((snd i).e sc fn kd W X _ C h3) ((snd v).e sc fn kd W X _ C h4)
    · cases h) (fun _ _ _ _ => rfl)
theorem snd_aug (i : Nat) (o : Bop) (e : E) : SndS T N G cl lv (.aug i o e) := .mk1 (fun sc fn kd W X x C hp h => by
    unfold chkS at h
    split at h
    · simp only [Bool.and_eq_true] at h
      obtain ⟨h0, h1, h2⟩ := h
      rw [decide_eq_true_eq] at h0
      obtain ⟨rfl, h0⟩ := h0
      exact s_aug C o h0 h1 ((snd e).e sc fn kd W X _ C h2)
    · cases h) (fun _ _ _ _ => rfl)
theorem snd_expr (e : E) : SndS T N G cl lv (.expr e) := .mk1 (fun sc fn kd W X x C hp h => by
    unfold chkS at h
    split at h
    · rw [Bool.and_eq_true] at h
      exact s_expr (noComp_none h.1) ((snd e).e sc fn kd W X _ C h.2)
    · cases h) (fun _ _ _ _ => rfl)
theorem snd_ifs (c : E) {a b : Sm} (ia : SndS T N G cl lv a) (ib : SndS T N G cl lv b) : SndS T N G cl lv (.ifs c a b) := .mk1 (fun sc fn kd W X x C hp h => by
    unfold chkS at h
    split at h
    · simp only [Bool.and_eq_true] at h
      obtain ⟨h1, h2, h3⟩ := h
      exact s_ifs ((snd c).t sc fn kd W X _ C h1).1 (ia.l sc fn kd W X _ C hp h2) (ib.l sc fn kd W X _ C hp h3)
    · cases h) (fun _ _ _ _ => rfl)
theorem snd_whl (c : E) {b : Sm} (ib : SndS T N G cl lv b) : SndS T N G cl lv (.whl c b) := .mk1 (fun sc fn kd W X x C hp h => by
    unfold chkS at h
    split at h
    · simp only [Bool.and_eq_true] at h
      exact s_whl hp ((snd c).t sc fn kd W X _ C h.1).1 (ib.l sc fn kd W X _ C hp h.2)
    · cases h) (fun _ _ _ _ => rfl)
theorem snd_for (g : Tg) (it : E) {b : Sm} (ib : SndS T N G cl lv b) : SndS T N G cl lv (.forr g it b) := .mk1 (fun sc fn kd W X x C hp h => by
    unfold chkS at h
    split at h
    · rename_i tg iter pb pos
      simp only [Bool.and_eq_true] at h
      obtain ⟨h1, h2, h3, h4, h5⟩ := h
      exact s_for C hp h2 h3 ((snd it).i sc fn kd W X tg _ C h4) (chkG_ok C g tg h1) (ib.l sc fn kd W X _ C hp h5)
    · cases h) (fun _ _ _ _ => rfl)
theorem snd_ret (e : E) : SndS T N G cl lv (.ret e) := .mk1 (fun sc fn kd W X x C hp h => by
    unfold chkS at h
    split at h
    · exact s_ret ((snd e).e sc fn kd W X _ C h)
    · unfold noB at h
      split at h
      · exact s_retN
      · cases h
    · cases h) (fun _ _ _ _ => rfl)
theorem snd_rais (c : Str) : SndS T N G cl lv (.rais c) := .mk1 (fun sc fn kd W X x C hp h => by
    unfold chkS at h
    split at h
    · simp only [Bool.and_eq_true] at h
      obtain ⟨h0, h1, h2⟩ := h
      rw [decide_eq_true_eq] at h0
      subst h0
      obtain ⟨gl, d, _⟩ := C.gl h1
      obtain ⟨Cc, B, newId, initId, bmB, f1, f2, f3, f4, f5, f6, f7⟩ := C.g.excs _ h2
      refine (ps_raise C.calm C.tk (pmk_own f1 f2 f3 f4 (raises_own f5 f6) gl d)).imp fun D σ H q => ?_
      obtain ⟨ι, Y, S, σd, R, rs, p⟩ := q
      obtain ⟨C2, hc, p⟩ := p
      rw [f7] at hc
      cases hc
      exact p ι H σ (Evo.refl _ _) R rs
    · cases h) (fun _ _ _ _ => rfl)
theorem snd_pass : SndS T N G cl lv .pass := .mk1 (fun sc fn kd W X x C hp h => by
    have key : ∀ D σ H, tS X.K G (ex cl .pass) W D σ H → tNext D σ H := fun D σ H q => by
      obtain ⟨ι, Y, S, σd, R, rs, p⟩ := q
      exact PostS.nx p R rs
    unfold chkS at h
    split at h
    · exact ps_pass.imp key
    · exact ps_doc.imp key
    · cases h) (fun _ _ _ _ => rfl)
theorem snd_brk : SndS T N G cl lv .brk := .mk1 (fun sc fn kd W X x C hp h => by
    unfold chkS at h
    split at h
    · exact ps_break.imp fun D σ H q => by
        obtain ⟨ι, Y, S, σd, R, rs, p⟩ := q
        exact p ι H σ (Evo.refl _ _) R rs
    · cases h) (fun _ _ _ _ => rfl)
theorem snd_cnt : SndS T N G cl lv .cnt := .mk1 (fun sc fn kd W X x C hp h => by
    unfold chkS at h
    split at h
    · exact ps_continue.imp fun D σ H q => by
        obtain ⟨ι, Y, S, σd, R, rs, p⟩ := q
        exact p ι H σ (Evo.refl _ _) R rs
    · cases h) (fun _ _ _ _ => rfl)
theorem snd_nilS : SndS T N G cl lv .nil := ⟨fun sc fn kd W X x C hp h => (by cases h), fun sc fn kd W X as C hp h => by
  unfold chkSs at h
  cases as with
  | nil => exact ss_nil
  | cons _ _ => cases h⟩
theorem snd_seq {a b : Sm} (ia : SndS T N G cl lv a) (ib : SndS T N G cl lv b) : SndS T N G cl lv (.seq a b) := ⟨fun sc fn kd W X x C hp h => (by cases h), fun sc fn kd W X as C hp h => by
  unfold chkSs at h
  cases as with
  | nil => cases h
  | cons st rest =>
    rw [Bool.and_eq_true] at h
    exact ss_seq (ia.s sc fn kd W X _ C hp h.1) (ib.l sc fn kd W X _ C hp h.2)⟩
/-- THE soundness of statements -/
theorem sndS (m : Sm) : SndS T N G cl lv m := by
  induction m with
  | set g e => exact snd_set g e
  | par2 i j a b => exact snd_par2 i j a b
  | par3 i j l a b c => exact snd_par3 i j l a b c
  | setIx o i v => exact snd_setIx o i v
  | aug i o e => exact snd_aug i o e
  | expr e => exact snd_expr e
  | ifs c a b ia ib => exact snd_ifs c ia ib
  | whl c b ib => exact snd_whl c ib
  | forr g it b ib => exact snd_for g it ib
  | ret e => exact snd_ret e
  | rais c => exact snd_rais c
  | pass => exact snd_pass
  | brk => exact snd_brk
  | cnt => exact snd_cnt
  | nil => exact snd_nilS
  | seq a b ia ib => exact snd_seq ia ib
end

/-! ### functions -/
/-- what a def's code object must tell -/
def FnKd (base : Heap) (mg : Str → Option Value) (G : Glob) (q : Str) (cdv : Value) : Kd → Prop
  | .no => True
  | .gen => ∃ c P, cdv = .ref c ∧ GxR.TabB base mg c P ∧ P ∈ G.gens ∧ ∀ p ∈ G.tabs, p.1 ≠ P
  | .lam => ∃ c P, cdv = .ref c ∧ LamX.TabB base mg c P ∧ (P, q ++ ".<locals>." ++ "<lambda>") ∈ G.tabs ∧ (∀ p ∈ G.tabs, p.1 = P → p.2 = q ++ ".<locals>." ++ "<lambda>") ∧ P ∉ G.gens
/-- a def of the module with its own small text -/
structure FnF (K : PySem.W.Frag) (mg : Str → Option Value) (base : Heap) (G : Glob) (T : GT) (x : Str) (d : FD) : Prop where
  ex : ∃ (f : Addr) (params : Arguments) (body : List Stmt) (scope : Scope) (dV kV doc pm cdv ct oc : Value) (an od : Option Addr) (osl : Array (Option Value)) (N ps : List Str) (kd : Kd),
    mg x = some (.ref f) ∧ PySem.W.keepIn K (.ref f) = true ∧ K.lookup f = some ⟨oc, od, .func (PySem.W.fnOf x x params body scope dV kV doc pm an cdv ct), osl⟩ ∧ PySem.W.codeIn K cdv x = true ∧ FnScope N ps scope ∧
    Binds K (PySem.W.fnOf x x params body scope dV kV doc pm an cdv ct) ps [] ∧ ps.length = d.np ∧ N.length = d.ns ∧ chkSs T N d.body scope.names (fun _ => true) kd body = true ∧ FnKd base mg G x cdv kd
theorem run_arity {FT : Str → Option FD} {n : Nat} {x : Str} {d : FD} (h : FT x = some d) {ws : List Wv} {S : Sto} (hl : ws.length ≠ d.np) : run FT n x ws S = .bad := by
  cases n with
  | zero => rfl
  | succ n =>
    show (match FT x with | none => Res.bad | some d => if ws.length = d.np then leave (ex (run FT n) d.body (startW d.ns ws) S) else .bad) = .bad
    rw [h]
    exact if_neg hl
theorem start_rep {K : PySem.W.Frag} {H : Hp} {ι : Io} {Y : Addr → Prop} {ws : List Wv} {vs : List V} (N : List Str) (l : RepL K H ι Y ws vs) : RepS K H ι Y (startW N.length ws) (L2.start N vs) := by
  unfold startW L2.start
  refine ⟨by simp [l.length], fun i w e => ?_⟩
  by_cases hi : i < ws.length
  · rw [List.getElem?_append_left (by simpa using hi), List.getElem?_map] at e
    cases e1 : ws[i]? with
    | none => rw [e1] at e; cases e
    | some w' =>
      rw [e1] at e
      cases e
      obtain ⟨v, h1, h2⟩ := l.get e1
      refine ⟨v, ?_, h2⟩
      rw [List.getElem?_append_left (by rw [List.length_map, ← l.length]; exact hi), List.getElem?_map, h1]
      rfl
  · rw [List.getElem?_append_right (by simpa using hi), List.getElem?_replicate] at e
    split at e <;> cases e
theorem fn_run {P : Program} {w : World} {K : PySem.W.Frag} {mg : Str → Option Value} {base : Heap} {G : Glob} {T : GT} {FT : Str → Option FD} {n : Nat} (g : GOk P w K mg base G T (run FT n) (5 * n)) {x : Str} {d : FD} (hx : FT x = some d)
    {f : Addr} {params : Arguments} {body : List Stmt} {scope : Scope} {dV kV doc pm cdv ct oc : Value} {an od : Option Addr} {osl : Array (Option Value)} {N ps : List Str} {kd : Kd}
    (h3 : K.lookup f = some ⟨oc, od, .func (PySem.W.fnOf x x params body scope dV kV doc pm an cdv ct), osl⟩) (h4 : PySem.W.codeIn K cdv x = true) (h5 : FnScope N ps scope) (h7 : ps.length = d.np) (h8 : N.length = d.ns) (h9 : chkSs T N d.body scope.names (fun _ => true) kd body = true) (h10 : FnKd base mg G x cdv kd) :
    FnOk P w K mg base (CX P w) (5 * (n + 1)) f (PySem.W.fnOf x x params body scope dV kV doc pm an cdv ct) ps (spC K G (run FT (n + 1) x)) := by
  refine fn_of (N := N) (ps := ps) (k := 5 * n + 4) h3 h4 h5 (fun vs H Q E h => ?_) (fun A outer s H vs Q E hr h => ?_)
  · obtain ⟨ι, Y, S, ws, R, l, p⟩ := h
    rw [h7, ← l.length]
    by_cases hl : ws.length = d.np
    · exact hl
    · rw [run_arity hx hl] at p
      exact p.elim
  · obtain ⟨ι, Y, S, ws, R, l, p⟩ := h
    have C : XOk (cxOf (CX P w) P w K mg base N x scope f cdv A outer s H E) G T (run FT n) (5 * n) N scope.names (fun _ => true) kd (fun cls d _ H => E cls d H) :=
      { g := g, hN := rfl, nd := h5.nd, kind := h5.kind, sc := rfl, fn := rfl, calm := rfl, room := hr.mono (Nat.add_le_add_left (by decide) _), tk := takes_of rfl rfl rfl rfl,
        kd := by
          cases kd with
          | no => trivial
          | gen => exact h10
          | lam =>
            obtain ⟨c, Pt, a1, a2, a3, a4, a5⟩ := h10
            exact ⟨c, Pt, a1, a2, a3, a4, a5, hr⟩ }
    refine ⟨_, (sndS (T := T) (N := N) (G := G) (cl := run FT n) (lv := 5 * n) d.body).l scope.names _ kd _ _ body C (passes_of rfl) h9, ι, Y, S, startW d.ns ws, R, by rw [← h8]; exact start_rep N l, ?_⟩
    have p : Post K G Y ι H (match FT x with | none => Res.bad | some d => if ws.length = d.np then leave (ex (run FT n) d.body (startW d.ns ws) S) else .bad) Q E := p
    rw [hx] at p
    by_cases hl : ws.length = d.np
    · have p : Post K G Y ι H (if ws.length = d.np then leave (ex (run FT n) d.body (startW d.ns ws) S) else .bad) Q E := p
      rw [if_pos hl] at p
      show PostS K G Y ι H (ex (run FT n) d.body (startW d.ns ws) S) _ _
      cases er : ex (run FT n) d.body (startW d.ns ws) S with
      | nx σ2 S2 => rw [er] at p; exact fun ι' H' σ' ev R' _ => p ι' H' _ ev R' .non
      | rt w2 S2 => rw [er] at p; exact p
      | bk σ2 S2 => rw [er] at p; exact p.elim
      | ct σ2 S2 => rw [er] at p; exact p.elim
      | xc c σ2 S2 =>
        rw [er] at p
        obtain ⟨Cc, hc, p⟩ := p
        exact ⟨Cc, hc, fun ι' H' σ' ev R' _ => p ι' H' ev R'⟩
      | bad => rw [er] at p; exact p.elim
    · have p : Post K G Y ι H (if ws.length = d.np then leave (ex (run FT n) d.body (startW d.ns ws) S) else .bad) Q E := p
      rw [if_neg hl] at p
      exact p.elim
theorem fn_ok {P : Program} {w : World} {K : PySem.W.Frag} {mg : Str → Option Value} {base : Heap} {G : Glob} {T : GT} {FT : Str → Option FD} {n : Nat} (g : GOk P w K mg base G T (run FT n) (5 * n)) {x : Str} {d : FD} (hx : FT x = some d) (F : FnF K mg base G T x d) :
    ∃ f fd ps, mg x = some (.ref f) ∧ PySem.W.keepIn K (.ref f) = true ∧ Binds K fd ps [] ∧ FnOk P w K mg base (CX P w) (5 * (n + 1)) f fd ps (spC K G (run FT (n + 1) x)) := by
  obtain ⟨f, params, body, scope, dV, kV, doc, pm, cdv, ct, oc, an, od, osl, N, ps, kd, h1, h2, h3, h4, h5, h6, h7, h8, h9, h10⟩ := F.ex
  exact ⟨f, _, ps, h1, h2, h6, fn_run g hx h3 h4 h5 h7 h8 h9 h10⟩
/-! ### lambdas that capture nothing, run -/
def noLam (T : GT) : GT := { T with lamc := fun _ _ => false }
theorem GOk.noLam {P : Program} {w : World} {K : PySem.W.Frag} {mg : Str → Option Value} {base : Heap} {G : Glob} {T : GT} {cl : Clr} {lv : Nat} (g : GOk P w K mg base G T cl lv) : GOk P w K mg base G (Dy.noLam T) cl lv :=
  ⟨g.fns, g.cons, g.bis, g.tolds, g.excs, fun k x h => (by cases h), g.lams⟩
/-- the context of such a lambda's body -/
def lam0 (P : Program) (w : World) (K : PySem.W.Frag) (mg : Str → Option Value) (base : Heap) (q : Str) (scope : Scope) (f c : Addr) (A : Around) (outer : List Env) (s : Shared) (H : Hp) (E : XK) : Cx where
  prog := P
  w := w
  K := K
  mg := mg
  base := base
  A := A.deeper (PySem.W.envX q scope s.heap.objs.size f (.ref c) [])
  N := []
  s_0 := s
  H_0 := H
  env := PySem.W.envX q scope s.heap.objs.size f (.ref c) []
  outer := outer
  stack := PySem.W.envX q scope s.heap.objs.size f (.ref c) [] :: outer
  ex := []
  fn := fun _ => false
  calm := true
  pn := []
  xe := fun e s' => wpAny (model P w) (A.deeper (PySem.W.envX q scope s.heap.objs.size f (.ref c) [])) (leaving (PySem.W.envX q scope s.heap.objs.size f (.ref c) []) e) (fun _ s'' => CX P w outer H s E e s'') (fun e' s'' => CX P w outer H s E e' s'') s'
theorem lam0_start {P : Program} {w : World} {K : PySem.W.Frag} {mg : Str → Option Value} {base : Heap} {q : Str} {scope : Scope} {f c : Addr} {A : Around} {outer : List Env} {s : Shared} {H : Hp} {E : XK} {h₁ : Heap} {tk : Nat} {m : Str → Option Value} (cs : Closed scope) (e0 : Env0 P w K mg base A outer s H) (hd : A.handled = none)
    (hns : h₁.Ns s.heap.objs.size m) (kp : ∀ b o, s.heap.get? b = some o → h₁.get? b = some o) :
    Inv (lam0 P w K mg base q scope f c A outer s H E) [] [] H { s with heap := h₁, toks := tk } := by
  have noA : ∀ b : Addr, b ∉ (lam0 P w K mg base q scope f c A outer s H E).ex := fun b z => absurd (show b ∈ ([] : List Addr) from z) (by simp)
  refine ⟨⟨e0.mod, cs.kind, rfl, rfl, Nat.le_refl _, fun y z c h1 _ => ?_, fun y hy => ?_, fun y c z _ => ?_, fun _ => hd, Around.frames_deeper e0.frames, .inr ⟨rfl, rfl⟩, fun b z => absurd z (noA b), e0.bs, e0.bsz, fun b _ _ => noA b, fun b z => absurd z (noA b), e0.funs, e0.frf⟩,
    rfl, e0.bare, Un.kept kp, ⟨_, hns, fun i y v h1 h2 h3 => ?_⟩, fun y c h => ?_, e0.hok.fresh (Nat.le_refl _), fun y c h => ?_, fun p hp => absurd (show p ∈ ([] : List (Addr × Obj)) from hp) (by simp), e0.hok.kept kp, rfl⟩
  · cases h1
  · have hy : scope.names.lookup y = some .cell ∨ scope.names.lookup y = some .free := hy
    rcases hy with hy | hy
    · exact absurd rfl (cs.no _ (PySem.mem_of_lookup hy)).2.1
    · exact absurd rfl (cs.no _ (PySem.mem_of_lookup hy)).2.2
  · cases z
  · have h1 : ([] : List Str)[i]? = some y := h1
    simp at h1
  · cases h
  · cases h
/-- the IR of such a lambda, as a def's -/
def lamFD (e : E) : FD := ⟨0, 0, .seq (.ret e) .nil⟩
theorem lam_run {P : Program} {w : World} {K : PySem.W.Frag} {mg : Str → Option Value} {base : Heap} {G : Glob} {T : GT} {FT : Str → Option FD} {n : Nat} (g : GOk P w K mg base G T (run FT n) (5 * n))
    (hB : ∀ k body scope, G.lamB k body scope → ∃ e, FT (lamName k) = some (lamFD e) ∧ chkE (noLam T) [] e false scope.names (fun _ => false) .no body = true)
    (k : Nat) (A : Around) (outer : List Env) (s : Shared) (H : Hp) (a c : Addr) (q : Str) (Q : VK) (E : XK) (hr : Room (5 * (n + 1)) A) (e0 : Env0 P w K mg base A outer s H) (hf : H a = some (.ext (LamAt G k a c q))) (hco : H c = some (LamX.CodeO c q)) (hsp : spC K G (run FT (n + 1) (lamName k)) [] H Q E) :
    codeAny (model P w) A (.call (.ref a) ⟨[], []⟩) (CR (CX P w) outer P w H s Q E) s := by
  obtain ⟨⟨params, body, scope, pm, ctv, hp, hcl, hb, of1⟩, _, _⟩ := e0.hok a _ hf
  obtain ⟨⟨oc, vs, t, hoc, hdc, hvc⟩, _, _⟩ := e0.hok c _ hco
  obtain ⟨e, hFT, hchk⟩ := hB k body scope hb
  obtain ⟨ι, Y, S, ws, R, l, p⟩ := hsp
  cases l
  have cs := closed_by hcl
  have hpa := noArgs_eq hp
  subst hpa
  have lim : s.heap.NoLimit := e0.mod.nolimit.keeps fun b o e => (e0.bs b o e).1
  refine PySem.W.kla_callFunE hr.depth of1 rfl cs.co cs.gen rfl ⟨c, oc, vs, t, rfl, hoc, hdc, hvc⟩ ?_
  refine wpAny_pure (wpAny_newFunctionEnv (fun y hy => (cs.no y hy).2.1) (fun y hy => absurd hy (by simp)) (fun h₁ hns hsb => ⟨lim.fresh _ hsb, ?_⟩) cs.kind)
  show codeAny _ _ (.expr body (PySem.W.envX q scope s.heap.objs.size a (.ref c) [])) _ _
  have kp : ∀ b o, s.heap.get? b = some o → h₁.get? b = some o := fun b o e => hsb.extBut b o (Nat.ne_of_lt (Heap.lt_size e)) (Heap.get?_push_of_some _ e)
  have J : Inv (lam0 P w K mg base q scope a c A outer s H E) [] [] H { s with heap := h₁, toks := s.toks + ([] : List (Str × Value)).length } := lam0_start cs e0 hr.hd hns kp
  have hr2 : Room (5 * n + 4) (A.deeper (PySem.W.envX q scope s.heap.objs.size a (.ref c) [])) := hr.deeper _
  have C : XOk (lam0 P w K mg base q scope a c A outer s H E) G (noLam T) (run FT n) (5 * n) [] scope.names (fun _ => false) .no (fun cls d _ H => E cls d H) :=
    { g := g.noLam, hN := rfl, nd := List.nodup_nil, kind := cs.kind, sc := rfl, fn := rfl, calm := rfl, room := hr2.mono (Nat.add_le_add_left (by decide) _), tk := takes_of rfl rfl rfl rfl, kd := trivial }
  have pe := (snd (T := noLam T) (N := []) (G := G) (cl := run FT n) (lv := 5 * n) e).e scope.names _ .no _ _ body C hchk
  have ht : tE K G (ev (run FT n) e) (fun cls d _ H => E cls d H) [] H Q := by
    refine ⟨ι, Y, S, [], R, ⟨rfl, fun i w z => by simp at z⟩, ?_⟩
    have p : Post K G Y ι H (match FT (lamName k) with | none => Res.bad | some d => if ([] : List Wv).length = d.np then leave (ex (run FT n) d.body (startW d.ns []) S) else .bad) Q E := p
    rw [hFT] at p
    have p : Post K G Y ι H (leave (match (ev (run FT n) e [] S).bs [] (fun w S => .rt w S) with | .nx σ S => .nx σ S | r => r)) Q E := p
    show Post K G Y ι H (ev (run FT n) e [] S) Q E
    cases er : ev (run FT n) e [] S with
    | ok w S2 => rw [er] at p; exact p
    | exc c S2 => rw [er] at p; exact p
    | bad => rw [er] at p; exact p.elim
  refine PySem.W.kla_codeExpr (wpAny_mono (pe.run [] _ _ H Q J ht) (fun v s' hq => ?_) fun e s' hq => hq)
  obtain ⟨w', H', J', rv, q'⟩ := hq
  exact ⟨w', H', J'.os, J'.bare, J'.base, J'.hok, rv, q'⟩
/-- what the top has written, all in one -/
structure Top (K : PySem.W.Frag) (mg : Str → Option Value) (base : Heap) (G : Glob) (T : GT) (FT : Str → Option FD) : Prop where
  fns : ∀ x, T.fns.contains x = true → ∃ d, FT x = some d ∧ FnF K mg base G T x d
  cons : ∀ x c, T.cons.lookup x = some c → ∃ u v, mg x = some u ∧ RelV v u ∧ ∀ (H : Hp) (ι : Io) (Y : Addr → Prop), RepV K H ι Y c.w v
  bis : ∀ x, T.bis.contains x = true → mg x = none
  tolds : ∀ x e, (x, e) ∈ T.tolds → ToldFn K mg G x e
  excs : ∀ c, T.excs.contains c = true → ExcF K mg G c
  lamc : ∀ k x, T.lamc k x = true → ∃ params body scope p, x = .Lambda params body scope p ∧ noArgs params = true ∧ closedB scope = true ∧ G.lamB k body scope
  lamB : ∀ k body scope, G.lamB k body scope → ∃ e, FT (lamName k) = some (lamFD e) ∧ chkE (noLam T) [] e false scope.names (fun _ => false) .no body = true
theorem all_ok {P : Program} {w : World} {K : PySem.W.Frag} {mg : Str → Option Value} {base : Heap} {G : Glob} {T : GT} {FT : Str → Option FD} (t : Top K mg base G T FT) : ∀ n, GOk P w K mg base G T (run FT n) (5 * n)
  | 0 => ⟨fun x hx => by
      obtain ⟨d, hd, F⟩ := t.fns x hx
      obtain ⟨f, params, body, scope, dV, kV, doc, pm, cdv, ct, oc, an, od, osl, N, ps, kd, h1, h2, h3, h4, h5, h6, h7, h8, h9, h10⟩ := F.ex
      exact ⟨f, _, ps, h1, h2, h6, ⟨fun vs H Q E h => (by obtain ⟨_, _, _, _, _, _, p⟩ := h; exact p.elim), fun A outer s H args us vs Q E _ _ _ _ h => (by obtain ⟨_, _, _, _, _, _, p⟩ := h; exact p.elim)⟩⟩, t.cons, t.bis, t.tolds, t.excs, t.lamc, fun k A outer s H a c q Q E _ _ _ _ h => (by obtain ⟨_, _, _, _, _, _, p⟩ := h; exact p.elim)⟩
  | n + 1 => ⟨fun x hx => by
      obtain ⟨d, hd, F⟩ := t.fns x hx
      exact fn_ok (all_ok t n) hd F, t.cons, t.bis, t.tolds, t.excs, t.lamc, fun k A outer s H a c q Q E => lam_run (all_ok t n) t.lamB k A outer s H a c q Q E⟩
end Dy

end
section
set_option Elab.async false
set_option linter.all false
set_option maxRecDepth 100000
set_option maxHeartbeats 400000
/-! Dy, part O: from what a head tells to the law's promise. -/
namespace Dy
open PySem PySem.Spec PyProof.Rows L2

/-- a def: its name, its small text, its statement, the slots' names, the parameters, what it makes -/
structure FnDat where
  name : Str
  fd : FD
  st : Stmt
  N : List Str
  ps : List Str
  kd : Kd
/-- a law's data -/
structure Dat where
  fl : List FnDat
  cons : List (Str × Cst)
  bis : List Str
  excs : List Str
  tolds : List (Str × Str × Stmt)
  lams : List E
def Dat.T0 (D : Dat) : GT := { fns := D.fl.map (·.name), cons := D.cons, bis := D.bis, excs := D.excs, tolds := D.tolds.map fun t => (t.1, t.2.1) }
def Dat.lamc (D : Dat) (k : Nat) (x : Expr) : Bool := match x with
  | .Lambda params body scope _ => noArgs params && (closedB scope && (match D.lams[k]? with
    | some e => chkE D.T0 [] e false scope.names (fun _ => false) .no body
    | none => false))
  | _ => false
def Dat.T (D : Dat) : GT := { D.T0 with lamc := D.lamc }
def lamTab : List E → Nat → List (Str × FD)
  | [], _ => []
  | e :: es, k => (lamName k, lamFD e) :: lamTab es (k + 1)
def Dat.FT (D : Dat) (x : Str) : Option FD := (D.fl.map (fun d => (d.name, d.fd)) ++ lamTab D.lams 0).lookup x
def scB (N P : List Str) (sc : Scope) : Bool := decide (sc.kind = .function) && (!sc.isCoroutine && (!sc.isGenerator && (decide N.Nodup && (decide (N.take P.length = P) && ((P.all fun x => decide (sc.names.lookup x = some .local) || decide (sc.names.lookup x = some .cell)) && sc.names.all fun y => decide (y.2 ≠ .free))))))
theorem scB_ok {N P : List Str} {sc : Scope} (h : scB N P sc = true) : FnScope N P sc := by
  unfold scB at h
  simp only [Bool.and_eq_true, Bool.not_eq_true', decide_eq_true_eq, List.all_eq_true, Bool.or_eq_true] at h
  obtain ⟨h1, h2, h3, h4, h5, h6, h7⟩ := h
  exact ⟨h1, h2, h3, h4, h5, h6, h7⟩
def fnB (T : GT) (d : FnDat) : Bool := scB d.N d.ps (defScope d.st) && (decide (d.ps.length = d.fd.np) && (decide (d.N.length = d.fd.ns) && chkSs T d.N d.fd.body (defScope d.st).names (fun _ => true) d.kd (defBody d.st)))
def FnDat.Bind (d : FnDat) : Prop := ∀ (kV doc pm : Value) (an : Option Addr) (cdv ct : Value) (us : List Value), us.length = d.ps.length → bindArgs (PySem.W.fnOf d.name d.name (defArgs d.st) (defBody d.st) (defScope d.st) .none kV doc pm an cdv ct) ⟨us, []⟩ = pure (d.ps.zip us)
def noLamN (x : Str) : Bool := !decide (x.cps[0]? = some 60)

/-! ### what the head is asked -/
def Dat.fa (D : Dat) : List He.Fa := (D.fl.map fun d => He.Fa.glo d.name) ++ ((D.tolds.map fun t => He.Fa.glo t.1) ++ ((D.bis.map fun x => He.Fa.free x) ++ ((D.excs.map fun x => He.Fa.glo x) ++ ((D.excs.map fun x => He.Fa.exc x) ++ (D.excs.map fun x => He.Fa.exm x x true)))))
def defD (x : Str) (st : Stmt) : He.DefD := ⟨(x, none), x, x, defArgs st, defBody st, defScope st, [], []⟩
def Dat.fn (D : Dat) : List He.DefD := (D.fl.map fun d => defD d.name d.st) ++ D.tolds.map fun t => defD t.1 t.2.2
def Dat.tfn (D : Dat) : List FnDat := D.fl.filter fun d => decide (d.kd ≠ .no)
def Dat.tf (D : Dat) : List He.Defn := D.tfn.map fun d => (d.name, none)
def conB (K : PySem.W.Frag) (p : Str × Cst) : Bool := match p.2 with
  | .int i => (He.Fa.int p.1 i).ok K
  | .str s => (He.Fa.str p.1 s).ok K
  | .ints l => (He.Fa.glo p.1).ok K && He.tupB K p.1 (l.map He.Dv.int)
  | .strs l => (He.Fa.glo p.1).ok K && He.tupB K p.1 (l.map He.Dv.str)
def Dat.ex (D : Dat) (K : PySem.W.Frag) : Bool := D.cons.all (conB K) && decide (D.tf.map fun p => (He.cT K p).2).Nodup
abbrev Dat.hk (D : Dat) (n : Nat) : PySem.W.Hook := He.hookX n D.fa D.fn [] D.tf D.ex
def qlam (x : Str) : Str := x ++ ".<locals>." ++ "<lambda>"
/-- what is known of the whole -/
def Dat.G (D : Dat) (K : PySem.W.Frag) : Glob where
  tabs := (D.tfn.filter fun d => decide (d.kd = .lam)).map fun d => ((He.cT K (d.name, none)).2, qlam d.name)
  gens := (D.tfn.filter fun d => decide (d.kd = .gen)).map fun d => (He.cT K (d.name, none)).2
  cls := fun c => if D.excs.contains c = true then some (He.ga K c) else none
  lamB := fun k body scope => ∃ e, D.lams[k]? = some e ∧ chkE D.T0 [] e false scope.names (fun _ => false) .no body = true

theorem look_app {α : Type} {x : Str} {a : α} : ∀ {l r : List (Str × α)}, l.lookup x = some a → (l ++ r).lookup x = some a
  | [], _, h => by simp at h
  | (y, b) :: l, r, h => by
    rw [List.cons_append, List.lookup_cons]
    rw [List.lookup_cons] at h
    cases e : x == y with
    | true => rw [e] at h; exact h
    | false => rw [e] at h; exact look_app h
theorem look_fl {x : Str} : ∀ {fl : List FnDat}, (fl.map (·.name)).contains x = true → ∃ d ∈ fl, d.name = x ∧ (fl.map fun d => (d.name, d.fd)).lookup x = some d.fd
  | [], h => by simp at h
  | d :: fl, h => by
    rw [List.map_cons, List.lookup_cons]
    cases e : x == d.name with
    | true => exact ⟨d, List.mem_cons_self, (beq_iff_eq.mp e).symm, rfl⟩
    | false =>
      rw [List.map_cons, List.contains_cons, e, Bool.false_or] at h
      obtain ⟨d', h1, h2, h3⟩ := look_fl h
      exact ⟨d', List.mem_cons_of_mem _ h1, h2, h3⟩
theorem look_skip {α : Type} {x : Str} : ∀ {l r : List (Str × α)}, (∀ p ∈ l, p.1 ≠ x) → (l ++ r).lookup x = r.lookup x
  | [], _, _ => rfl
  | (y, b) :: l, r, h => by
    have hy : y ≠ x := h (y, b) List.mem_cons_self
    rw [List.cons_append, List.lookup_cons, beq_false_of_ne (Ne.symm hy)]
    exact look_skip fun p hp => h p (List.mem_cons_of_mem _ hp)
theorem lamName_inj {i j : Nat} (h : lamName i = lamName j) : i = j := by
  unfold lamName at h
  simpa using h
theorem look_lam : ∀ {es : List E} {n k : Nat} {e : E}, es[k]? = some e → (lamTab es n).lookup (lamName (n + k)) = some (lamFD e)
  | [], _, _, _, h => by simp at h
  | a :: es, n, 0, e, h => by
    have h : a = e := by simpa using h
    subst h
    show ((lamName n, lamFD a) :: lamTab es (n + 1)).lookup (lamName (n + 0)) = _
    rw [List.lookup_cons]
    simp
  | a :: es, n, k + 1, e, h => by
    have h : es[k]? = some e := by simpa using h
    show ((lamName n, lamFD a) :: lamTab es (n + 1)).lookup (lamName (n + (k + 1))) = _
    rw [List.lookup_cons, beq_false_of_ne (fun z => by have := lamName_inj z; omega)]
    have := look_lam (n := n + 1) h
    rw [show n + 1 + k = n + (k + 1) by omega] at this
    exact this
section
variable {D : Dat} {K : PySem.W.Frag} {w : World} {h : Heap} {mg : Str → Option Value} {base : Heap}
theorem con_ok (X : K.In h) (Gn : h.Ns mainGlobals mg) {x : Str} {c : Cst} (e : conB K (x, c) = true) : ∃ u v, mg x = some u ∧ RelV v u ∧ ∀ (H : Hp) (ι : Io) (Y : Addr → Prop), RepV K H ι Y c.w v := by
  match c, e with
  | .int i, e =>
    obtain ⟨t, ht⟩ := He.int_ok X Gn (x := x) (i := i) e
    exact ⟨_, .int i, ht, ⟨t, rfl⟩, fun _ _ _ => .int i⟩
  | .str s, e =>
    obtain ⟨t, ht⟩ := He.str_ok X Gn (x := x) (z := s) e
    exact ⟨_, .str s, ht, ⟨t, rfl⟩, fun _ _ _ => .str s⟩
  | .ints l, e =>
    obtain ⟨h1, h2⟩ := He.ba (show ((He.Fa.glo x).ok K && He.tupB K x (l.map He.Dv.int)) = true from e)
    refine ⟨_, .ref (He.ga K x), He.glo_ok X Gn h1, rfl, fun H ι Y => ?_⟩
    have hs := He.tupB_ok h2 (fun _ => none)
    rcases hs with hs | hs
    · rcases hs with hs | ⟨_, hs⟩ <;> cases hs
    · refine .ktup hs ?_
      have : ((l.map He.Dv.int).map (He.Dv.v K)) = l.map V.int := by rw [List.map_map]; rfl
      rw [this]
      exact RepL.of_ints l
  | .strs l, e =>
    obtain ⟨h1, h2⟩ := He.ba (show ((He.Fa.glo x).ok K && He.tupB K x (l.map He.Dv.str)) = true from e)
    refine ⟨_, .ref (He.ga K x), He.glo_ok X Gn h1, rfl, fun H ι Y => ?_⟩
    have hs := He.tupB_ok h2 (fun _ => none)
    rcases hs with hs | hs
    · rcases hs with hs | ⟨_, hs⟩ <;> cases hs
    · refine .ktup hs ?_
      have : ((l.map He.Dv.str).map (He.Dv.v K)) = l.map V.str := by rw [List.map_map]; rfl
      rw [this]
      exact RepL.of_strs l
theorem glo_fa {p : Str × Option Str} : He.fAd K (p.1, none) = He.ga K p.1 := rfl
/-- a told def's text -/
def Told (t : Str × Str × Stmt) : Prop := ∃ (a : Str) (Ng : List Str) (j : Nat) (p1 p2 p3 p4 p5 p6 p7 p8 : Pos), FnScope Ng [a] (defScope t.2.2) ∧ Ng[0]? = some a ∧ Vis (defScope t.2.2) a ∧ (a == ("__debug__" : Str)) = false ∧ (a == ("__classdict__" : Str)) = false ∧
  defBody t.2.2 = [.Try [.Return (some (.Call (.Name a p1) [] [] p2)) p3] [.ExceptHandler (some (.Name t.2.1 p4)) none [.Return (some (.Constant (.str t.2.1) j p5)) p6] p7] [] [] p8] ∧ (defScope t.2.2).names.lookup t.2.1 = some .globalImplicit ∧ (t.2.1 == ("__debug__" : Str)) = false ∧
  ∀ (kV doc pm : Value) (an : Option Addr) (cdv ct : Value) (us : List Value), us.length = [a].length → bindArgs (PySem.W.fnOf t.1 t.1 (defArgs t.2.2) (defBody t.2.2) (defScope t.2.2) .none kV doc pm an cdv ct) ⟨us, []⟩ = pure ([a].zip us)
theorem kd_of (c : He.SaysX D.fa D.fn [] D.tf D.ex w h K) (tb : ∀ p ∈ D.tf.map (He.cT K), LamX.TabB base mg p.1 p.2) {d : FnDat} (hd : d ∈ D.fl) {oc dV kV doc pm cdv ct : Value} {an od : Option Addr} {osl : Array (Option Value)}
    (lk : K.lookup (He.fAd K (d.name, none)) = some ⟨oc, od, .func (PySem.W.fnOf d.name d.name (defArgs d.st) (defBody d.st) (defScope d.st) dV kV doc pm an cdv ct), osl⟩) (hcd : PySem.W.codeIn K cdv d.name = true) : FnKd base mg (D.G K) d.name cdv d.kd := by
  obtain ⟨hcon, hnd⟩ := He.ba (show (D.cons.all (conB K) && decide (D.tf.map fun p => (He.cT K p).2).Nodup) = true from c.more)
  have hnd : (D.tf.map fun p => (He.cT K p).2).Nodup := of_decide_eq_true hnd
  have ndf : (D.tfn.map fun d => (He.cT K (d.name, none)).2).Nodup := by
    have e : (D.tf.map fun p => (He.cT K p).2) = D.tfn.map fun d => (He.cT K (d.name, none)).2 := by unfold Dat.tf; rw [List.map_map]; rfl
    rw [← e]; exact hnd
  -- equal tables, equal defs
  have inj : ∀ d ∈ D.tfn, ∀ d' ∈ D.tfn, (He.cT K (d.name, none)).2 = (He.cT K (d'.name, none)).2 → d = d' := by
    have gen : ∀ l : List FnDat, (l.map fun d => (He.cT K (d.name, none)).2).Nodup → ∀ d ∈ l, ∀ d' ∈ l, (He.cT K (d.name, none)).2 = (He.cT K (d'.name, none)).2 → d = d' := by
      intro l
      induction l with
      | nil => intro _ d hd; cases hd
      | cons a l ih =>
        intro nd d hd d' hd' e
        rw [List.map_cons, List.nodup_cons] at nd
        rcases List.mem_cons.mp hd with e1 | h1 <;> rcases List.mem_cons.mp hd' with e2 | h2
        · rw [e1, e2]
        · exact absurd (List.mem_map.mpr ⟨d', h2, by rw [← e, e1]⟩) nd.1
        · exact absurd (List.mem_map.mpr ⟨d, h1, by rw [e, e2]⟩) nd.1
        · exact ih nd.2 d h1 d' h2 e
    exact gen _ ndf
  by_cases hk : d.kd = .no
  · rw [hk]; trivial
  · have hdt : d ∈ D.tfn := List.mem_filter.mpr ⟨hd, decide_eq_true hk⟩
    obtain ⟨cc, rfl⟩ := He.codeIn_ref hcd
    have e1 : He.codeOf K (d.name, none) = cc := He.codeOf_eq lk rfl
    have e2 : (He.cT K (d.name, none)).1 = cc := e1
    have TB := tb (He.cT K (d.name, none)) (List.mem_map.mpr ⟨(d.name, none), List.mem_map.mpr ⟨d, hdt, rfl⟩, rfl⟩)
    rw [e2] at TB
    cases hkd : d.kd with
    | no => exact absurd hkd hk
    | gen =>
      refine ⟨cc, (He.cT K (d.name, none)).2, rfl, ⟨TB.code, TB.bm, TB.gP⟩, List.mem_map.mpr ⟨d, List.mem_filter.mpr ⟨hdt, decide_eq_true hkd⟩, rfl⟩, fun p hp z => ?_⟩
      obtain ⟨d', hd', rfl⟩ := List.mem_map.mp hp
      obtain ⟨h1, h2⟩ := List.mem_filter.mp hd'
      have := inj d' h1 d hdt z
      subst this
      rw [hkd] at h2
      cases h2
    | lam =>
      refine ⟨cc, (He.cT K (d.name, none)).2, rfl, TB, List.mem_map.mpr ⟨d, List.mem_filter.mpr ⟨hdt, decide_eq_true hkd⟩, rfl⟩, fun p hp z => ?_, fun hp => ?_⟩
      · obtain ⟨d', hd', rfl⟩ := List.mem_map.mp hp
        obtain ⟨h1, h2⟩ := List.mem_filter.mp hd'
        have := inj d' h1 d hdt z
        subst this
        rfl
      · obtain ⟨d', hd', z⟩ := List.mem_map.mp hp
        obtain ⟨h1, h2⟩ := List.mem_filter.mp hd'
        have := inj d' h1 d hdt z
        subst this
        rw [hkd] at h2
        cases h2
theorem top_of (X : K.In h) (Gn : h.Ns mainGlobals mg) (c : He.SaysX D.fa D.fn [] D.tf D.ex w h K) (tb : ∀ p ∈ D.tf.map (He.cT K), LamX.TabB base mg p.1 p.2)
    (hfn : D.fl.all (fnB D.T) = true) (hbd : ∀ d ∈ D.fl, d.Bind) (hnl : (D.fl.all fun d => noLamN d.name) = true) (hto : ∀ t ∈ D.tolds, Told t ∧ t.2.1 ∈ D.excs) : Top K mg base (D.G K) D.T D.FT := by
  have cd := c.t.d
  obtain ⟨hcon, hnd⟩ := He.ba (show (D.cons.all (conB K) && decide (D.tf.map fun p => (He.cT K p).2).Nodup) = true from c.more)
  have hnd : (D.tf.map fun p => (He.cT K p).2).Nodup := of_decide_eq_true hnd
  have fact : ∀ {f : He.Fa}, f ∈ D.fa → f.ok K = true := fun hf => cd.facts hf
  have gloF : ∀ d ∈ D.fl, mg d.name = some (.ref (He.ga K d.name)) := fun d hd => He.glo_ok X Gn (fact (List.mem_append_left _ (List.mem_map.mpr ⟨d, hd, rfl⟩)))
  refine { fns := fun x hx => ?_, cons := fun x e hx => ?_, bis := fun x hx => ?_, tolds := fun x e hx => ?_, excs := fun e hx => ?_, lamc := fun k x hx => ?_, lamB := fun k body scope hB => ?_ }
  · obtain ⟨d, hd, rfl, hl⟩ := look_fl (fl := D.fl) hx
    refine ⟨d.fd, look_app hl, ?_⟩
    obtain ⟨fd, F⟩ := cd.defs (d := defD d.name d.st) (List.mem_append_left _ (List.mem_map.mpr ⟨d, hd, rfl⟩))
    have hB : fnB D.T d = true := List.all_eq_true.mp hfn d hd
    unfold fnB at hB
    simp only [Bool.and_eq_true, decide_eq_true_eq] at hB
    obtain ⟨b1, b2, b3, b4⟩ := hB
    have kp := F.kp
    have bnd := F.bindsN (ps := d.ps) (hbd d hd)
    obtain ⟨oc, od, dV, kV, doc, pm, an, cdv, ct, osl, rfl, lk, hcd, _, _⟩ := F.ex
    refine ⟨He.ga K d.name, _, _, _, dV, kV, doc, pm, cdv, ct, oc, an, od, osl, d.N, d.ps, d.kd, gloF d hd, kp, lk, hcd, scB_ok b1, bnd, b2, b3, b4, ?_⟩
    exact kd_of c tb hd lk hcd
  · have hm : (x, e) ∈ D.cons := PySem.mem_of_lookup hx
    exact con_ok X Gn (List.all_eq_true.mp hcon _ hm)
  · refine He.free_ok X Gn (fact ?_)
    have hx : D.bis.contains x = true := hx
    have hx : x ∈ D.bis := by simpa using hx
    exact List.mem_append_right _ (List.mem_append_right _ (List.mem_append_left _ (List.mem_map.mpr ⟨x, hx, rfl⟩)))
  · obtain ⟨t, ht, e1⟩ := List.mem_map.mp hx
    cases e1
    obtain ⟨⟨a, Ng, j, p1, p2, p3, p4, p5, p6, p7, p8, s1, s2, s3, s4, s5, s6, s7, s8, s9⟩, hex⟩ := hto t ht
    obtain ⟨fd, F⟩ := cd.defs (d := defD t.1 t.2.2) (List.mem_append_right _ (List.mem_map.mpr ⟨t, ht, rfl⟩))
    have kp := F.kp
    have bnd := F.bindsN (ps := [a]) s9
    obtain ⟨oc, od, dV, kV, doc, pm, an, cdv, ct, osl, rfl, lk, hcd, _, _⟩ := F.ex
    have g1 : mg t.1 = some (.ref (He.ga K t.1)) := He.glo_ok X Gn (fact (List.mem_append_right _ (List.mem_append_left _ (List.mem_map.mpr ⟨t, ht, rfl⟩))))
    have g2 : mg t.2.1 = some (.ref (He.ga K t.2.1)) := He.glo_ok X Gn (fact (List.mem_append_right _ (List.mem_append_right _ (List.mem_append_right _ (List.mem_append_left _ (List.mem_map.mpr ⟨_, hex, rfl⟩))))))
    have g3 : PySem.W.exmOne K (.ref (He.ga K t.2.1)) (.ref (He.ga K t.2.1)) = some true := He.exm_ok (fact (List.mem_append_right _ (List.mem_append_right _ (List.mem_append_right _ (List.mem_append_right _ (List.mem_append_right _ (List.mem_map.mpr ⟨_, hex, rfl⟩)))))))
    exact ⟨a, He.ga K t.1, He.ga K t.2.1, _, _, _, dV, kV, doc, pm, cdv, ct, oc, an, od, osl, Ng, j, p1, p2, p3, p4, p5, p6, p7, p8, g1, kp, lk, hcd, bnd, s1, s2, s3, s4, s5, s6, s7, g2, s8, if_pos (by simpa using hex), g3⟩
  · have hx : D.excs.contains e = true := hx
    have hx : e ∈ D.excs := by simpa using hx
    have g2 : mg e = some (.ref (He.ga K e)) := He.glo_ok X Gn (fact (List.mem_append_right _ (List.mem_append_right _ (List.mem_append_right _ (List.mem_append_left _ (List.mem_map.mpr ⟨_, hx, rfl⟩))))))
    obtain ⟨x1, x2, x3, x4⟩ := He.exc_ok (fact (List.mem_append_right _ (List.mem_append_right _ (List.mem_append_right _ (List.mem_append_right _ (List.mem_append_left _ (List.mem_map.mpr ⟨_, hx, rfl⟩)))))))
    exact ⟨He.ga K e, _, _, _, _, F.excBase_ValueError, x1, g2, x2, x3, x4, if_pos (by simpa using hx)⟩
  · have hx : D.lamc k x = true := hx
    cases x with
    | Lambda params body scope p =>
      have hx : (noArgs params && (closedB scope && (match D.lams[k]? with
        | some e => chkE D.T0 [] e false scope.names (fun _ => false) .no body
        | none => false))) = true := hx
      rw [Bool.and_eq_true, Bool.and_eq_true] at hx
      obtain ⟨a1, a2, a3⟩ := hx
      refine ⟨params, body, scope, p, rfl, a1, a2, ?_⟩
      cases hl : D.lams[k]? with
      | none => rw [hl] at a3; cases a3
      | some e => rw [hl] at a3; exact ⟨e, hl, a3⟩
    | _ => cases hx
  · obtain ⟨e, h1, h2⟩ := hB
    refine ⟨e, ?_, h2⟩
    show (D.fl.map (fun d => (d.name, d.fd)) ++ lamTab D.lams 0).lookup (lamName k) = _
    rw [look_skip fun p hp z => ?_]
    · have := look_lam (n := 0) h1
      rw [Nat.zero_add] at this
      exact this
    · obtain ⟨d, hd, rfl⟩ := List.mem_map.mp hp
      have q := List.all_eq_true.mp hnl d hd
      have z : d.name = lamName k := z
      rw [z] at q
      cases q
/-- the law's promise, from the plain law -/
theorem law_of {l : PySem.W.OpenLaw} {fa : Addr} {fuel : Nat} {dl : FnDat} (X : K.In h) (Gn : h.Ns mainGlobals mg) (hfa : mg "law" = some (.ref fa)) (c : He.SaysX D.fa D.fn [] D.tf D.ex w h K)
    (hfn : D.fl.all (fnB D.T) = true) (hbd : ∀ d ∈ D.fl, d.Bind) (hnl : (D.fl.all fun d => noLamN d.name) = true) (hto : ∀ t ∈ D.tolds, Told t ∧ t.2.1 ∈ D.excs)
    (hl : dl ∈ D.fl) (hn : dl.name = "law") (hps : dl.ps = [("script" : Str)]) (hFT : D.FT "law" = some dl.fd)
    (plain : ∀ ns : List Int, ns.length ≤ 63 → (∀ z ∈ ns, Builtin.Int.intBits z ≤ 1048576) → ∃ S', run D.FT (fuel + 1) "law" [.arg ns] [] = .ok (.bl true) S') :
    LamX.LawAtS l w K (CX l.prog w) (5 * (fuel + 1)) 63 "script" mg fa h := by
  have cd := c.t.d
  obtain ⟨fd, F⟩ := cd.defs (d := defD dl.name dl.st) (List.mem_append_left _ (List.mem_map.mpr ⟨dl, hl, rfl⟩))
  have hB : fnB D.T dl = true := List.all_eq_true.mp hfn dl hl
  unfold fnB at hB
  simp only [Bool.and_eq_true, decide_eq_true_eq] at hB
  obtain ⟨b1, b2, b3, b4⟩ := hB
  have bA := F.bindsA (ps := dl.ps) (hbd dl hl)
  have gl : mg dl.name = some (.ref (He.ga K dl.name)) := He.glo_ok X Gn (cd.facts (List.mem_append_left _ (List.mem_map.mpr ⟨dl, hl, rfl⟩)))
  obtain ⟨oc, od, dV, kV, doc, pm, an, cdv, ct, osl, rfl, lk, hcd, _, _⟩ := F.ex
  have efa : He.ga K dl.name = fa := by
    rw [hn] at gl ⊢
    rw [gl] at hfa
    cases hfa; rfl
  refine ⟨PySem.W.fnOf dl.name dl.name (defArgs dl.st) (defBody dl.st) (defScope dl.st) dV kV doc pm an cdv ct, D.tf.map (He.cT K), spC K (D.G K) (run D.FT (fuel + 1) dl.name), fun p hp => ?_, fun p hp => ?_, fun p hp => ?_, fun s u => ?_, fun H a ns hlen hbits hT hS => ?_, fun base KB NB tb => ?_⟩
  · obtain ⟨q, hq, rfl⟩ := List.mem_map.mp hp
    exact c.empty q hq
  · obtain ⟨q, hq, rfl⟩ := List.mem_map.mp hp
    exact c.out q hq
  · obtain ⟨q, hq, rfl⟩ := List.mem_map.mp hp
    exact PySem.W.codeHd_of_K X (c.hd q hq)
  · have := bA s [u] (by rw [hps]; rfl)
    rw [hps] at this
    exact this
  · obtain ⟨S', hp⟩ := plain ns hlen hbits
    refine ⟨fun _ => none, fun _ => False, [], [.arg ns], ⟨fun i j a e => (by cases e), fun i a e => (by cases e), fun i o e => (by simp at e), fun a y => (show False from y).elim, fun i a e => (by cases e), fun p hp => ?_, fun P hP => ?_⟩, .cons ?_ .nil, ?_⟩
    · obtain ⟨d, hd, rfl⟩ := List.mem_map.mp hp
      have hm := (List.mem_filter.mp hd).1
      exact LamX.TabS.nil (hT (He.cT K (d.name, none)) (List.mem_map.mpr ⟨(d.name, none), List.mem_map.mpr ⟨d, hm, rfl⟩, rfl⟩))
    · obtain ⟨d, hd, rfl⟩ := List.mem_map.mp hP
      have hm := (List.mem_filter.mp hd).1
      exact ⟨#[], hT (He.cT K (d.name, none)) (List.mem_map.mpr ⟨(d.name, none), List.mem_map.mpr ⟨d, hm, rfl⟩, rfl⟩), trivial⟩
    · rcases hS with hS | hS
      · exact .arg hS ⟨fun z => z, fun i z => by cases z⟩
      · exact .karg hS
    · rw [hn, hp]
      intro ι' H' v _ _ r
      cases r.bl_eq
      rfl
  · have t := top_of (base := base) X Gn c tb hfn hbd hnl hto
    rw [← efa, ← hps]
    exact fn_run (all_ok t fuel) (by rw [hn]; exact hFT) lk hcd (scB_ok b1) b2 b3 b4 (kd_of c tb hl lk hcd)
end
end Dy

end
section
set_option Elab.async false
set_option linter.all false
set_option maxRecDepth 100000
set_option maxHeartbeats 400000
/-! Dy, part P: the evaluator by rewriting (for the plain laws). -/
namespace Dy
open PySem L2
section
variable {cl : Clr} {σ : Sl} {S : Sto}
@[simp] theorem ev_var (i : Nat) : ev cl (.var i) σ S = match σ[i]? with | some (some w) => .ok w S | _ => .bad := rfl
@[simp] theorem ev_lit (w : Wv) : ev cl (.lit w) σ S = .ok w S := rfl
@[simp] theorem ev_globI (x : Str) (i : Int) : ev cl (.glob x (.int i)) σ S = .ok (.int i) S := rfl
@[simp] theorem ev_globS (x : Str) (i : Str) : ev cl (.glob x (.str i)) σ S = .ok (.str i) S := rfl
@[simp] theorem ev_globIs (x : Str) (l : List Int) : ev cl (.glob x (.ints l)) σ S = .ok (.tup (l.map .int)) S := rfl
@[simp] theorem ev_globSs (x : Str) (l : List Str) : ev cl (.glob x (.strs l)) σ S = .ok (.tup (l.map .str)) S := rfl
@[simp] theorem ev_bin (o : Bop) (a b : E) : ev cl (.bin o a b) σ S = (ev cl a σ S).bind fun x S => (ev cl b σ S).bind fun y S => binW o x y S := rfl
@[simp] theorem ev_neg (a : E) : ev cl (.neg a) σ S = (ev cl a σ S).bind fun x S => match x with | .int i => .ok (.int (-i)) S | _ => .bad := rfl
@[simp] theorem ev_isN (a : E) : ev cl (.isN a) σ S = (ev cl a σ S).bind fun x S => .ok (.bl (isNonW x)) S := rfl
@[simp] theorem ev_notN (a : E) : ev cl (.notN a) σ S = (ev cl a σ S).bind fun x S => .ok (.bl (!isNonW x)) S := rfl
@[simp] theorem ev_cmp (o : Cop) (a b : E) : ev cl (.cmp o a b) σ S = (ev cl a σ S).bind fun x S => (ev cl b σ S).bind fun y S => cmpW o x y S := rfl
@[simp] theorem ev_chain (o o' : Cop) (a b c : E) : ev cl (.chain o o' a b c) σ S = (ev cl a σ S).bind fun x S => (ev cl b σ S).bind fun y S => (cmpW o x y S).bind fun t S => andK t ((ev cl c σ S).bind fun z S => cmpW o' y z S) S := rfl
@[simp] theorem ev_and (a b : E) : ev cl (.and a b) σ S = (ev cl a σ S).bind fun t S => andK t (ev cl b σ S) S := rfl
@[simp] theorem ev_or (a b : E) : ev cl (.or a b) σ S = (ev cl a σ S).bind fun t S => orK t (ev cl b σ S) S := rfl
@[simp] theorem ev_not (a : E) : ev cl (.not a) σ S = (ev cl a σ S).bind fun x S => match x with | .bl c => .ok (.bl (!c)) S | _ => .bad := rfl
@[simp] theorem ev_ite (c a b : E) : ev cl (.ite c a b) σ S = (ev cl c σ S).bind fun t S => iteK t (ev cl a σ S) (ev cl b σ S) := rfl
@[simp] theorem ev_tup (es : E) : ev cl (.tup es) σ S = (ev cl es σ S).bind fun x S => match x with | .tup ws => if ws.length ≤ sizeLine then .ok (.tup ws) S else .bad | _ => .bad := rfl
@[simp] theorem ev_lst (es : E) : ev cl (.lst es) σ S = (ev cl es σ S).bind fun x S => match x with | .tup ws => if ws.length ≤ sizeLine then .ok (.lst ws) S else .bad | _ => .bad := rfl
@[simp] theorem ev_new (es : E) : ev cl (.new es) σ S = (ev cl es σ S).bind fun x S => match x with | .tup ws => if ws.length ≤ sizeLine then .ok (.ref S.length) (S ++ [.lst ws]) else .bad | _ => .bad := rfl
@[simp] theorem ev_nil : ev cl .nil σ S = .ok (.tup []) S := rfl
@[simp] theorem ev_cons (e es : E) : ev cl (.cons e es) σ S = (ev cl e σ S).bind fun x S => (ev cl es σ S).bind fun y S => match y with | .tup ws => .ok (.tup (x :: ws)) S | _ => .bad := rfl
@[simp] theorem ev_idx (a b : E) : ev cl (.idx a b) σ S = (ev cl a σ S).bind fun x S => (ev cl b σ S).bind fun y S => idxW x y S := rfl
@[simp] theorem ev_sl (a lo hi : E) : ev cl (.sl a lo hi) σ S = (ev cl a σ S).bind fun x S => ((ev cl lo σ S).bind (intO (noB lo))).bind fun l S => ((ev cl hi σ S).bind (intO (noB hi))).bind fun h S => slW x l h S := rfl
@[simp] theorem ev_call (f : Str) (es : E) : ev cl (.call f es) σ S = (ev cl es σ S).bind fun x S => match x with | .tup ws => cl f ws S | _ => .bad := rfl
@[simp] theorem ev_bi (b : BI) (es : E) : ev cl (.bi b es) σ S = (ev cl es σ S).bind fun x S => match x with | .tup ws => biW b ws S | _ => .bad := rfl
@[simp] theorem ev_mi (m : MI) (a es : E) : ev cl (.mi m a es) σ S = (ev cl a σ S).bind fun x S => if isStr x = true then (ev cl es σ S).bind fun y S => match y with | .tup ws => miW m x ws S | _ => .bad else .bad := rfl
@[simp] theorem ev_rng1 (a : E) : ev cl (.rng1 a) σ S = (ev cl a σ S).bind rng1W := rfl
@[simp] theorem ev_rng2 (a b : E) : ev cl (.rng2 a b) σ S = (ev cl a σ S).bind fun x S => (ev cl b σ S).bind fun y S => rng2W x y S := rfl
@[simp] theorem ev_fmt (e : E) : ev cl (.fmt e) σ S = (ev cl e σ S).bind fun x S => match fmtW x with | some y => .ok (.str y) S | none => .bad := rfl
@[simp] theorem ev_fs (es : E) : ev cl (.fs es) σ S = match ev cl es σ S with | .ok (.tup ws) S => (match joinF ws Str.empty with | some y => .ok (.str y) S | none => .bad) | _ => .bad := rfl
@[simp] theorem ev_told (f x : Str) (e : E) : ev cl (.told f x e) σ S = toldW x (ev cl e σ S) := rfl
@[simp] theorem ex_set (g : Tg) (e : E) : ex cl (.set g e) σ S = (ev cl e σ S).bs σ fun w S => match asg g w σ with | some σ' => .nx σ' S | none => .bad := rfl
@[simp] theorem ex_par2 (i j : Nat) (a b : E) : ex cl (.par2 i j a b) σ S = (ev cl a σ S).bs σ fun x S => (ev cl b σ S).bs σ fun y S => .nx ((σ.set i (some x)).set j (some y)) S := rfl
@[simp] theorem ex_par3 (i j l : Nat) (a b c : E) : ex cl (.par3 i j l a b c) σ S = (ev cl a σ S).bs σ fun x S => (ev cl b σ S).bs σ fun y S => (ev cl c σ S).bs σ fun z S => .nx (((σ.set i (some x)).set j (some y)).set l (some z)) S := rfl
@[simp] theorem ex_setIx (o i v : E) : ex cl (.setIx o i v) σ S = (ev cl v σ S).bs σ fun w S => (ev cl o σ S).bs σ fun x S => (ev cl i σ S).bs σ fun y S => match setIxW x y w S with | some S' => .nx σ S' | none => .bad := rfl
@[simp] theorem ex_aug (i : Nat) (o : Bop) (e : E) : ex cl (.aug i o e) σ S = match σ[i]? with | some (some x) => (ev cl e σ S).bs σ fun y S => (augW o x y S).bs σ fun z S => .nx (σ.set i (some z)) S | _ => .bad := rfl
@[simp] theorem ex_expr (e : E) : ex cl (.expr e) σ S = (ev cl e σ S).bs σ fun _ S => .nx σ S := rfl
@[simp] theorem ex_ifs (c : E) (a b : Sm) : ex cl (.ifs c a b) σ S = (ev cl c σ S).bs σ fun t S => iteS t (ex cl a σ S) (ex cl b σ S) := rfl
theorem ex_whl (c : E) (b : Sm) : ex cl (.whl c b) σ S = wLoop (ev cl c) (ex cl b) fuelW σ S := rfl
theorem ex_forr (g : Tg) (it : E) (b : Sm) : ex cl (.forr g it b) σ S = (ev cl it σ S).bs σ fun x S => match itW x with | some items => fLoop g (ex cl b) items σ S | none => .bad := rfl
@[simp] theorem ex_ret (e : E) : ex cl (.ret e) σ S = (ev cl e σ S).bs σ fun w S => .rt w S := rfl
@[simp] theorem ex_rais (c : Str) : ex cl (.rais c) σ S = .xc c σ S := rfl
@[simp] theorem ex_nil : ex cl .nil σ S = .nx σ S := rfl
theorem ex_seq (a b : Sm) : ex cl (.seq a b) σ S = match ex cl a σ S with | .nx σ S => ex cl b σ S | r => r := rfl
def SR.then (r : SR) (k : Sl → Sto → SR) : SR := match r with
  | .nx σ S => k σ S
  | r => r
@[simp] theorem ex_seq' (a b : Sm) : ex cl (.seq a b) σ S = (ex cl a σ S).then (fun σ S => ex cl b σ S) := rfl
@[simp] theorem then_nx (σ : Sl) (S : Sto) (k : Sl → Sto → SR) : (SR.nx σ S).then k = k σ S := rfl
@[simp] theorem then_rt (w : Wv) (S : Sto) (k : Sl → Sto → SR) : (SR.rt w S).then k = .rt w S := rfl
@[simp] theorem then_xc (c : Str) (σ : Sl) (S : Sto) (k : Sl → Sto → SR) : (SR.xc c σ S).then k = .xc c σ S := rfl
@[simp] theorem leave_rt (w : Wv) : leave (.rt w S) = .ok w S := rfl
@[simp] theorem leave_nx : leave (.nx σ S) = .ok .non S := rfl
@[simp] theorem leave_xc (c : Str) : leave (.xc c σ S) = .exc c S := rfl
@[simp] theorem iteS_bl (b : Bool) (x y : SR) : iteS (.bl b) x y = if b = true then x else y := by cases b <;> rfl
@[simp] theorem iteK_bl (b : Bool) (x y : Res) : iteK (.bl b) x y = if b = true then x else y := by cases b <;> rfl
@[simp] theorem andK_bl (b c : Bool) : andK (.bl b) (.ok (.bl c) S) S = .ok (.bl (b && c)) S := by cases b <;> rfl
@[simp] theorem orK_bl (b c : Bool) : orK (.bl b) (.ok (.bl c) S) S = .ok (.bl (b || c)) S := by cases b <;> rfl
theorem andK_b (b : Bool) (r : Res) : andK (.bl b) r S = if b = true then r else .ok (.bl false) S := by cases b <;> rfl
theorem orK_b (b : Bool) (r : Res) : orK (.bl b) r S = if b = true then .ok (.bl true) S else r := by cases b <;> rfl
theorem eqD_int (a b : Int) : eqD (.int a) (.int b) = some (decide (a = b)) := by
  show (if SeqAt.shaped (.int a) = true ∧ SeqAt.shaped (.int b) = true then some (PyData.eqv (.int a) (.int b)) else none) = _
  rw [if_pos ⟨rfl, rfl⟩]
  congr 1
@[simp] theorem w_add (i j : Int) : binW .add (.int i) (.int j) S = .ok (.int (i + j)) S := rfl
@[simp] theorem w_sub (i j : Int) : binW .sub (.int i) (.int j) S = .ok (.int (i - j)) S := rfl
theorem w_mul (i j : Int) (h : CMul i j) : binW .mul (.int i) (.int j) S = .ok (.int (i * j)) S := if_pos h
theorem cm_l {i j : Int} (h : -(2 ^ 64) < i ∧ i < 2 ^ 64) : CMul i j := .inl h
theorem cm_r {i j : Int} (h : -(2 ^ 64) < j ∧ j < 2 ^ 64) : CMul i j := .inr h
theorem w_fdiv (i j : Int) (h : 0 < j) (h2 : j < 1073741824) : binW .fdiv (.int i) (.int j) S = .ok (.int (i / j)) S := by
  show (if CDivN i j then Res.ok (.int (i.fdiv j)) S else .bad) = _
  rw [if_pos (show CDivN i j from ⟨by omega, by omega⟩), Int.fdiv_eq_ediv_of_nonneg i (Int.le_of_lt h)]
theorem w_mod (i j : Int) (h : 0 < j) : binW .mod (.int i) (.int j) S = .ok (.int (i % j)) S := by
  show (if j ≠ 0 then Res.ok (.int (i.fmod j)) S else .bad) = _
  rw [if_pos (by omega), Int.fmod_eq_emod_of_nonneg i (Int.le_of_lt h)]
@[simp] theorem w_lt (i j : Int) : cmpW .lt (.int i) (.int j) S = .ok (.bl (decide (i < j))) S := rfl
@[simp] theorem w_le (i j : Int) : cmpW .le (.int i) (.int j) S = .ok (.bl (decide (i ≤ j))) S := rfl
@[simp] theorem w_gt (i j : Int) : cmpW .gt (.int i) (.int j) S = .ok (.bl (decide (j < i))) S := rfl
@[simp] theorem w_ge (i j : Int) : cmpW .ge (.int i) (.int j) S = .ok (.bl (decide (j ≤ i))) S := rfl
@[simp] theorem w_eq (i j : Int) : cmpW .eq (.int i) (.int j) S = .ok (.bl (decide (i = j))) S := by
  show ofB (eqD (.int i) (.int j)) false S = _
  rw [eqD_int]; rfl
@[simp] theorem w_ne (i j : Int) : cmpW .ne (.int i) (.int j) S = .ok (.bl (!decide (i = j))) S := by
  show ofB (eqD (.int i) (.int j)) true S = _
  rw [eqD_int]; rfl
@[simp] theorem asg_nm (i : Nat) (w : Wv) : asg (.nm i) w σ = some (σ.set i (some w)) := rfl
@[simp] theorem asg_tup (ts : Tg) (ws : List Wv) : asg (.tup ts) (.tup ws) σ = asgs ts ws σ := rfl
@[simp] theorem asgs_nil : asgs .nil [] σ = some σ := rfl
@[simp] theorem asgs_cons (t ts : Tg) (w : Wv) (ws : List Wv) : asgs (.cons t ts) (w :: ws) σ = (asg t w σ).bind fun σ' => asgs ts ws σ' := rfl
@[simp] theorem aug_add (i j : Int) : augW .add (.int i) (.int j) S = .ok (.int (i + j)) S := rfl
@[simp] theorem aug_sub (i j : Int) : augW .sub (.int i) (.int j) S = .ok (.int (i - j)) S := rfl
end
/-! ### loops -/
theorem fLoop_list {α : Type} (it : α → Wv) (g : Tg) (b : Sl → Sto → SR) (P : Nat → Sl → Sto → Prop) (l : List α) (hs : ∀ i x σ S, l[i]? = some x → P i σ S → ∃ σ1 σ2 S2, asg g (it x) σ = some σ1 ∧ (b σ1 S = .nx σ2 S2 ∨ b σ1 S = .ct σ2 S2) ∧ P (i + 1) σ2 S2) :
    ∀ (n : Nat) (σ : Sl) (S : Sto), n ≤ l.length → P n σ S → ∃ σ' S', fLoop g b ((l.drop n).map it) σ S = .nx σ' S' ∧ P l.length σ' S' := by
  intro n
  induction h : l.length - n generalizing n with
  | zero =>
    intro σ S hn p
    have e : n = l.length := by omega
    subst e
    exact ⟨σ, S, by rw [List.drop_length]; rfl, p⟩
  | succ m ih =>
    intro σ S hn p
    have hlt : n < l.length := by omega
    obtain ⟨σ1, σ2, S2, h1, h2, h3⟩ := hs n l[n] σ S (List.getElem?_eq_getElem hlt) p
    obtain ⟨σ', S', q1, q2⟩ := ih (n + 1) (by omega) σ2 S2 (by omega) h3
    refine ⟨σ', S', ?_, q2⟩
    rw [List.drop_eq_getElem_cons hlt, List.map_cons]
    show (match asg g (it l[n]) σ with
      | some σ' => (match b σ' S with
        | .nx σ S => fLoop g b ((l.drop (n + 1)).map it) σ S
        | .ct σ S => fLoop g b ((l.drop (n + 1)).map it) σ S
        | .bk σ S => .nx σ S
        | r => r)
      | none => .bad) = _
    rw [h1]
    rcases h2 with h2 | h2
    · show (match b σ1 S with
        | .nx σ S => fLoop g b ((l.drop (n + 1)).map it) σ S
        | .ct σ S => fLoop g b ((l.drop (n + 1)).map it) σ S
        | .bk σ S => .nx σ S
        | r => r) = _
      rw [h2]; exact q1
    · show (match b σ1 S with
        | .nx σ S => fLoop g b ((l.drop (n + 1)).map it) σ S
        | .ct σ S => fLoop g b ((l.drop (n + 1)).map it) σ S
        | .bk σ S => .nx σ S
        | r => r) = _
      rw [h2]; exact q1
theorem fLoop_range (lo : Int) (g : Tg) (b : Sl → Sto → SR) (n : Nat) (P : Nat → Sl → Sto → Prop) (σ : Sl) (S : Sto) (h0 : P 0 σ S) (hs : ∀ i σ S, i < n → P i σ S → ∃ σ1 σ2 S2, asg g (.int (lo + (i : Nat))) σ = some σ1 ∧ (b σ1 S = .nx σ2 S2 ∨ b σ1 S = .ct σ2 S2) ∧ P (i + 1) σ2 S2) :
    ∃ σ' S', fLoop g b ((List.range n).map fun i => .int (lo + (i : Nat))) σ S = .nx σ' S' ∧ P n σ' S' := by
  have := fLoop_list (fun i : Nat => Wv.int (lo + (i : Nat))) g b P (List.range n) (fun i x σ S hx p => by
    have hi : i < n := by
      have := (List.getElem?_eq_some_iff.mp hx).1
      rwa [List.length_range] at this
    rw [List.getElem?_range hi] at hx
    cases hx
    exact hs i σ S hi p) 0 σ S (Nat.zero_le _) h0
  rw [List.length_range, List.drop_zero] at this
  exact this
theorem wLoop_inv (c : Sl → Sto → Res) (b : Sl → Sto → SR) (P : Nat → Sl → Sto → Prop) (h0 : ∀ σ S, P 0 σ S → c σ S = .ok (.bl false) S) (hs : ∀ m σ S, P (m + 1) σ S → c σ S = .ok (.bl true) S ∧ ∃ σ' S', b σ S = .nx σ' S' ∧ P m σ' S') :
    ∀ (m f : Nat) (σ : Sl) (S : Sto), m < f → P m σ S → ∃ σ' S', wLoop c b f σ S = .nx σ' S' ∧ P 0 σ' S' := by
  intro m
  induction m with
  | zero =>
    intro f σ S hf p
    obtain ⟨f, rfl⟩ : ∃ k, f = k + 1 := ⟨f - 1, by omega⟩
    refine ⟨σ, S, ?_, p⟩
    show (c σ S).bs σ _ = _
    rw [h0 σ S p]; rfl
  | succ m ih =>
    intro f σ S hf p
    obtain ⟨f, rfl⟩ : ∃ k, f = k + 1 := ⟨f - 1, by omega⟩
    obtain ⟨h1, σ1, S1, h2, h3⟩ := hs m σ S p
    obtain ⟨σ', S', q1, q2⟩ := ih f σ1 S1 (by omega) h3
    refine ⟨σ', S', ?_, q2⟩
    show (c σ S).bs σ (fun t S => iteS t (match b σ S with
      | .nx σ S => wLoop c b f σ S
      | .ct σ S => wLoop c b f σ S
      | .bk σ S => .nx σ S
      | r => r) (.nx σ S)) = _
    rw [h1]
    show (match b σ S with
      | .nx σ S => wLoop c b f σ S
      | .ct σ S => wLoop c b f σ S
      | .bk σ S => .nx σ S
      | r => r) = _
    rw [h2]; exact q1
/-- a comprehension whose turns leave the store -/
theorem lcLoop_eq (f : Wv → Sto → Res) (S : Sto) (h : Wv → List Wv) : ∀ (items acc : List Wv), (∀ x ∈ items, f x S = .ok (.lst (h x)) S) → lcLoop f items acc S = .ok (.lst (acc ++ items.flatMap h)) S
  | [], acc, _ => by
    show Res.ok (.lst acc) S = _
    simp
  | x :: xs, acc, hx => by
    show (match f x S with | .ok (.lst ys) S' => lcLoop f xs (acc ++ ys) S' | _ => .bad) = _
    rw [hx x List.mem_cons_self]
    show lcLoop f xs (acc ++ h x) S = _
    rw [lcLoop_eq f S h xs (acc ++ h x) fun y hy => hx y (List.mem_cons_of_mem _ hy)]
    simp
/-- a for over a range of two ints, by an invariant -/
theorem for_rng2 {cl : Clr} {g : Tg} {a b : E} {body : Sm} {σ : Sl} {S : Sto} {lo hi : Int} (ha : ev cl a σ S = .ok (.int lo) S) (hb : ev cl b σ S = .ok (.int hi) S) (h1 : -1000000000 ≤ lo ∧ lo ≤ 1000000000) (h2 : -1000000000 ≤ hi ∧ hi ≤ 1000000000) (h3 : hi - lo ≤ 10000000)
    (P : Nat → Sl → Sto → Prop) (h0 : P 0 σ S) (hs : ∀ i σ S, i < (hi - lo).toNat → P i σ S → ∃ σ1 σ2 S2, asg g (.int (lo + (i : Nat))) σ = some σ1 ∧ (ex cl body σ1 S = .nx σ2 S2 ∨ ex cl body σ1 S = .ct σ2 S2) ∧ P (i + 1) σ2 S2) :
    ∃ σ' S', ex cl (.forr g (.rng2 a b) body) σ S = .nx σ' S' ∧ P (hi - lo).toNat σ' S' := by
  obtain ⟨σ', S', q1, q2⟩ := fLoop_range lo g (ex cl body) (hi - lo).toNat P σ S h0 hs
  refine ⟨σ', S', ?_, q2⟩
  have hr : -(2 ^ 62) ≤ lo ∧ lo < 2 ^ 62 ∧ -(2 ^ 62) ≤ hi ∧ hi < 2 ^ 62 := by omega
  have hl : ((List.range (hi - lo).toNat).map fun k => Wv.int (lo + (k : Nat))).length ≤ sizeLine := by
    rw [List.length_map, List.length_range, sizeLine_eq]; omega
  rw [ex_forr, ev_rng2, ha]
  simp only [bind_ok]
  rw [hb]
  simp only [bind_ok, rng2W]
  rw [if_pos hr]
  simp only [bs_ok, itW]
  rw [if_pos hl]
  exact q1
/-! ### comprehensions that leave the store -/
theorem ev_lc {cl : Clr} {σ : Sl} {S : Sto} (g : Tg) (it c e : E) (own : List (Str × Nat)) : ev cl (.lc g it c e own) σ S = (ev cl it σ S).bind fun x S => match itW x with | some items => lcLoop (lcF g (ev cl c) (ev cl e) (wipeW σ (own.map (·.2)))) items [] S | none => .bad := rfl
theorem lc_list {cl : Clr} {σ : Sl} {S : Sto} {g : Tg} {it c e : E} {own : List (Str × Nat)} {items : List Wv} (hi : ev cl it σ S = .ok (.lst items) S) (hl : items.length ≤ 16777216) (h : Wv → List Wv) (hs : ∀ x ∈ items, lcF g (ev cl c) (ev cl e) (wipeW σ (own.map (·.2))) x S = .ok (.lst (h x)) S) :
    ev cl (.lc g it c e own) σ S = .ok (.lst (items.flatMap h)) S := by
  rw [ev_lc, hi]
  simp only [bind_ok, itW]
  rw [if_pos (by rw [sizeLine_eq]; exact hl)]
  show lcLoop _ items [] S = _
  rw [lcLoop_eq _ S h items [] hs]
  rfl
theorem lc_rng2 {cl : Clr} {σ : Sl} {S : Sto} {g : Tg} {a b c e : E} {own : List (Str × Nat)} {lo hi : Int} (ha : ev cl a σ S = .ok (.int lo) S) (hb : ev cl b σ S = .ok (.int hi) S) (h1 : -1000000000 ≤ lo ∧ lo ≤ 1000000000) (h2 : -1000000000 ≤ hi ∧ hi ≤ 1000000000) (h3 : hi - lo ≤ 10000000)
    (h : Int → List Wv) (hs : ∀ x : Int, lo ≤ x → x < hi → lcF g (ev cl c) (ev cl e) (wipeW σ (own.map (·.2))) (.int x) S = .ok (.lst (h x)) S) :
    ev cl (.lc g (.rng2 a b) c e own) σ S = .ok (.lst ((List.range (hi - lo).toNat).flatMap fun i => h (lo + (i : Nat)))) S := by
  have hr : -(2 ^ 62) ≤ lo ∧ lo < 2 ^ 62 ∧ -(2 ^ 62) ≤ hi ∧ hi < 2 ^ 62 := by omega
  have e0 : ev cl (.rng2 a b) σ S = .ok (.lst ((List.range (hi - lo).toNat).map fun k => .int (lo + (k : Nat)))) S := by
    rw [ev_rng2, ha]
    simp only [bind_ok]
    rw [hb]
    simp only [bind_ok, rng2W]
    rw [if_pos hr]
  rw [lc_list e0 (by rw [List.length_map, List.length_range]; omega) (fun w => match w with | .int x => h x | _ => []) fun x hx => ?_]
  · rw [List.flatMap_map]
  · obtain ⟨i, hi', rfl⟩ := List.mem_map.mp hx
    have := List.mem_range.mp hi'
    exact hs _ (by omega) (by omega)
theorem lcF_nm {j : Nat} {fc fe : Sl → Sto → Res} {σw : Sl} {x y : Wv} {S : Sto} {b : Bool} (hc : fc (σw.set j (some x)) S = .ok (.bl b) S) (he : b = true → fe (σw.set j (some x)) S = .ok y S) : lcF (.nm j) fc fe σw x S = .ok (.lst (if b = true then [y] else [])) S := by
  unfold lcF
  simp only [asg_nm]
  rw [hc]
  simp only [bind_ok]
  cases b with
  | true => simp [he rfl]
  | false => simp
theorem intsW_of : ∀ l : List Int, intsW (l.map .int) = some l
  | [] => rfl
  | i :: l => by
    show (intsW (l.map .int)).map (i :: ·) = _
    rw [intsW_of l]; rfl
theorem sum_tel (f F : Nat → Int) (h0 : F 0 = 0) (hs : ∀ n, F (n + 1) = F n + f n) : ∀ n, ((List.range n).map f).sum = F n
  | 0 => by simp [h0]
  | n + 1 => by
    rw [List.range_succ, List.map_append, List.sum_append, sum_tel f F h0 hs n, hs n]
    simp
theorem flat_one {α β : Type} (l : List α) (f : α → β) : (l.flatMap fun a => [f a]) = l.map f := by
  induction l with
  | nil => rfl
  | cons a l ih => rw [List.flatMap_cons, ih]; rfl
@[simp] theorem w_sum (l : List Int) (S : Sto) : biW .sum [.lst (l.map .int)] S = .ok (.int l.sum) S := by
  show (match intsW (l.map .int) with | some ns => Res.ok (.int ns.sum) S | none => .bad) = _
  rw [intsW_of]
end Dy

end
section
set_option Elab.async false
set_option linter.all false
set_option maxRecDepth 100000
set_option maxHeartbeats 0
/-! The small texts of diarystack_k01_days_and_dates; printed by gen.py. -/
namespace K01
open PySem Dy L2 PyProof.Rows
def top (i : Nat) : Stmt := PySem.Challenge.pw_diarystack_k01_days_and_dates.main.body.getD i (.Pass ⟨0, 0, 0, 0⟩)
def d_is_leap : FD := ⟨1, 1, (.seq (.ret (.and (.cmp .eq (.bin .mod (.var 0) (.lit (.int 4))) (.lit (.int 0))) (.or (.cmp .ne (.bin .mod (.var 0) (.lit (.int 100))) (.lit (.int 0))) (.cmp .eq (.bin .mod (.var 0) (.lit (.int 400))) (.lit (.int 0))))))
    .nil)⟩
def d_month_long : FD := ⟨2, 2, (.seq (.ifs (.or (.not (.chain .le .le (.lit (.int 1)) (.var 0) (.lit (.int 9999)))) (.not (.chain .le .le (.lit (.int 1)) (.var 1) (.lit (.int 12)))))
    (.seq (.rais "DayError")
    .nil)
    .nil)
    (.seq (.ret (.ite (.and (.cmp .eq (.var 1) (.lit (.int 2))) (.call "is_leap" (.cons (.var 0) .nil))) (.lit (.int 29)) (.idx (.glob "LONG_MONTHS" (.ints [31, 28, 31, 30, 31, 30, 31, 31, 30, 31, 30, 31])) (.bin .sub (.var 1) (.lit (.int 1))))))
    .nil))⟩
def d_day_of : FD := ⟨3, 6, (.seq (.ifs (.not (.chain .le .le (.lit (.int 1)) (.var 2) (.call "month_long" (.cons (.var 0) (.cons (.var 1) .nil)))))
    (.seq (.rais "DayError")
    .nil)
    .nil)
    (.seq (.set (.nm 3) (.bin .sub (.var 0) (.lit (.int 1))))
    (.seq (.set (.nm 4) (.bin .sub (.bin .add (.bin .add (.bin .sub (.bin .add (.bin .mul (.lit (.int 365)) (.var 3)) (.bin .fdiv (.var 3) (.lit (.int 4)))) (.bin .fdiv (.var 3) (.lit (.int 100)))) (.bin .fdiv (.var 3) (.lit (.int 400)))) (.var 2)) (.lit (.int 1))))
    (.seq (.forr (.nm 5) (.rng2 (.lit (.int 1)) (.var 1))
    (.seq (.aug 4 .add (.call "month_long" (.cons (.var 0) (.cons (.var 5) .nil))))
    .nil))
    (.seq (.ret (.var 4))
    .nil)))))⟩
def d_date_of : FD := ⟨1, 4, (.seq (.ifs (.not (.chain .le .le (.lit (.int 0)) (.var 0) (.glob "LAST_DAY" (.int 3652058))))
    (.seq (.rais "DayError")
    .nil)
    .nil)
    (.seq (.set (.nm 1) (.bin .add (.bin .fdiv (.var 0) (.lit (.int 366))) (.lit (.int 1))))
    (.seq (.whl (.and (.cmp .lt (.var 1) (.lit (.int 9999))) (.cmp .le (.call "day_of" (.cons (.bin .add (.var 1) (.lit (.int 1))) (.cons (.lit (.int 1)) (.cons (.lit (.int 1)) .nil)))) (.var 0)))
    (.seq (.aug 1 .add (.lit (.int 1)))
    .nil))
    (.seq (.par2 2 3 (.lit (.int 1)) (.bin .sub (.var 0) (.call "day_of" (.cons (.var 1) (.cons (.lit (.int 1)) (.cons (.lit (.int 1)) .nil))))))
    (.seq (.whl (.cmp .ge (.var 3) (.call "month_long" (.cons (.var 1) (.cons (.var 2) .nil))))
    (.seq (.aug 3 .sub (.call "month_long" (.cons (.var 1) (.cons (.var 2) .nil))))
    (.seq (.aug 2 .add (.lit (.int 1)))
    .nil)))
    (.seq (.ret (.tup (.cons (.var 1) (.cons (.var 2) (.cons (.bin .add (.var 3) (.lit (.int 1))) .nil)))))
    .nil))))))⟩
def d_weekday_of : FD := ⟨1, 1, (.seq (.ifs (.not (.chain .le .le (.lit (.int 0)) (.var 0) (.glob "LAST_DAY" (.int 3652058))))
    (.seq (.rais "DayError")
    .nil)
    .nil)
    (.seq (.ret (.bin .mod (.var 0) (.lit (.int 7))))
    .nil))⟩
def d_week_of : FD := ⟨1, 3, (.seq (.set (.nm 1) (.bin .add (.bin .sub (.var 0) (.call "weekday_of" (.cons (.var 0) .nil))) (.lit (.int 3))))
    (.seq (.set (.nm 2) (.idx (.call "date_of" (.cons (.var 1) .nil)) (.lit (.int 0))))
    (.seq (.ret (.tup (.cons (.var 2) (.cons (.bin .add (.bin .fdiv (.bin .sub (.var 1) (.call "day_of" (.cons (.var 2) (.cons (.lit (.int 1)) (.cons (.lit (.int 1)) .nil))))) (.lit (.int 7))) (.lit (.int 1))) .nil))))
    .nil)))⟩
def d_month_step : FD := ⟨2, 6, (.seq (.set (.tup (.cons (.nm 2) (.cons (.nm 3) (.cons (.nm 4) .nil)))) (.call "date_of" (.cons (.var 0) .nil)))
    (.seq (.set (.nm 5) (.bin .add (.bin .sub (.bin .add (.bin .mul (.lit (.int 12)) (.var 2)) (.var 3)) (.lit (.int 1))) (.var 1)))
    (.seq (.par2 2 3 (.bin .fdiv (.var 5) (.lit (.int 12))) (.bin .add (.bin .mod (.var 5) (.lit (.int 12))) (.lit (.int 1))))
    (.seq (.ret (.call "day_of" (.cons (.var 2) (.cons (.var 3) (.cons (.bi .min2 (.cons (.var 4) (.cons (.call "month_long" (.cons (.var 2) (.cons (.var 3) .nil))) .nil))) .nil)))))
    .nil))))⟩
def d_nth_weekday : FD := ⟨4, 9, (.seq (.ifs (.or (.not (.chain .le .le (.lit (.int 0)) (.var 2) (.lit (.int 6)))) (.cmp .eq (.var 3) (.lit (.int 0))))
    (.seq (.rais "DayError")
    .nil)
    .nil)
    (.seq (.par2 4 5 (.call "day_of" (.cons (.var 0) (.cons (.var 1) (.cons (.lit (.int 1)) .nil)))) (.call "month_long" (.cons (.var 0) (.cons (.var 1) .nil))))
    (.seq (.set (.nm 6) (.bin .mod (.bin .sub (.var 2) (.var 4)) (.lit (.int 7))))
    (.seq (.set (.nm 7) (.bin .fdiv (.bin .add (.bin .sub (.var 5) (.var 6)) (.lit (.int 6))) (.lit (.int 7))))
    (.seq (.set (.nm 8) (.ite (.cmp .gt (.var 3) (.lit (.int 0))) (.bin .sub (.var 3) (.lit (.int 1))) (.bin .add (.var 7) (.var 3))))
    (.seq (.ret (.ite (.chain .le .lt (.lit (.int 0)) (.var 8) (.var 7)) (.bin .add (.bin .add (.var 4) (.var 6)) (.bin .mul (.lit (.int 7)) (.var 8))) (.lit .non)))
    .nil))))))⟩
def d_day_text : FD := ⟨1, 4, (.seq (.set (.tup (.cons (.nm 1) (.cons (.nm 2) (.cons (.nm 3) .nil)))) (.call "date_of" (.cons (.var 0) .nil)))
    (.seq (.ret (.bin .add (.bin .add (.bin .add (.bin .add (.bin .mul (.lit (.str "0")) (.bin .sub (.lit (.int 4)) (.bi .len (.cons (.bi .str (.cons (.var 1) .nil)) .nil)))) (.fs (.cons (.fmt (.var 1)) (.cons (.lit (.str "-")) .nil)))) (.call "two_figures" (.cons (.var 2) .nil))) (.lit (.str "-"))) (.call "two_figures" (.cons (.var 3) .nil))))
    .nil))⟩
def d_two_figures : FD := ⟨1, 1, (.seq (.ret (.ite (.cmp .lt (.var 0) (.lit (.int 10))) (.bin .add (.lit (.str "0")) (.bi .str (.cons (.var 0) .nil))) (.bi .str (.cons (.var 0) .nil))))
    .nil)⟩
def d_read_day : FD := ⟨1, 3, (.seq (.set (.nm 1) (.mi .split (.var 0) (.cons (.lit (.str "-")) .nil)))
    (.seq (.ifs (.or (.cmp .ne (.lc (.nm 2) (.var 1) (.lit (.bl true)) (.bi .len (.cons (.var 2) .nil)) [("part", 2)]) (.lst (.cons (.lit (.int 4)) (.cons (.lit (.int 2)) (.cons (.lit (.int 2)) .nil))))) (.anyOut (.mi .join (.lit (.str "")) (.cons (.var 1) .nil)) "0123456789" "sign"))
    (.seq (.rais "DayError")
    .nil)
    .nil)
    (.seq (.ret (.call "day_of" (.cons (.bi .int (.cons (.idx (.var 1) (.lit (.int 0))) .nil)) (.cons (.bi .int (.cons (.idx (.var 1) (.lit (.int 1))) .nil)) (.cons (.bi .int (.cons (.idx (.var 1) (.lit (.int 2))) .nil)) .nil)))))
    .nil)))⟩
def d_long_text : FD := ⟨1, 4, (.seq (.set (.tup (.cons (.nm 1) (.cons (.nm 2) (.cons (.nm 3) .nil)))) (.call "date_of" (.cons (.var 0) .nil)))
    (.seq (.ret (.fs (.cons (.fmt (.idx (.glob "WEEKDAYS" (.strs ["Mon", "Tue", "Wed", "Thu", "Fri", "Sat", "Sun"])) (.call "weekday_of" (.cons (.var 0) .nil)))) (.cons (.lit (.str " ")) (.cons (.fmt (.var 3)) (.cons (.lit (.str " ")) (.cons (.fmt (.idx (.glob "MONTHS" (.strs ["Jan", "Feb", "Mar", "Apr", "May", "Jun", "Jul", "Aug", "Sep", "Oct", "Nov", "Dec"])) (.bin .sub (.var 2) (.lit (.int 1))))) (.cons (.lit (.str " ")) (.cons (.fmt (.var 1)) .nil)))))))))
    .nil))⟩
def d_time_text : FD := ⟨1, 1, (.seq (.ifs (.not (.chain .le .lt (.lit (.int 0)) (.var 0) (.lit (.int 1440))))
    (.seq (.rais "DayError")
    .nil)
    .nil)
    (.seq (.ret (.bin .add (.bin .add (.call "two_figures" (.cons (.bin .fdiv (.var 0) (.lit (.int 60))) .nil)) (.lit (.str ":"))) (.call "two_figures" (.cons (.bin .mod (.var 0) (.lit (.int 60))) .nil))))
    .nil))⟩
def d_read_time : FD := ⟨1, 4, (.seq (.set (.tup (.cons (.nm 1) (.cons (.nm 2) (.cons (.nm 3) .nil)))) (.mi .partition (.var 0) (.cons (.lit (.str ":")) .nil)))
    (.seq (.ifs (.or (.cmp .eq (.var 2) (.lit (.str ""))) (.or (.not (.chain .le .le (.lit (.int 1)) (.bi .len (.cons (.var 1) .nil)) (.lit (.int 2)))) (.cmp .ne (.bi .len (.cons (.var 3) .nil)) (.lit (.int 2)))))
    (.seq (.rais "DayError")
    .nil)
    .nil)
    (.seq (.ifs (.or (.anyOut (.bin .add (.var 1) (.var 3)) "0123456789" "sign") (.or (.cmp .gt (.bi .int (.cons (.var 1) .nil)) (.lit (.int 23))) (.cmp .gt (.bi .int (.cons (.var 3) .nil)) (.lit (.int 59)))))
    (.seq (.rais "DayError")
    .nil)
    .nil)
    (.seq (.ret (.bin .add (.bin .mul (.lit (.int 60)) (.bi .int (.cons (.var 1) .nil))) (.bi .int (.cons (.var 3) .nil))))
    .nil))))⟩
def d_stamp_of : FD := ⟨2, 2, (.seq (.ifs (.or (.not (.chain .le .le (.lit (.int 0)) (.var 0) (.glob "LAST_DAY" (.int 3652058)))) (.not (.chain .le .lt (.lit (.int 0)) (.var 1) (.lit (.int 1440)))))
    (.seq (.rais "DayError")
    .nil)
    .nil)
    (.seq (.ret (.bin .add (.bin .mul (.lit (.int 1440)) (.var 0)) (.var 1)))
    .nil))⟩
def d_stamp_text : FD := ⟨1, 1, (.seq (.ret (.bin .add (.bin .add (.call "day_text" (.cons (.bin .fdiv (.var 0) (.lit (.int 1440))) .nil)) (.lit (.str " "))) (.call "time_text" (.cons (.bin .mod (.var 0) (.lit (.int 1440))) .nil))))
    .nil)⟩
def d_read_stamp : FD := ⟨1, 4, (.seq (.set (.tup (.cons (.nm 1) (.cons (.nm 2) (.cons (.nm 3) .nil)))) (.mi .partition (.var 0) (.cons (.lit (.str " ")) .nil)))
    (.seq (.ret (.call "stamp_of" (.cons (.call "read_day" (.cons (.var 1) .nil)) (.cons (.call "read_time" (.cons (.var 3) .nil)) .nil))))
    .nil))⟩
def d_work_days : FD := ⟨3, 5, (.seq (.ifs (.not (.chain .le .le (.lit (.int 0)) (.bin .sub (.var 1) (.var 0)) (.lit (.int 10000))))
    (.seq (.rais "DayError")
    .nil)
    .nil)
    (.seq (.set (.nm 3) (.dc (.nm 4) (.var 2) (.lit (.bl true)) (.var 4) (.lit (.bl true)) [("day", 4)]))
    (.seq (.ret (.bi .len (.cons (.lc (.nm 4) (.rng2 (.var 0) (.bin .add (.var 1) (.lit (.int 1)))) (.and (.cmp .lt (.bin .mod (.var 4) (.lit (.int 7))) (.lit (.int 5))) (.cmp .notin (.var 4) (.var 3))) (.lit (.int 1)) [("day", 4)]) .nil)))
    .nil)))⟩
def d_work_step : FD := ⟨3, 5, (.seq (.ifs (.not (.chain .le .le (.lit (.int 0)) (.var 1) (.lit (.int 1000))))
    (.seq (.rais "DayError")
    .nil)
    .nil)
    (.seq (.set (.nm 3) (.dc (.nm 4) (.var 2) (.lit (.bl true)) (.var 4) (.lit (.bl true)) [("one", 4)]))
    (.seq (.whl (.or (.cmp .gt (.var 1) (.lit (.int 0))) (.or (.cmp .gt (.bin .mod (.var 0) (.lit (.int 7))) (.lit (.int 4))) (.cmp .isin (.var 0) (.var 3))))
    (.seq (.aug 1 .sub (.ite (.and (.cmp .lt (.bin .mod (.var 0) (.lit (.int 7))) (.lit (.int 5))) (.cmp .notin (.var 0) (.var 3))) (.lit (.int 1)) (.lit (.int 0))))
    (.seq (.aug 0 .add (.lit (.int 1)))
    .nil)))
    (.seq (.ret (.var 0))
    .nil))))⟩
def d__law_dice : FD := ⟨1, 1, (.seq (.ifs (.chain .lt .lt (.bin .sub (.lit (.int 0)) (.lit (.int 10))) (.var 0) (.lit (.int 10)))
    (.seq (.ret (.new (.cons (.bi .abs (.cons (.var 0) .nil)) (.cons (.lit (.int 0)) (.cons (.lit (.int 2)) .nil)))))
    .nil)
    .nil)
    (.seq (.ret (.new (.cons (.var 0) (.cons (.bin .add (.lit (.int 1)) (.bin .mod (.bi .int (.cons (.var 0) .nil)) (.lit (.int 1009)))) (.cons (.bi .int (.cons (.cmp .ge (.var 0) (.bin .pow (.lit (.int 10)) (.lit (.int 18)))) .nil)) .nil)))))
    .nil))⟩
def d__law_roll : FD := ⟨2, 3, (.seq (.ifs (.or (.cmp .eq (.idx (.var 0) (.lit (.int 2))) (.lit (.int 2))) (.and (.cmp .eq (.idx (.var 0) (.lit (.int 2))) (.lit (.int 1))) (.cmp .gt (.idx (.var 0) (.lit (.int 0))) (.lit (.int 0)))))
    (.seq (.set (.nm 2) (.bin .mod (.bi .int (.cons (.idx (.var 0) (.lit (.int 0))) .nil)) (.var 1)))
    (.seq (.setIx (.var 0) (.lit (.int 0)) (.bin .fdiv (.idx (.var 0) (.lit (.int 0))) (.var 1)))
    (.seq (.ret (.var 2))
    .nil)))
    .nil)
    (.seq (.setIx (.var 0) (.lit (.int 2)) (.lit (.int 0)))
    (.seq (.ifs (.cmp .gt (.var 1) (.lit (.int 100000000)))
    (.seq (.ret (.bin .mod (.bi .int (.cons (.bin .add (.bin .mul (.call "_law_roll" (.cons (.var 0) (.cons (.bin .add (.bin .fdiv (.var 1) (.lit (.int 100000000))) (.lit (.int 1))) .nil))) (.lit (.int 100000000))) (.call "_law_roll" (.cons (.var 0) (.cons (.lit (.int 100000000)) .nil)))) .nil)) (.var 1)))
    .nil)
    .nil)
    (.seq (.setIx (.var 0) (.lit (.int 0)) (.bin .mod (.bi .int (.cons (.bin .add (.bin .add (.bin .mul (.idx (.var 0) (.lit (.int 0))) (.lit (.int 48271))) (.bin .mul (.idx (.var 0) (.lit (.int 1))) (.lit (.int 69621)))) (.lit (.int 11))) .nil)) (.lit (.int 2147483647))))
    (.seq (.setIx (.var 0) (.lit (.int 1)) (.bin .add (.idx (.var 0) (.lit (.int 1))) (.lit (.int 1))))
    (.seq (.ret (.bin .mod (.bi .int (.cons (.bin .fdiv (.idx (.var 0) (.lit (.int 0))) (.lit (.int 7))) .nil)) (.var 1)))
    .nil))))))⟩
def d__law_rounds : FD := ⟨2, 4, (.seq (.set (.nm 2) (.sl (.var 0) (.lit .non) (.var 1)))
    (.seq (.ifs (.cmp .eq (.var 2) (.lst .nil))
    (.seq (.set (.nm 2) (.lst (.cons (.lit (.int 0)) .nil)))
    .nil)
    .nil)
    (.seq (.ret (.lc (.nm 3) (.var 2) (.lit (.bl true)) (.call "_law_dice" (.cons (.var 3) .nil)) [("cell", 3)]))
    .nil)))⟩
def d__law_long : FD := ⟨2, 2, (.seq (.ret (.ite (.and (.cmp .eq (.var 1) (.lit (.int 2))) (.or (.cmp .eq (.bin .mod (.var 0) (.lit (.int 400))) (.lit (.int 0))) (.and (.cmp .eq (.bin .mod (.var 0) (.lit (.int 4))) (.lit (.int 0))) (.cmp .ne (.bin .mod (.var 0) (.lit (.int 100))) (.lit (.int 0)))))) (.lit (.int 29)) (.idx (.lst (.cons (.lit (.int 31)) (.cons (.lit (.int 28)) (.cons (.lit (.int 31)) (.cons (.lit (.int 30)) (.cons (.lit (.int 31)) (.cons (.lit (.int 30)) (.cons (.lit (.int 31)) (.cons (.lit (.int 31)) (.cons (.lit (.int 30)) (.cons (.lit (.int 31)) (.cons (.lit (.int 30)) (.cons (.lit (.int 31)) .nil))))))))))))) (.bin .sub (.var 1) (.lit (.int 1))))))
    .nil)⟩
def d__law_number : FD := ⟨3, 5, (.seq (.set (.nm 3) (.bi .sum (.cons (.lc (.nm 4) (.rng2 (.bin .add (.lit (.int 1)) (.bin .mul (.bin .fdiv (.bin .sub (.var 0) (.lit (.int 1))) (.lit (.int 400))) (.lit (.int 400)))) (.var 0)) (.lit (.bl true)) (.ite (.or (.cmp .eq (.bin .mod (.var 4) (.lit (.int 400))) (.lit (.int 0))) (.and (.cmp .eq (.bin .mod (.var 4) (.lit (.int 4))) (.lit (.int 0))) (.cmp .ne (.bin .mod (.var 4) (.lit (.int 100))) (.lit (.int 0))))) (.lit (.int 366)) (.lit (.int 365))) [("one", 4)]) .nil)))
    (.seq (.ret (.bin .sub (.bin .add (.bin .add (.bin .add (.var 3) (.bin .mul (.bin .fdiv (.bin .sub (.var 0) (.lit (.int 1))) (.lit (.int 400))) (.lit (.int 146097)))) (.bi .sum (.cons (.lc (.nm 4) (.rng2 (.lit (.int 1)) (.var 1)) (.lit (.bl true)) (.call "_law_long" (.cons (.var 0) (.cons (.var 4) .nil))) [("one", 4)]) .nil))) (.var 2)) (.lit (.int 1))))
    .nil))⟩
def d__law_date : FD := ⟨1, 3, (.seq (.set (.nm 1) (.bin .add (.idx (.lst (.cons (.lit (.int 1)) (.cons (.lit (.int 1900)) (.cons (.lit (.int 2000)) (.cons (.lit (.int 2024)) (.cons (.lit (.int 9998)) .nil)))))) (.call "_law_roll" (.cons (.var 0) (.cons (.lit (.int 5)) .nil)))) (.call "_law_roll" (.cons (.var 0) (.cons (.lit (.int 2)) .nil)))))
    (.seq (.set (.nm 2) (.bin .add (.lit (.int 1)) (.call "_law_roll" (.cons (.var 0) (.cons (.lit (.int 12)) .nil)))))
    (.seq (.ret (.tup (.cons (.var 1) (.cons (.var 2) (.cons (.idx (.lst (.cons (.lit (.int 1)) (.cons (.call "_law_long" (.cons (.var 1) (.cons (.var 2) .nil))) (.cons (.bin .add (.lit (.int 1)) (.call "_law_roll" (.cons (.var 0) (.cons (.call "_law_long" (.cons (.var 1) (.cons (.var 2) .nil))) .nil)))) .nil)))) (.call "_law_roll" (.cons (.var 0) (.cons (.lit (.int 3)) .nil)))) .nil)))))
    .nil)))⟩
def d__law_text : FD := ⟨1, 1, (.seq (.ret (.bin .add (.bin .add (.bin .add (.bin .add (.sl (.bin .add (.lit (.str "000")) (.bi .str (.cons (.idx (.var 0) (.lit (.int 0))) .nil))) (.neg (.lit (.int 4))) (.lit .non)) (.lit (.str "-"))) (.sl (.bin .add (.lit (.str "0")) (.bi .str (.cons (.idx (.var 0) (.lit (.int 1))) .nil))) (.neg (.lit (.int 2))) (.lit .non))) (.lit (.str "-"))) (.sl (.bin .add (.lit (.str "0")) (.bi .str (.cons (.idx (.var 0) (.lit (.int 2))) .nil))) (.neg (.lit (.int 2))) (.lit .non))))
    .nil)⟩
def d__law_plain : FD := ⟨0, 4, (.seq (.set (.nm 0) (.call "read_day" (.cons (.lit (.str "2026-11-19")) .nil)))
    (.seq (.set (.nm 1) (.lst (.cons (.lam 28) (.cons (.lam 27) (.cons (.lam 26) (.cons (.lam 25) (.cons (.lam 24) .nil)))))))
    (.seq (.set (.nm 1) (.bin .add (.var 1) (.lst (.cons (.lam 23) (.cons (.lam 22) (.cons (.lam 21) (.cons (.lam 20) (.cons (.lam 19) .nil))))))))
    (.seq (.set (.nm 1) (.bin .add (.var 1) (.lst (.cons (.lam 18) (.cons (.lam 17) (.cons (.lam 16) (.cons (.lam 15) .nil)))))))
    (.seq (.set (.nm 1) (.bin .add (.var 1) (.lst (.cons (.lam 14) (.cons (.lam 13) (.cons (.lam 12) (.cons (.lam 11) (.cons (.lam 10) .nil))))))))
    (.seq (.set (.nm 1) (.bin .add (.var 1) (.lst (.cons (.lam 9) (.cons (.lam 8) (.cons (.lam 7) (.cons (.lam 6) (.cons (.lam 5) .nil))))))))
    (.seq (.set (.nm 1) (.bin .add (.var 1) (.lst (.cons (.lam 4) (.cons (.lam 3) (.cons (.lam 2) (.cons (.lam 1) .nil)))))))
    (.seq (.set (.nm 1) (.bin .add (.var 1) (.lst (.cons (.lam 0) .nil))))
    (.seq (.ifs (.cmp .ne (.lc (.nm 3) (.var 1) (.cmp .ne (.toldV "_law_told" "DayError" (.var 3)) (.lit (.str "DayError"))) (.lit (.int 1)) [("f", 3)]) (.lst .nil))
    (.seq (.ret (.lit (.bl false)))
    .nil)
    .nil)
    (.seq (.ifs (.cmp .ne (.tup (.cons (.glob "LAST_DAY" (.int 3652058)) (.cons (.bi .len (.cons (.glob "LONG_MONTHS" (.ints [31, 28, 31, 30, 31, 30, 31, 31, 30, 31, 30, 31])) .nil)) (.cons (.idx (.glob "WEEKDAYS" (.strs ["Mon", "Tue", "Wed", "Thu", "Fri", "Sat", "Sun"])) (.lit (.int 0))) (.cons (.idx (.glob "MONTHS" (.strs ["Jan", "Feb", "Mar", "Apr", "May", "Jun", "Jul", "Aug", "Sep", "Oct", "Nov", "Dec"])) (.lit (.int 11))) (.cons (.call "two_figures" (.cons (.lit (.int 7)) .nil)) .nil)))))) (.tup (.cons (.lit (.int 3652058)) (.cons (.lit (.int 12)) (.cons (.lit (.str "Mon")) (.cons (.lit (.str "Dec")) (.cons (.lit (.str "07")) .nil)))))))
    (.seq (.ret (.lit (.bl false)))
    .nil)
    .nil)
    (.seq (.set (.nm 2) (.lst (.cons (.var 0) (.cons (.call "date_of" (.cons (.var 0) .nil)) (.cons (.call "weekday_of" (.cons (.var 0) .nil)) (.cons (.call "week_of" (.cons (.var 0) .nil)) (.cons (.call "day_text" (.cons (.call "month_step" (.cons (.call "read_day" (.cons (.lit (.str "2026-01-31")) .nil)) (.cons (.lit (.int 1)) .nil))) .nil)) (.cons (.call "day_text" (.cons (.call "nth_weekday" (.cons (.lit (.int 2026)) (.cons (.lit (.int 11)) (.cons (.lit (.int 3)) (.cons (.lit (.int 4)) .nil))))) .nil)) .nil))))))))
    (.seq (.set (.nm 2) (.bin .add (.var 2) (.lst (.cons (.call "nth_weekday" (.cons (.lit (.int 2026)) (.cons (.lit (.int 2)) (.cons (.lit (.int 0)) (.cons (.lit (.int 5)) .nil))))) (.cons (.call "long_text" (.cons (.var 0) .nil)) (.cons (.call "time_text" (.cons (.lit (.int 575)) .nil)) (.cons (.call "read_time" (.cons (.lit (.str "9:35")) .nil)) (.cons (.call "stamp_text" (.cons (.call "stamp_of" (.cons (.var 0) (.cons (.lit (.int 575)) .nil))) .nil)) .nil))))))))
    (.seq (.set (.nm 2) (.bin .add (.var 2) (.lst (.cons (.cmp .eq (.call "read_stamp" (.cons (.lit (.str "2026-11-19 09:35")) .nil)) (.call "stamp_of" (.cons (.var 0) (.cons (.lit (.int 575)) .nil)))) (.cons (.call "work_days" (.cons (.var 0) (.cons (.bin .add (.var 0) (.lit (.int 6))) (.cons (.tup .nil) .nil)))) (.cons (.call "day_text" (.cons (.call "work_step" (.cons (.var 0) (.cons (.lit (.int 2)) (.cons (.tup .nil) .nil)))) .nil)) (.cons (.call "month_long" (.cons (.lit (.int 2028)) (.cons (.lit (.int 2)) .nil))) .nil)))))))
    (.seq (.set (.nm 2) (.bin .add (.var 2) (.lst (.cons (.call "is_leap" (.cons (.lit (.int 1900)) .nil)) .nil))))
    (.seq (.ret (.cmp .eq (.var 2) (.lst (.cons (.lit (.int 739938)) (.cons (.tup (.cons (.lit (.int 2026)) (.cons (.lit (.int 11)) (.cons (.lit (.int 19)) .nil)))) (.cons (.lit (.int 3)) (.cons (.tup (.cons (.lit (.int 2026)) (.cons (.lit (.int 47)) .nil))) (.cons (.lit (.str "2026-02-28")) (.cons (.lit (.str "2026-11-26")) (.cons (.lit .non) (.cons (.lit (.str "Thu 19 Nov 2026")) (.cons (.lit (.str "09:35")) (.cons (.lit (.int 575)) (.cons (.lit (.str "2026-11-19 09:35")) (.cons (.lit (.bl true)) (.cons (.lit (.int 5)) (.cons (.lit (.str "2026-11-23")) (.cons (.lit (.int 29)) (.cons (.lit (.bl false)) .nil)))))))))))))))))))
    .nil)))))))))))))))⟩
def d_law : FD := ⟨1, 30, (.seq (.par2 1 2 (.lst (.cons (.lit (.str "Mon")) (.cons (.lit (.str "Tue")) (.cons (.lit (.str "Wed")) (.cons (.lit (.str "Thu")) (.cons (.lit (.str "Fri")) (.cons (.lit (.str "Sat")) (.cons (.lit (.str "Sun")) .nil)))))))) (.lst (.cons (.lit (.str "Jan")) (.cons (.lit (.str "Feb")) (.cons (.lit (.str "Mar")) (.cons (.lit (.str "Apr")) (.cons (.lit (.str "May")) (.cons (.lit (.str "Jun")) (.cons (.lit (.str "Jul")) (.cons (.lit (.str "Aug")) (.cons (.lit (.str "Sep")) (.cons (.lit (.str "Oct")) (.cons (.lit (.str "Nov")) (.cons (.lit (.str "Dec")) .nil))))))))))))))
    (.seq (.forr (.nm 3) (.call "_law_rounds" (.cons (.var 0) (.cons (.lit (.int 1)) .nil)))
    (.seq (.set (.nm 4) (.call "_law_date" (.cons (.var 3) .nil)))
    (.seq (.set (.tup (.cons (.nm 5) (.cons (.nm 6) (.cons (.nm 7) .nil)))) (.var 4))
    (.seq (.set (.nm 8) (.call "_law_number" (.cons (.var 5) (.cons (.var 6) (.cons (.var 7) .nil)))))
    (.seq (.ifs (.or (.cmp .ne (.call "day_of" (.cons (.var 5) (.cons (.var 6) (.cons (.var 7) .nil)))) (.var 8)) (.or (.cmp .ne (.call "date_of" (.cons (.var 8) .nil)) (.var 4)) (.cmp .ne (.call "weekday_of" (.cons (.var 8) .nil)) (.bin .mod (.var 8) (.lit (.int 7))))))
    (.seq (.ret (.lit (.bl false)))
    .nil)
    .nil)
    (.seq (.ifs (.or (.cmp .ne (.call "month_long" (.cons (.var 5) (.cons (.var 6) .nil))) (.call "_law_long" (.cons (.var 5) (.cons (.var 6) .nil)))) (.cmp .ne (.call "day_text" (.cons (.var 8) .nil)) (.call "_law_text" (.cons (.var 4) .nil))))
    (.seq (.ret (.lit (.bl false)))
    .nil)
    .nil)
    (.seq (.ifs (.cmp .ne (.call "read_day" (.cons (.call "_law_text" (.cons (.var 4) .nil)) .nil)) (.var 8))
    (.seq (.ret (.lit (.bl false)))
    .nil)
    .nil)
    (.seq (.ifs (.cmp .lt (.var 8) (.lit (.int 3652058)))
    (.seq (.set (.nm 9) (.ite (.cmp .lt (.var 7) (.call "_law_long" (.cons (.var 5) (.cons (.var 6) .nil)))) (.tup (.cons (.var 5) (.cons (.var 6) (.cons (.bin .add (.var 7) (.lit (.int 1))) .nil)))) (.ite (.cmp .lt (.var 6) (.lit (.int 12))) (.tup (.cons (.var 5) (.cons (.bin .add (.var 6) (.lit (.int 1))) (.cons (.lit (.int 1)) .nil)))) (.tup (.cons (.bin .add (.var 5) (.lit (.int 1))) (.cons (.lit (.int 1)) (.cons (.lit (.int 1)) .nil)))))))
    (.seq (.ifs (.cmp .ne (.call "date_of" (.cons (.bin .add (.var 8) (.lit (.int 1))) .nil)) (.var 9))
    (.seq (.ret (.lit (.bl false)))
    .nil)
    .nil)
    .nil))
    .nil)
    (.seq (.ifs (.cmp .ne (.call "long_text" (.cons (.var 8) .nil)) (.bin .add (.bin .add (.bin .add (.bin .add (.bin .add (.bin .add (.idx (.var 1) (.bin .mod (.var 8) (.lit (.int 7)))) (.lit (.str " "))) (.bi .str (.cons (.var 7) .nil))) (.lit (.str " "))) (.idx (.var 2) (.bin .sub (.var 6) (.lit (.int 1))))) (.lit (.str " "))) (.bi .str (.cons (.var 5) .nil))))
    (.seq (.ret (.lit (.bl false)))
    .nil)
    .nil)
    (.seq (.set (.nm 10) (.bin .add (.bin .sub (.var 8) (.bin .mod (.var 8) (.lit (.int 7)))) (.lit (.int 3))))
    (.seq (.ifs (.chain .le .le (.lit (.int 0)) (.var 10) (.lit (.int 3652058)))
    (.seq (.set (.nm 11) (.idx (.call "date_of" (.cons (.var 10) .nil)) (.lit (.int 0))))
    (.seq (.ifs (.cmp .ne (.call "week_of" (.cons (.var 8) .nil)) (.tup (.cons (.var 11) (.cons (.bin .add (.lit (.int 1)) (.bi .len (.cons (.lc (.nm 28) (.rng2 (.call "_law_number" (.cons (.var 11) (.cons (.lit (.int 1)) (.cons (.lit (.int 1)) .nil)))) (.var 10)) (.cmp .eq (.bin .mod (.var 28) (.lit (.int 7))) (.lit (.int 3))) (.lit (.int 1)) [("one", 28)]) .nil))) .nil))))
    (.seq (.ret (.lit (.bl false)))
    .nil)
    .nil)
    .nil))
    .nil)
    (.seq (.set (.nm 12) (.bin .sub (.call "_law_roll" (.cons (.var 3) (.cons (.lit (.int 60)) .nil))) (.lit (.int 30))))
    (.seq (.set (.nm 13) (.bin .add (.bin .sub (.bin .add (.bin .mul (.var 5) (.lit (.int 12))) (.var 6)) (.lit (.int 1))) (.var 12)))
    (.seq (.set (.nm 14) (.tup (.cons (.bin .fdiv (.var 13) (.lit (.int 12))) (.cons (.bin .add (.bin .mod (.var 13) (.lit (.int 12))) (.lit (.int 1))) .nil))))
    (.seq (.set (.nm 15) (.ite (.chain .le .le (.lit (.int 1)) (.idx (.var 14) (.lit (.int 0))) (.lit (.int 9999))) (.call "_law_number" (.cons (.idx (.var 14) (.lit (.int 0))) (.cons (.idx (.var 14) (.lit (.int 1))) (.cons (.bi .min2 (.cons (.var 7) (.cons (.call "_law_long" (.cons (.idx (.var 14) (.lit (.int 0))) (.cons (.idx (.var 14) (.lit (.int 1))) .nil))) .nil))) .nil)))) (.lit (.str "DayError"))))
    (.seq (.ifs (.cmp .ne (.told "_law_told" "DayError" (.call "month_step" (.cons (.var 8) (.cons (.var 12) .nil)))) (.var 15))
    (.seq (.ret (.lit (.bl false)))
    .nil)
    .nil)
    (.seq (.set (.tup (.cons (.nm 16) (.cons (.nm 17) .nil))) (.tup (.cons (.call "_law_roll" (.cons (.var 3) (.cons (.lit (.int 7)) .nil))) (.cons (.idx (.lst (.cons (.lit (.int 1)) (.cons (.lit (.int 2)) (.cons (.lit (.int 3)) (.cons (.lit (.int 4)) (.cons (.lit (.int 5)) (.cons (.neg (.lit (.int 1))) (.cons (.neg (.lit (.int 2))) .nil)))))))) (.call "_law_roll" (.cons (.var 3) (.cons (.lit (.int 7)) .nil)))) .nil))))
    (.seq (.set (.nm 18) (.lc (.nm 28) (.rng2 (.call "_law_number" (.cons (.var 5) (.cons (.var 6) (.cons (.lit (.int 1)) .nil)))) (.bin .add (.call "_law_number" (.cons (.var 5) (.cons (.var 6) (.cons (.lit (.int 1)) .nil)))) (.call "_law_long" (.cons (.var 5) (.cons (.var 6) .nil))))) (.cmp .eq (.bin .mod (.var 28) (.lit (.int 7))) (.var 16)) (.var 28) [("one", 28)]))
    (.seq (.set (.nm 19) (.ite (.cmp .gt (.var 17) (.lit (.int 0))) (.bin .sub (.var 17) (.lit (.int 1))) (.bin .add (.bi .len (.cons (.var 18) .nil)) (.var 17))))
    (.seq (.par2 20 21 (.call "_law_roll" (.cons (.var 3) (.cons (.lit (.int 1440)) .nil))) (.call "_law_roll" (.cons (.var 3) (.cons (.lit (.int 10)) .nil))))
    (.seq (.set (.nm 22) (.bin .add (.bin .add (.sl (.bin .add (.lit (.str "0")) (.bi .str (.cons (.bin .fdiv (.var 20) (.lit (.int 60))) .nil))) (.neg (.lit (.int 2))) (.lit .non)) (.lit (.str ":"))) (.sl (.bin .add (.lit (.str "0")) (.bi .str (.cons (.bin .mod (.var 20) (.lit (.int 60))) .nil))) (.neg (.lit (.int 2))) (.lit .non))))
    (.seq (.ifs (.cmp .ne (.call "nth_weekday" (.cons (.var 5) (.cons (.var 6) (.cons (.var 16) (.cons (.var 17) .nil))))) (.ite (.chain .le .lt (.lit (.int 0)) (.var 19) (.bi .len (.cons (.var 18) .nil))) (.idx (.var 18) (.var 19)) (.lit .non)))
    (.seq (.ret (.lit (.bl false)))
    .nil)
    .nil)
    (.seq (.ifs (.or (.cmp .ne (.call "time_text" (.cons (.var 20) .nil)) (.var 22)) (.or (.cmp .ne (.call "read_time" (.cons (.var 22) .nil)) (.var 20)) (.cmp .ne (.call "read_time" (.cons (.bin .add (.bi .str (.cons (.var 21) .nil)) (.lit (.str ":05"))) .nil)) (.bin .add (.bin .mul (.lit (.int 60)) (.var 21)) (.lit (.int 5))))))
    (.seq (.ret (.lit (.bl false)))
    .nil)
    .nil)
    (.seq (.ifs (.cmp .ne (.call "stamp_of" (.cons (.var 8) (.cons (.var 20) .nil))) (.bin .add (.bin .mul (.lit (.int 1440)) (.var 8)) (.var 20)))
    (.seq (.ret (.lit (.bl false)))
    .nil)
    .nil)
    (.seq (.ifs (.cmp .ne (.call "stamp_text" (.cons (.bin .add (.bin .mul (.lit (.int 1440)) (.var 8)) (.var 20)) .nil)) (.bin .add (.bin .add (.call "_law_text" (.cons (.var 4) .nil)) (.lit (.str " "))) (.var 22)))
    (.seq (.ret (.lit (.bl false)))
    .nil)
    .nil)
    (.seq (.ifs (.cmp .ne (.call "read_stamp" (.cons (.bin .add (.bin .add (.call "_law_text" (.cons (.var 4) .nil)) (.lit (.str " "))) (.var 22)) .nil)) (.bin .add (.bin .mul (.lit (.int 1440)) (.var 8)) (.var 20)))
    (.seq (.ret (.lit (.bl false)))
    .nil)
    .nil)
    (.seq (.set (.tup (.cons (.nm 23) (.cons (.nm 24) (.cons (.nm 25) .nil)))) (.tup (.cons (.bin .add (.lit (.int 700000)) (.call "_law_roll" (.cons (.var 3) (.cons (.lit (.int 400)) .nil)))) (.cons (.call "_law_roll" (.cons (.var 3) (.cons (.lit (.int 40)) .nil))) (.cons (.call "_law_roll" (.cons (.var 3) (.cons (.lit (.int 12)) .nil))) .nil)))))
    (.seq (.set (.nm 26) (.lc (.nm 29) (.rng1 (.call "_law_roll" (.cons (.var 3) (.cons (.lit (.int 5)) .nil)))) (.lit (.bl true)) (.bin .add (.var 23) (.call "_law_roll" (.cons (.var 3) (.cons (.lit (.int 30)) .nil)))) [("k", 29)]))
    (.seq (.set (.nm 27) (.lc (.nm 28) (.rng2 (.var 23) (.bin .add (.var 23) (.lit (.int 80)))) (.and (.cmp .lt (.bin .mod (.var 28) (.lit (.int 7))) (.lit (.int 5))) (.cmp .notin (.var 28) (.var 26))) (.var 28) [("one", 28)]))
    (.seq (.ifs (.cmp .ne (.call "work_days" (.cons (.var 23) (.cons (.bin .add (.var 23) (.var 24)) (.cons (.var 26) .nil)))) (.bi .len (.cons (.lc (.nm 28) (.var 27) (.cmp .le (.var 28) (.bin .add (.var 23) (.var 24))) (.var 28) [("one", 28)]) .nil)))
    (.seq (.ret (.lit (.bl false)))
    .nil)
    .nil)
    (.seq (.ifs (.cmp .ne (.call "work_step" (.cons (.var 23) (.cons (.var 25) (.cons (.var 26) .nil)))) (.idx (.var 27) (.var 25)))
    (.seq (.ret (.lit (.bl false)))
    .nil)
    .nil)
    .nil)))))))))))))))))))))))))))))))
    (.seq (.ret (.call "_law_plain" .nil))
    .nil)))⟩
def l_0 : E := (.call "work_step" (.cons (.lit (.int 0)) (.cons (.lit (.int 1001)) (.cons (.tup .nil) .nil))))
def l_1 : E := (.call "work_step" (.cons (.lit (.int 0)) (.cons (.neg (.lit (.int 1))) (.cons (.tup .nil) .nil))))
def l_2 : E := (.call "work_days" (.cons (.lit (.int 0)) (.cons (.lit (.int 10001)) (.cons (.tup .nil) .nil))))
def l_3 : E := (.call "work_days" (.cons (.lit (.int 2)) (.cons (.lit (.int 1)) (.cons (.tup .nil) .nil))))
def l_4 : E := (.call "read_stamp" (.cons (.lit (.str "2026-11-19")) .nil))
def l_5 : E := (.call "stamp_text" (.cons (.neg (.lit (.int 1))) .nil))
def l_6 : E := (.call "stamp_of" (.cons (.lit (.int 0)) (.cons (.lit (.int 1440)) .nil)))
def l_7 : E := (.call "stamp_of" (.cons (.neg (.lit (.int 1))) (.cons (.lit (.int 0)) .nil)))
def l_8 : E := (.call "read_time" (.cons (.lit (.str "9:5")) .nil))
def l_9 : E := (.call "read_time" (.cons (.lit (.str "9")) .nil))
def l_10 : E := (.call "read_time" (.cons (.lit (.str "9:60")) .nil))
def l_11 : E := (.call "read_time" (.cons (.lit (.str "24:00")) .nil))
def l_12 : E := (.call "time_text" (.cons (.neg (.lit (.int 1))) .nil))
def l_13 : E := (.call "time_text" (.cons (.lit (.int 1440)) .nil))
def l_14 : E := (.call "read_day" (.cons (.lit (.str "x")) .nil))
def l_15 : E := (.call "read_day" (.cons (.lit (.str "2026-02-29")) .nil))
def l_16 : E := (.call "read_day" (.cons (.lit (.str "2026-1-1")) .nil))
def l_17 : E := (.call "nth_weekday" (.cons (.lit (.int 2026)) (.cons (.lit (.int 13)) (.cons (.lit (.int 0)) (.cons (.lit (.int 1)) .nil)))))
def l_18 : E := (.call "nth_weekday" (.cons (.lit (.int 2026)) (.cons (.lit (.int 1)) (.cons (.lit (.int 0)) (.cons (.lit (.int 0)) .nil)))))
def l_19 : E := (.call "nth_weekday" (.cons (.lit (.int 2026)) (.cons (.lit (.int 1)) (.cons (.lit (.int 7)) (.cons (.lit (.int 1)) .nil)))))
def l_20 : E := (.call "month_step" (.cons (.lit (.int 0)) (.cons (.neg (.lit (.int 1))) .nil)))
def l_21 : E := (.call "weekday_of" (.cons (.neg (.lit (.int 1))) .nil))
def l_22 : E := (.call "date_of" (.cons (.lit (.int 3652059)) .nil))
def l_23 : E := (.call "date_of" (.cons (.neg (.lit (.int 1))) .nil))
def l_24 : E := (.call "day_of" (.cons (.lit (.int 10000)) (.cons (.lit (.int 1)) (.cons (.lit (.int 1)) .nil))))
def l_25 : E := (.call "day_of" (.cons (.lit (.int 2026)) (.cons (.lit (.int 1)) (.cons (.lit (.int 0)) .nil))))
def l_26 : E := (.call "day_of" (.cons (.lit (.int 2026)) (.cons (.lit (.int 2)) (.cons (.lit (.int 29)) .nil))))
def l_27 : E := (.call "month_long" (.cons (.lit (.int 2026)) (.cons (.lit (.int 13)) .nil)))
def l_28 : E := (.call "month_long" (.cons (.lit (.int 0)) (.cons (.lit (.int 1)) .nil)))
def f_is_leap : FnDat := ⟨"is_leap", d_is_leap, top 8, ["year"], ["year"], .no⟩
def f_month_long : FnDat := ⟨"month_long", d_month_long, top 9, ["year", "month"], ["year", "month"], .no⟩
def f_day_of : FnDat := ⟨"day_of", d_day_of, top 10, ["year", "month", "day", "before", "found", "one"], ["year", "month", "day"], .no⟩
def f_date_of : FnDat := ⟨"date_of", d_date_of, top 11, ["number", "year", "month", "left"], ["number"], .no⟩
def f_weekday_of : FnDat := ⟨"weekday_of", d_weekday_of, top 12, ["number"], ["number"], .no⟩
def f_week_of : FnDat := ⟨"week_of", d_week_of, top 13, ["number", "thursday", "year"], ["number"], .no⟩
def f_month_step : FnDat := ⟨"month_step", d_month_step, top 14, ["number", "many", "year", "month", "day", "whole"], ["number", "many"], .no⟩
def f_nth_weekday : FnDat := ⟨"nth_weekday", d_nth_weekday, top 15, ["year", "month", "weekday", "many", "first", "long", "ahead", "count", "place"], ["year", "month", "weekday", "many"], .no⟩
def f_day_text : FnDat := ⟨"day_text", d_day_text, top 16, ["number", "year", "month", "day"], ["number"], .no⟩
def f_two_figures : FnDat := ⟨"two_figures", d_two_figures, top 17, ["number"], ["number"], .no⟩
def f_read_day : FnDat := ⟨"read_day", d_read_day, top 18, ["text", "parts", "part"], ["text"], .gen⟩
def f_long_text : FnDat := ⟨"long_text", d_long_text, top 19, ["number", "year", "month", "day"], ["number"], .no⟩
def f_time_text : FnDat := ⟨"time_text", d_time_text, top 20, ["minute"], ["minute"], .no⟩
def f_read_time : FnDat := ⟨"read_time", d_read_time, top 21, ["text", "hours", "mark", "minutes"], ["text"], .gen⟩
def f_stamp_of : FnDat := ⟨"stamp_of", d_stamp_of, top 22, ["day", "minute"], ["day", "minute"], .no⟩
def f_stamp_text : FnDat := ⟨"stamp_text", d_stamp_text, top 23, ["stamp"], ["stamp"], .no⟩
def f_read_stamp : FnDat := ⟨"read_stamp", d_read_stamp, top 24, ["text", "day", "mark", "time"], ["text"], .no⟩
def f_work_days : FnDat := ⟨"work_days", d_work_days, top 25, ["first", "last", "off", "taken", "day"], ["first", "last", "off"], .no⟩
def f_work_step : FnDat := ⟨"work_step", d_work_step, top 26, ["day", "many", "off", "taken", "one"], ["day", "many", "off"], .no⟩
def f__law_dice : FnDat := ⟨"_law_dice", d__law_dice, top 28, ["cell"], ["cell"], .no⟩
def f__law_roll : FnDat := ⟨"_law_roll", d__law_roll, top 29, ["dice", "many", "found"], ["dice", "many"], .no⟩
def f__law_rounds : FnDat := ⟨"_law_rounds", d__law_rounds, top 30, ["script", "most", "cells", "cell"], ["script", "most"], .no⟩
def f__law_long : FnDat := ⟨"_law_long", d__law_long, top 32, ["year", "month"], ["year", "month"], .no⟩
def f__law_number : FnDat := ⟨"_law_number", d__law_number, top 33, ["year", "month", "day", "found", "one"], ["year", "month", "day"], .no⟩
def f__law_date : FnDat := ⟨"_law_date", d__law_date, top 34, ["dice", "year", "month"], ["dice"], .no⟩
def f__law_text : FnDat := ⟨"_law_text", d__law_text, top 35, ["row"], ["row"], .no⟩
def f__law_plain : FnDat := ⟨"_law_plain", d__law_plain, top 36, ["day", "bad", "told", "f"], [], .lam⟩
def f_law : FnDat := ⟨"law", d_law, top 37, ["script", "names", "months", "dice", "row", "year", "month", "day", "number", "after", "thursday", "own", "many", "whole", "goal", "due", "weekday", "which", "days", "place", "minute", "bare", "clock", "begin", "long", "step", "off", "works", "one", "k"], ["script"], .lam⟩
def D : Dat where
  fl := [f_is_leap, f_month_long, f_day_of, f_date_of, f_weekday_of, f_week_of, f_month_step, f_nth_weekday, f_day_text, f_two_figures, f_read_day, f_long_text, f_time_text, f_read_time, f_stamp_of, f_stamp_text, f_read_stamp, f_work_days, f_work_step, f__law_dice, f__law_roll, f__law_rounds, f__law_long, f__law_number, f__law_date, f__law_text, f__law_plain, f_law]
  cons := [("LONG_MONTHS", (.ints [31, 28, 31, 30, 31, 30, 31, 31, 30, 31, 30, 31])), ("WEEKDAYS", (.strs ["Mon", "Tue", "Wed", "Thu", "Fri", "Sat", "Sun"])), ("MONTHS", (.strs ["Jan", "Feb", "Mar", "Apr", "May", "Jun", "Jul", "Aug", "Sep", "Oct", "Nov", "Dec"])), ("LAST_DAY", (.int 3652058))]
  bis := ["abs", "any", "int", "len", "min", "range", "str", "sum"]
  excs := ["DayError"]
  tolds := [("_law_told", "DayError", top 31)]
  lams := [l_0, l_1, l_2, l_3, l_4, l_5, l_6, l_7, l_8, l_9, l_10, l_11, l_12, l_13, l_14, l_15, l_16, l_17, l_18, l_19, l_20, l_21, l_22, l_23, l_24, l_25, l_26, l_27, l_28]
theorem okF : D.fl.all (fnB D.T) = true := by decide +kernel
theorem okN : (D.fl.all fun d => noLamN d.name) = true := by decide +kernel
theorem b_is_leap : f_is_leap.Bind := fun _ _ _ _ _ _ us hl => match us, hl with | [_], _ => rfl
theorem b_month_long : f_month_long.Bind := fun _ _ _ _ _ _ us hl => match us, hl with | [_, _], _ => rfl
theorem b_day_of : f_day_of.Bind := fun _ _ _ _ _ _ us hl => match us, hl with | [_, _, _], _ => rfl
theorem b_date_of : f_date_of.Bind := fun _ _ _ _ _ _ us hl => match us, hl with | [_], _ => rfl
theorem b_weekday_of : f_weekday_of.Bind := fun _ _ _ _ _ _ us hl => match us, hl with | [_], _ => rfl
theorem b_week_of : f_week_of.Bind := fun _ _ _ _ _ _ us hl => match us, hl with | [_], _ => rfl
theorem b_month_step : f_month_step.Bind := fun _ _ _ _ _ _ us hl => match us, hl with | [_, _], _ => rfl
theorem b_nth_weekday : f_nth_weekday.Bind := fun _ _ _ _ _ _ us hl => match us, hl with | [_, _, _, _], _ => rfl
theorem b_day_text : f_day_text.Bind := fun _ _ _ _ _ _ us hl => match us, hl with | [_], _ => rfl
theorem b_two_figures : f_two_figures.Bind := fun _ _ _ _ _ _ us hl => match us, hl with | [_], _ => rfl
theorem b_read_day : f_read_day.Bind := fun _ _ _ _ _ _ us hl => match us, hl with | [_], _ => rfl
theorem b_long_text : f_long_text.Bind := fun _ _ _ _ _ _ us hl => match us, hl with | [_], _ => rfl
theorem b_time_text : f_time_text.Bind := fun _ _ _ _ _ _ us hl => match us, hl with | [_], _ => rfl
theorem b_read_time : f_read_time.Bind := fun _ _ _ _ _ _ us hl => match us, hl with | [_], _ => rfl
theorem b_stamp_of : f_stamp_of.Bind := fun _ _ _ _ _ _ us hl => match us, hl with | [_, _], _ => rfl
theorem b_stamp_text : f_stamp_text.Bind := fun _ _ _ _ _ _ us hl => match us, hl with | [_], _ => rfl
theorem b_read_stamp : f_read_stamp.Bind := fun _ _ _ _ _ _ us hl => match us, hl with | [_], _ => rfl
theorem b_work_days : f_work_days.Bind := fun _ _ _ _ _ _ us hl => match us, hl with | [_, _, _], _ => rfl
theorem b_work_step : f_work_step.Bind := fun _ _ _ _ _ _ us hl => match us, hl with | [_, _, _], _ => rfl
theorem b__law_dice : f__law_dice.Bind := fun _ _ _ _ _ _ us hl => match us, hl with | [_], _ => rfl
theorem b__law_roll : f__law_roll.Bind := fun _ _ _ _ _ _ us hl => match us, hl with | [_, _], _ => rfl
theorem b__law_rounds : f__law_rounds.Bind := fun _ _ _ _ _ _ us hl => match us, hl with | [_, _], _ => rfl
theorem b__law_long : f__law_long.Bind := fun _ _ _ _ _ _ us hl => match us, hl with | [_, _], _ => rfl
theorem b__law_number : f__law_number.Bind := fun _ _ _ _ _ _ us hl => match us, hl with | [_, _, _], _ => rfl
theorem b__law_date : f__law_date.Bind := fun _ _ _ _ _ _ us hl => match us, hl with | [_], _ => rfl
theorem b__law_text : f__law_text.Bind := fun _ _ _ _ _ _ us hl => match us, hl with | [_], _ => rfl
theorem b__law_plain : f__law_plain.Bind := fun _ _ _ _ _ _ us hl => match us, hl with | [], _ => rfl
theorem b_law : f_law.Bind := fun _ _ _ _ _ _ us hl => match us, hl with | [_], _ => rfl
theorem okB : ∀ d ∈ D.fl, d.Bind := List.forall_mem_cons.mpr ⟨b_is_leap, List.forall_mem_cons.mpr ⟨b_month_long, List.forall_mem_cons.mpr ⟨b_day_of, List.forall_mem_cons.mpr ⟨b_date_of, List.forall_mem_cons.mpr ⟨b_weekday_of, List.forall_mem_cons.mpr ⟨b_week_of, List.forall_mem_cons.mpr ⟨b_month_step, List.forall_mem_cons.mpr ⟨b_nth_weekday, List.forall_mem_cons.mpr ⟨b_day_text, List.forall_mem_cons.mpr ⟨b_two_figures, List.forall_mem_cons.mpr ⟨b_read_day, List.forall_mem_cons.mpr ⟨b_long_text, List.forall_mem_cons.mpr ⟨b_time_text, List.forall_mem_cons.mpr ⟨b_read_time, List.forall_mem_cons.mpr ⟨b_stamp_of, List.forall_mem_cons.mpr ⟨b_stamp_text, List.forall_mem_cons.mpr ⟨b_read_stamp, List.forall_mem_cons.mpr ⟨b_work_days, List.forall_mem_cons.mpr ⟨b_work_step, List.forall_mem_cons.mpr ⟨b__law_dice, List.forall_mem_cons.mpr ⟨b__law_roll, List.forall_mem_cons.mpr ⟨b__law_rounds, List.forall_mem_cons.mpr ⟨b__law_long, List.forall_mem_cons.mpr ⟨b__law_number, List.forall_mem_cons.mpr ⟨b__law_date, List.forall_mem_cons.mpr ⟨b__law_text, List.forall_mem_cons.mpr ⟨b__law_plain, List.forall_mem_cons.mpr ⟨b_law, fun _ h => absurd h List.not_mem_nil⟩⟩⟩⟩⟩⟩⟩⟩⟩⟩⟩⟩⟩⟩⟩⟩⟩⟩⟩⟩⟩⟩⟩⟩⟩⟩⟩⟩
theorem t__law_told : Told ("_law_told", "DayError", top 31) := ⟨"what", ["what"], _, _, _, _, _, _, _, _, _, scB_ok (by decide +kernel), rfl, .inl rfl, by decide, by decide, rfl, rfl, by decide, fun _ _ _ _ _ _ us hl => match us, hl with | [_], _ => rfl⟩
theorem okT : ∀ t ∈ D.tolds, Told t ∧ t.2.1 ∈ D.excs := List.forall_mem_cons.mpr ⟨⟨t__law_told, by decide +kernel⟩, fun _ h => absurd h List.not_mem_nil⟩
theorem okL : D.FT "law" = some d_law := by rfl
end K01

end
section
set_option Elab.async false
set_option linter.all false
set_option maxRecDepth 100000
set_option maxHeartbeats 0
namespace K01
open PySem PySem.Spec PyProof.Rows L2 Dy
abbrev R : PySem.W.OpenRow := PySem.W.OpenLaw.row PySem.Challenge.rw_diarystack_k01_days_and_dates
abbrev hk : PySem.W.Hook := D.hk 5
def ob (s : PySem.W.SharedT) : He.AlX := He.obsX 5 D.fa D.fn [] D.tf D.ex (HandSHeadRun.getT s)
theorem ob_eq (s : PySem.W.SharedT) : ob s = hk.obs s.abs := He.obsX_eq (HandSHeadRun.getT_eq s)
def loose : List PySem.Str := ([("__name__" : PySem.Str), ("DiaryFault" : PySem.Str), ("DayError" : PySem.Str), ("LONG_MONTHS" : PySem.Str), ("WEEKDAYS" : PySem.Str), ("MONTHS" : PySem.Str), ("LAST_DAY" : PySem.Str), ("is_leap" : PySem.Str), ("month_long" : PySem.Str), ("day_of" : PySem.Str), ("date_of" : PySem.Str), ("weekday_of" : PySem.Str)] : List PySem.Str) ++ ([("week_of" : PySem.Str), ("month_step" : PySem.Str), ("nth_weekday" : PySem.Str), ("day_text" : PySem.Str), ("two_figures" : PySem.Str), ("read_day" : PySem.Str), ("long_text" : PySem.Str), ("time_text" : PySem.Str), ("read_time" : PySem.Str), ("stamp_of" : PySem.Str), ("stamp_text" : PySem.Str), ("read_stamp" : PySem.Str)] : List PySem.Str) ++ ([("work_days" : PySem.Str), ("work_step" : PySem.Str), ("_law_dice" : PySem.Str), ("_law_roll" : PySem.Str), ("_law_rounds" : PySem.Str), ("_law_told" : PySem.Str), ("_law_long" : PySem.Str), ("_law_number" : PySem.Str), ("_law_date" : PySem.Str), ("_law_text" : PySem.Str), ("_law_plain" : PySem.Str)] : List PySem.Str)
theorem head (w : World) : HandSHeadRun.RunEq R (PySem.W.view R.prog [37]) hk ob 4000 loose w := by
  intro os
  kernel_rfl
end K01

end
section
set_option Elab.async false
set_option linter.all false
set_option maxRecDepth 100000
set_option maxHeartbeats 0
/-! k01: the law from the plain law. -/
namespace K01
open PySem PySem.Spec PyProof.Rows L2 Dy
/-- the plain law -/
def Plain : Prop := ∀ ns : List Int, ns.length ≤ 63 → (∀ z ∈ ns, Builtin.Int.intBits z ≤ 1048576) → ∃ S', run D.FT (11 + 1) "law" [.arg ns] [] = .ok (.bl true) S'
theorem at_law (P : Plain) {w : World} {K : PySem.W.Frag} {mg : Str → Option Value} {fa : Addr} {h : Heap} (X : K.In h) (Gn : h.Ns mainGlobals mg) (hfa : mg "law" = some (.ref fa)) (c : He.SaysX D.fa D.fn [] D.tf D.ex w h K) :
    LamX.LawAtS PySem.Challenge.rw_diarystack_k01_days_and_dates w K (CX PySem.Challenge.rw_diarystack_k01_days_and_dates.prog w) (5 * (11 + 1)) 63 "script" mg fa h :=
  law_of (dl := f_law) X Gn hfa c okF okB okN okT (List.mem_iff_getElem?.mpr ⟨27, rfl⟩) rfl rfl okL P
end K01
open PySem PySem.W PySem.Calls PyProof.Rows
theorem K01.holds (P : K01.Plain) : PySem.Challenge.rw_diarystack_k01_days_and_dates.Holds := by
  w_on; o_law
  refine HandSHeadRun.head_any (r := OpenLaw.row PySem.Challenge.rw_diarystack_k01_days_and_dates) (q := view (OpenLaw.row PySem.Challenge.rw_diarystack_k01_days_and_dates).prog [37]) (H := K01.hk) (ob := K01.ob) (M := 4000) (loose := K01.loose) (d := HandSHeadRun.topDef (OpenLaw.row PySem.Challenge.rw_diarystack_k01_days_and_dates).prog 37) (kwd := []) K01.ob_eq
    (by kernel_rfl) (fun s => by kernel_rfl) K01.head (by kernel_rfl) (by kernel_rfl) (by kernel_rfl) (by rfl) (by first | assumption | decide +kernel) (by decide +kernel) ⟨rfl, rfl, rfl, rfl, rfl, by decide +kernel⟩ ?hw ?hc
  case hw => w_witness2
  case hc =>
    refine LamX.walk_ofTsE (l := PySem.Challenge.rw_diarystack_k01_days_and_dates) (n := 63) (k := 5 * (11 + 1)) (x := "script") (CX := fun w => L2.CX PySem.Challenge.rw_diarystack_k01_days_and_dates.prog w) rfl (by decide) (by kernel_rfl) ⟨rfl, by decide, by decide⟩ ?F (fun w H s e s' z => by obtain ⟨_, _, _, _, _, _, _, _, _, _, _, _, z⟩ := z; exact z)
    intro w mg fa h Y G hmg0
    obtain ⟨K, KX, c⟩ := Y
    have hmg : mg ("law" : PySem.Str) = some (.ref fa) := by
      have e : (HandSHeadRun.topDef (OpenLaw.row PySem.Challenge.rw_diarystack_k01_days_and_dates).prog 37).name = ("law" : PySem.Str) := by kernel_rfl
      rw [← e]
      exact hmg0
    exact ⟨K, KX, K01.at_law P KX G hmg c⟩

end
section
set_option Elab.async false
set_option linter.all false
set_option maxRecDepth 100000
set_option maxHeartbeats 400000
namespace K01
open PySem Dy L2
theorem run_at {k : Nat} {x : Str} {d : FD} {ws : List Wv} {S : Sto} (h : D.FT x = some d) (hl : ws.length = d.np) : run D.FT (k + 1) x ws S = leave (ex (run D.FT k) d.body (startW d.ns ws) S) := by
  show (match D.FT x with | none => Res.bad | some d => if ws.length = d.np then leave (ex (run D.FT k) d.body (startW d.ns ws) S) else .bad) = _
  rw [h]
  exact if_pos hl
theorem ft_is_leap : D.FT "is_leap" = some d_is_leap := by rfl
theorem ft_month_long : D.FT "month_long" = some d_month_long := by rfl
def leap (y : Int) : Bool := decide (y % 4 = 0) && (!decide (y % 100 = 0) || decide (y % 400 = 0))
theorem r_is_leap (k : Nat) (S : Sto) (y : Int) : run D.FT (k + 1) "is_leap" [.int y] S = .ok (.bl (leap y)) S := by
  rw [run_at ft_is_leap rfl]
  simp [d_is_leap, leap, startW, w_mod]
def mls : List Int := [31, 28, 31, 30, 31, 30, 31, 31, 30, 31, 30, 31]
def ml (y m : Int) : Int := if m = 2 ∧ leap y = true then 29 else mls.getD (m - 1).toNat 0
theorem twelve {m : Int} (hm : 1 ≤ m ∧ m ≤ 12) : m = 1 ∨ m = 2 ∨ m = 3 ∨ m = 4 ∨ m = 5 ∨ m = 6 ∨ m = 7 ∨ m = 8 ∨ m = 9 ∨ m = 10 ∨ m = 11 ∨ m = 12 := by omega
theorem r_month_long (k : Nat) (S : Sto) (y m : Int) (hy : 1 ≤ y ∧ y ≤ 9999) (hm : 1 ≤ m ∧ m ≤ 12) : run D.FT (k + 2) "month_long" [.int y, .int m] S = .ok (.int (ml y m)) S := by
  rw [run_at ft_month_long rfl]
  simp only [d_month_long, startW]
  rcases twelve hm with rfl | rfl | rfl | rfl | rfl | rfl | rfl | rfl | rfl | rfl | rfl | rfl <;>
    (simp [andK_b, orK_b, hy, r_is_leap, ml]; try (cases leap y <;> rfl)) <;> rfl
theorem r_month_bad (k : Nat) (S : Sto) (y m : Int) (h : ¬ (1 ≤ y ∧ y ≤ 9999) ∨ ¬ (1 ≤ m ∧ m ≤ 12)) : run D.FT (k + 2) "month_long" [.int y, .int m] S = .exc "DayError" S := by
  rw [run_at ft_month_long rfl]
  by_cases h1 : 1 ≤ y <;> by_cases h2 : y ≤ 9999 <;> by_cases h3 : 1 ≤ m <;> by_cases h4 : m ≤ 12 <;> simp [d_month_long, startW, andK_b, orK_b, h1, h2, h3, h4] at h ⊢

/-! ### day_of -/
theorem ft_day_of : D.FT "day_of" = some d_day_of := by rfl
/-- the days of the first n months -/
def cum (y : Int) : Nat → Int
  | 0 => 0
  | n + 1 => cum y n + ml y (1 + (n : Int))
def y0 (y : Int) : Int := 365 * (y - 1) + (y - 1) / 4 - (y - 1) / 100 + (y - 1) / 400
def dn (y m d : Int) : Int := y0 y + d - 1 + cum y (m - 1).toNat
theorem r_day_of (k : Nat) (S : Sto) (y m d : Int) (hy : 1 ≤ y ∧ y ≤ 9999) (hm : 1 ≤ m ∧ m ≤ 12) (hd : 1 ≤ d ∧ d ≤ ml y m) : run D.FT (k + 3) "day_of" [.int y, .int m, .int d] S = .ok (.int (dn y m d)) S := by
  rw [run_at ft_day_of rfl]
  have hml := r_month_long k S y m hy hm
  obtain ⟨σ', S', q1, q2⟩ := for_rng2 (cl := run D.FT (k + 2)) (g := .nm 5) (a := .lit (.int 1)) (b := .var 1) (body := .seq (.aug 4 .add (.call "month_long" (.cons (.var 0) (.cons (.var 5) .nil)))) .nil) (σ := [some (.int y), some (.int m), some (.int d), some (.int (y - 1)), some (.int (365 * (y - 1) + (y - 1) / 4 - (y - 1) / 100 + (y - 1) / 400 + d - 1)), none]) (S := S) (lo := 1) (hi := m) rfl rfl (by omega) (by omega) (by omega)
    (fun i σ T => T = S ∧ ∃ o, σ = [some (.int y), some (.int m), some (.int d), some (.int (y - 1)), some (.int (y0 y + d - 1 + cum y i)), o])
    ⟨rfl, none, by simp [cum, y0]⟩ (fun i σ T hi p => by
      obtain ⟨rfl, o, rfl⟩ := p
      have h1 := r_month_long k T y (1 + (i : Nat)) hy (by omega)
      refine ⟨_, _, T, rfl, .inl ?_, rfl, some (.int (1 + (i : Nat))), rfl⟩
      simp [h1, cum]
      omega)
  obtain ⟨rfl, o, rfl⟩ := q2
  simp [d_day_of, startW, andK_b, hml, hd, w_fdiv, w_mul _ _ (cm_l (j := y - 1) (i := 365) (by omega)), q1, dn]

/-! ### date_of -/
theorem ft_date_of : D.FT "date_of" = some d_date_of := by rfl
theorem ml_pos (y m : Int) : 0 ≤ ml y m := by
  unfold ml
  split
  · omega
  · have : ∀ n : Nat, 0 ≤ mls.getD n 0 := fun n => by
      match n with
      | 0 | 1 | 2 | 3 | 4 | 5 | 6 | 7 | 8 | 9 | 10 | 11 => decide
      | n + 12 => exact Int.le_refl _
    exact this _
theorem ml_28 (y m : Int) (hm : 1 ≤ m ∧ m ≤ 12) : 28 ≤ ml y m ∧ ml y m ≤ 31 := by
  rcases twelve hm with rfl | rfl | rfl | rfl | rfl | rfl | rfl | rfl | rfl | rfl | rfl | rfl <;> (unfold ml; cases leap y <;> decide)
theorem cum_mono (y : Int) {a b : Nat} (h : a ≤ b) : cum y a ≤ cum y b := by
  induction h with
  | refl => exact Int.le_refl _
  | step _ ih =>
    exact Int.le_trans ih (Int.le_add_of_nonneg_right (ml_pos _ _))
def yl (y : Int) : Int := if leap y = true then 366 else 365
theorem cum12 (y : Int) : cum y 12 = yl y := by
  unfold yl
  simp only [cum, ml]
  cases leap y <;> decide
theorem y0_succ (y : Int) : y0 (y + 1) = y0 y + yl y := by
  unfold y0 yl leap
  by_cases h4 : y % 4 = 0 <;> by_cases h100 : y % 100 = 0 <;> by_cases h400 : y % 400 = 0 <;> simp [h4, h100, h400] <;> omega
theorem yl_b (y : Int) : 365 ≤ yl y ∧ yl y ≤ 366 := by
  unfold yl
  split <;> omega
theorem y0_mono {a b : Int} (h : a ≤ b) : y0 a ≤ y0 b := by
  obtain ⟨n, rfl⟩ : ∃ n : Nat, b = a + n := ⟨(b - a).toNat, by omega⟩
  induction n with
  | zero => simp
  | succ n ih =>
    have e : a + ((n + 1 : Nat) : Int) = a + n + 1 := by omega
    rw [e, y0_succ]
    have := yl_b (a + n)
    have := ih (by omega)
    omega
theorem y0_le (y : Int) (h : 1 ≤ y) : y0 y ≤ 366 * (y - 1) := by
  unfold y0
  omega
theorem cum_lt (y : Int) {m : Int} (hm : 1 ≤ m ∧ m ≤ 12) {d : Int} (hd : 1 ≤ d ∧ d ≤ ml y m) : d + cum y (m - 1).toNat ≤ yl y := by
  have h1 : cum y ((m - 1).toNat + 1) ≤ cum y 12 := cum_mono y (by omega)
  rw [cum12] at h1
  have e : 1 + (((m - 1).toNat : Nat) : Int) = m := by omega
  have h2 : cum y ((m - 1).toNat + 1) = cum y (m - 1).toNat + ml y m := by
    show cum y (m - 1).toNat + ml y (1 + (((m - 1).toNat : Nat) : Int)) = _
    rw [e]
  omega
theorem cum_nn (y : Int) (n : Nat) : 0 ≤ cum y n := cum_mono y (Nat.zero_le n)
/-- a date that is one -/
structure Date (y m d : Int) : Prop where
  hy : 1 ≤ y ∧ y ≤ 9999
  hm : 1 ≤ m ∧ m ≤ 12
  hd : 1 ≤ d ∧ d ≤ ml y m
theorem dn_in {y m d : Int} (h : Date y m d) : y0 y ≤ dn y m d ∧ dn y m d < y0 (y + 1) := by
  have h1 := cum_lt y h.hm h.hd
  have h2 := cum_nn y (m - 1).toNat
  have h3 := h.hd
  rw [y0_succ]
  unfold dn
  omega
theorem dn_range {y m d : Int} (h : Date y m d) : 0 ≤ dn y m d ∧ dn y m d ≤ 3652058 := by
  have h1 := dn_in h
  have h2 : y0 1 ≤ y0 y := y0_mono h.hy.1
  have h3 : y0 (y + 1) ≤ y0 10000 := y0_mono (by have := h.hy.2; omega)
  have e1 : y0 1 = 0 := by decide
  have e2 : y0 10000 = 3652059 := by decide
  omega
theorem dn_one (y : Int) : dn y 1 1 = y0 y := by
  unfold dn
  simp [cum]
theorem r_date_of (k : Nat) (S : Sto) {y m d : Int} (h : Date y m d) : run D.FT (k + 4) "date_of" [.int (dn y m d)] S = .ok (.tup [.int y, .int m, .int d]) S := by
  rw [run_at ft_date_of rfl]
  have hr := dn_range h
  have hin := dn_in h
  have hy := h.hy
  have hm := h.hm
  have hd := h.hd
  generalize hN : dn y m d = n at hr hin
  have hstart : n / 366 + 1 ≤ y := by
    have := y0_le (y + 1) (by omega)
    omega
  have hs0 : 1 ≤ n / 366 + 1 := by omega
  obtain ⟨σ', S', q1, q2⟩ := wLoop_inv (ev (run D.FT (k + 3)) (.and (.cmp .lt (.var 1) (.lit (.int 9999))) (.cmp .le (.call "day_of" (.cons (.bin .add (.var 1) (.lit (.int 1))) (.cons (.lit (.int 1)) (.cons (.lit (.int 1)) .nil)))) (.var 0)))) (ex (run D.FT (k + 3)) (.seq (.aug 1 .add (.lit (.int 1))) .nil))
    (fun j σ T => T = S ∧ ∃ z : Int, z + (j : Nat) = y ∧ 1 ≤ z ∧ σ = [some (.int n), some (.int z), none, none])
    (fun σ T p => by
      obtain ⟨rfl, z, hz, _, rfl⟩ := p
      have hz : z = y := by omega
      subst hz
      by_cases h9 : z < 9999
      · have hq := r_day_of k T (z + 1) 1 1 (by omega) (by omega) (by have := ml_28 (z + 1) 1 (by omega); omega)
        rw [dn_one] at hq
        simp [andK_b, h9, hq]
        omega
      · simp [andK_b, h9])
    (fun j σ T p => by
      obtain ⟨rfl, z, hz, hz1, rfl⟩ := p
      have hz2 : z + 1 ≤ y := by omega
      have hq := r_day_of k T (z + 1) 1 1 (by omega) (by omega) (by have := ml_28 (z + 1) 1 (by omega); omega)
      rw [dn_one] at hq
      have h9 : z < 9999 := by omega
      have hle : y0 (z + 1) ≤ n := Int.le_trans (y0_mono hz2) hin.1
      refine ⟨?_, _, T, rfl, rfl, z + 1, by omega, by omega, rfl⟩
      simp [andK_b, h9, hq, hle])
    (y - (n / 366 + 1)).toNat fuelW [some (.int n), some (.int (n / 366 + 1)), none, none] S (by unfold fuelW; omega) ⟨rfl, n / 366 + 1, by omega, by omega, rfl⟩
  obtain ⟨rfl, z, hz, _, rfl⟩ := q2
  have hz : z = y := by omega
  subst hz
  have hy1 := r_day_of k S' z 1 1 hy (by omega) (by have := ml_28 z 1 (by omega); omega)
  rw [dn_one] at hy1
  -- the months
  have hl : n - y0 z = d - 1 + cum z (m - 1).toNat := by rw [← hN]; unfold dn; omega
  obtain ⟨σ2, S2, q3, q4⟩ := wLoop_inv (ev (run D.FT (k + 3)) (.cmp .ge (.var 3) (.call "month_long" (.cons (.var 1) (.cons (.var 2) .nil))))) (ex (run D.FT (k + 3)) (.seq (.aug 3 .sub (.call "month_long" (.cons (.var 1) (.cons (.var 2) .nil)))) (.seq (.aug 2 .add (.lit (.int 1))) .nil)))
    (fun j σ T => T = S' ∧ ∃ u l : Int, u + (j : Nat) = m ∧ 1 ≤ u ∧ l = d - 1 + cum z (m - 1).toNat - cum z (u - 1).toNat ∧ σ = [some (.int n), some (.int z), some (.int u), some (.int l)])
    (fun σ T p => by
      obtain ⟨rfl, u, l, hu, _, hl, rfl⟩ := p
      have hu : u = m := by omega
      subst hu
      have hq := r_month_long (k + 1) T z u hy hm
      simp [hq]
      omega)
    (fun j σ T p => by
      obtain ⟨rfl, u, l, hu, hu1, hl, rfl⟩ := p
      have hq := r_month_long (k + 1) T z u hy (by omega)
      have e1 : cum z ((u - 1).toNat + 1) = cum z (u - 1).toNat + ml z u := by
        show cum z (u - 1).toNat + ml z (1 + (((u - 1).toNat : Nat) : Int)) = _
        rw [show 1 + (((u - 1).toNat : Nat) : Int) = u by omega]
      have e2 : cum z ((u - 1).toNat + 1) ≤ cum z (m - 1).toNat := cum_mono z (by omega)
      have e3 : (u + 1 - 1).toNat = (u - 1).toNat + 1 := by omega
      refine ⟨?_, [some (.int n), some (.int z), some (.int (u + 1)), some (.int (l - ml z u))], T, ?_, rfl, u + 1, l - ml z u, by omega, by omega, by rw [e3, e1]; omega, rfl⟩
      · simp [hq]
        omega
      · simp [hq])
    (m - 1).toNat fuelW [some (.int n), some (.int z), some (.int 1), some (.int (n - y0 z))] S' (by unfold fuelW; omega) ⟨rfl, 1, n - y0 z, by omega, by omega, by have e : cum z (1 - 1 : Int).toNat = 0 := rfl; omega, rfl⟩
  obtain ⟨rfl, u, l, hu, _, hl2, rfl⟩ := q4
  have hu : u = m := by omega
  subst hu
  have hlast : ¬ 3652058 < n := by omega
  rw [← ex_whl] at q1 q3
  simp [d_date_of, startW, andK_b, hr, w_fdiv, q1, hy1, q3, sizeLine_eq]
  omega
end K01

end
section
set_option Elab.async false
set_option linter.all false
set_option maxRecDepth 100000
set_option maxHeartbeats 400000
namespace K01
open PySem Dy L2
/-! ### every number is a date's -/
theorem year_of {n : Int} (h0 : 0 ≤ n) : ∀ Y : Nat, n < y0 ((Y : Int) + 1) → ∃ y : Int, 1 ≤ y ∧ y ≤ Y ∧ y0 y ≤ n ∧ n < y0 (y + 1)
  | 0, h => by
    have e : y0 ((0 : Nat) + 1 : Int) = 0 := by decide
    omega
  | Y + 1, h => by
    by_cases c : n < y0 ((Y : Int) + 1)
    · obtain ⟨y, a, b, c', d⟩ := year_of h0 Y c
      exact ⟨y, a, by omega, c', d⟩
    · have e : ((Y + 1 : Nat) : Int) = (Y : Int) + 1 := by omega
      rw [e] at h
      exact ⟨(Y : Int) + 1, by omega, by omega, by omega, h⟩
theorem month_of {y r : Int} (h0 : 0 ≤ r) : ∀ M : Nat, M ≤ 12 → r < cum y M → ∃ m : Int, 1 ≤ m ∧ m ≤ M ∧ cum y (m - 1).toNat ≤ r ∧ r < cum y (m - 1).toNat + ml y m
  | 0, _, h => by
    have e : cum y 0 = 0 := rfl
    omega
  | M + 1, hM, h => by
    by_cases c : r < cum y M
    · obtain ⟨m, a, b, c', d⟩ := month_of h0 M (by omega) c
      exact ⟨m, a, by omega, c', d⟩
    · have e : ((M : Int) + 1 - 1).toNat = M := by omega
      refine ⟨(M : Int) + 1, by omega, by omega, by rw [e]; omega, ?_⟩
      rw [e]
      have e2 : cum y (M + 1) = cum y M + ml y (1 + (M : Int)) := rfl
      rw [e2, Int.add_comm 1] at h
      exact h
theorem date_at {n : Int} (h : 0 ≤ n ∧ n ≤ 3652058) : ∃ y m d, Date y m d ∧ dn y m d = n := by
  have e : y0 ((9999 : Nat) + 1 : Int) = 3652059 := by decide
  obtain ⟨y, a, b, c, d⟩ := year_of h.1 9999 (by rw [e]; omega)
  rw [y0_succ] at d
  obtain ⟨m, a2, b2, c2, d2⟩ := month_of (y := y) (r := n - y0 y) (by omega) 12 (Nat.le_refl _) (by rw [cum12]; omega)
  refine ⟨y, m, n - y0 y - cum y (m - 1).toNat + 1, ⟨⟨a, by omega⟩, ⟨a2, by omega⟩, by omega, by omega⟩, ?_⟩
  unfold dn
  omega
/-! ### weekdays, weeks, steps -/
theorem ft_weekday_of : D.FT "weekday_of" = some d_weekday_of := by rfl
theorem r_weekday_of (k : Nat) (S : Sto) {n : Int} (h : 0 ≤ n ∧ n ≤ 3652058) : run D.FT (k + 1) "weekday_of" [.int n] S = .ok (.int (n % 7)) S := by
  rw [run_at ft_weekday_of rfl]
  have h1 : ¬ 3652058 < n := by omega
  simp [d_weekday_of, startW, andK_b, h, w_mod]
theorem ft_week_of : D.FT "week_of" = some d_week_of := by rfl
theorem r_week_of (k : Nat) (S : Sto) {n Y M Dd : Int} (h : 0 ≤ n ∧ n ≤ 3652058) (hd : Date Y M Dd) (e : dn Y M Dd = n - n % 7 + 3) : run D.FT (k + 5) "week_of" [.int n] S = .ok (.tup [.int Y, .int ((n - n % 7 + 3 - y0 Y) / 7 + 1)]) S := by
  rw [run_at ft_week_of rfl]
  have h1 := r_weekday_of (k + 3) S h
  have h2 := r_date_of k S hd
  have h3 := r_day_of (k + 1) S Y 1 1 hd.hy (by omega) (by have := ml_28 Y 1 (by omega); omega)
  rw [dn_one] at h3
  rw [e] at h2
  simp [d_week_of, startW, h1, h2, h3, w_fdiv, idxW, rd, atI, ixN, sizeLine_eq]
theorem ft_month_step : D.FT "month_step" = some d_month_step := by rfl
theorem r_month_step (k : Nat) (S : Sto) {y m d many : Int} (h : Date y m d) (hm : -1000000 ≤ many ∧ many ≤ 1000000) : run D.FT (k + 5) "month_step" [.int (dn y m d), .int many] S =
    (if 1 ≤ (12 * y + m - 1 + many) / 12 ∧ (12 * y + m - 1 + many) / 12 ≤ 9999 then
      .ok (.int (dn ((12 * y + m - 1 + many) / 12) ((12 * y + m - 1 + many) % 12 + 1) (min d (ml ((12 * y + m - 1 + many) / 12) ((12 * y + m - 1 + many) % 12 + 1))))) S else .exc "DayError" S) := by
  rw [run_at ft_month_step rfl]
  have h2 := r_date_of k S h
  have hy := h.hy
  generalize hw : 12 * y + m - 1 + many = w
  have hmm : 1 ≤ w % 12 + 1 ∧ w % 12 + 1 ≤ 12 := by omega
  by_cases hv : 1 ≤ w / 12 ∧ w / 12 ≤ 9999
  · rw [if_pos hv]
    have h3 := r_month_long (k + 2) S (w / 12) (w % 12 + 1) hv hmm
    have hml := ml_28 (w / 12) (w % 12 + 1) hmm
    have h4 := r_day_of (k + 1) S (w / 12) (w % 12 + 1) (min d (ml (w / 12) (w % 12 + 1))) hv hmm (by have := h.hd; omega)
    have emin : (if ml (w / 12) (w % 12 + 1) < d then ml (w / 12) (w % 12 + 1) else d) = min d (ml (w / 12) (w % 12 + 1)) := by
      split <;> omega
    simp [d_month_step, startW, h2, w_fdiv, w_mod, w_mul _ _ (cm_l (j := y) (i := 12) (by omega)), hw, h3, biW, emin, h4]
  · rw [if_neg hv]
    have h3 := r_month_bad (k + 2) S (w / 12) (w % 12 + 1) (.inl hv)
    simp [d_month_step, startW, h2, w_fdiv, w_mod, w_mul _ _ (cm_l (j := y) (i := 12) (by omega)), hw, h3]
end K01

end
section
set_option Elab.async false
set_option linter.all false
set_option maxRecDepth 100000
set_option maxHeartbeats 400000
namespace K01
open PySem Dy L2
theorem ft_nth_weekday : D.FT "nth_weekday" = some d_nth_weekday := by rfl
def nthW (y m wd many : Int) : Wv :=
  let first := dn y m 1
  let ahead := (wd - first) % 7
  let count := (ml y m - ahead + 6) / 7
  let place := if 0 < many then many - 1 else count + many
  if 0 ≤ place ∧ place < count then .int (first + ahead + 7 * place) else .non
theorem r_nth_weekday (k : Nat) (S : Sto) {y m wd many : Int} (hy : 1 ≤ y ∧ y ≤ 9999) (hm : 1 ≤ m ∧ m ≤ 12) (hw : 0 ≤ wd ∧ wd ≤ 6) (h0 : many ≠ 0) : run D.FT (k + 4) "nth_weekday" [.int y, .int m, .int wd, .int many] S = .ok (nthW y m wd many) S := by
  rw [run_at ft_nth_weekday rfl]
  have h1 := r_day_of k S y m 1 hy hm (by have := ml_28 y m hm; omega)
  have h2 := r_month_long (k + 1) S y m hy hm
  have hw' : ¬ 6 < wd := by omega
  unfold nthW
  by_cases hp : 0 < many
  · have c1 : 1 ≤ many := by omega
    by_cases c2 : many - 1 < (ml y m - (wd - dn y m 1) % 7 + 6) / 7 <;>
      simp [d_nth_weekday, startW, andK_b, orK_b, hw, h0, h1, h2, w_fdiv, w_mod, hp, c1, c2, w_mul _ _ (cm_l (j := many - 1) (i := 7) (by omega))]
  · by_cases c1 : 0 ≤ (ml y m - (wd - dn y m 1) % 7 + 6) / 7 + many <;> by_cases c2 : (ml y m - (wd - dn y m 1) % 7 + 6) / 7 + many < (ml y m - (wd - dn y m 1) % 7 + 6) / 7 <;>
      simp [d_nth_weekday, startW, andK_b, orK_b, hw, h0, h1, h2, w_fdiv, w_mod, hp, c1, c2, w_mul _ _ (cm_l (j := (ml y m - (wd - dn y m 1) % 7 + 6) / 7 + many) (i := 7) (by omega))]
theorem ft_stamp_of : D.FT "stamp_of" = some d_stamp_of := by rfl
theorem r_stamp_of (k : Nat) (S : Sto) {n t : Int} (h : 0 ≤ n ∧ n ≤ 3652058) (ht : 0 ≤ t ∧ t < 1440) : run D.FT (k + 1) "stamp_of" [.int n, .int t] S = .ok (.int (1440 * n + t)) S := by
  rw [run_at ft_stamp_of rfl]
  have h1 : ¬ 3652058 < n := by omega
  simp [d_stamp_of, startW, andK_b, orK_b, h, ht, w_mul _ _ (cm_l (j := n) (i := 1440) (by omega))]
/-! ### the law's own long, number -/
theorem ft_law_long : D.FT "_law_long" = some d__law_long := by rfl
theorem r_law_long (k : Nat) (S : Sto) {y m : Int} (hm : 1 ≤ m ∧ m ≤ 12) : run D.FT (k + 1) "_law_long" [.int y, .int m] S = .ok (.int (ml y m)) S := by
  rw [run_at ft_law_long rfl]
  simp only [d__law_long, startW]
  rcases twelve hm with rfl | rfl | rfl | rfl | rfl | rfl | rfl | rfl | rfl | rfl | rfl | rfl <;>
    (simp [andK_b, orK_b, ml, w_mod, leap, idxW, rd, atI, ixN, sizeLine_eq, mls])
  by_cases h4 : y % 4 = 0 <;> by_cases h100 : y % 100 = 0 <;> by_cases h400 : y % 400 = 0 <;> simp [h4, h100, h400, idxW, rd, atI, ixN] <;> omega
theorem ft_law_number : D.FT "_law_number" = some d__law_number := by rfl
theorem y0_400 (q : Int) : y0 (1 + q * 400) = q * 146097 := by
  unfold y0
  omega
theorem r_law_number (k : Nat) (S : Sto) {y m d : Int} (hy : 1 ≤ y ∧ y ≤ 9999) (hm : 1 ≤ m ∧ m ≤ 12) : run D.FT (k + 2) "_law_number" [.int y, .int m, .int d] S = .ok (.int (dn y m d)) S := by
  rw [run_at ft_law_number rfl]
  have c1 := lc_rng2 (cl := run D.FT (k + 1)) (g := .nm 4) (a := .bin .add (.lit (.int 1)) (.bin .mul (.bin .fdiv (.bin .sub (.var 0) (.lit (.int 1))) (.lit (.int 400))) (.lit (.int 400)))) (b := .var 0) (c := .lit (.bl true))
    (e := .ite (.or (.cmp .eq (.bin .mod (.var 4) (.lit (.int 400))) (.lit (.int 0))) (.and (.cmp .eq (.bin .mod (.var 4) (.lit (.int 4))) (.lit (.int 0))) (.cmp .ne (.bin .mod (.var 4) (.lit (.int 100))) (.lit (.int 0))))) (.lit (.int 366)) (.lit (.int 365)))
    (own := [("one", 4)]) (σ := [some (.int y), some (.int m), some (.int d), none, none]) (S := S) (lo := 1 + (y - 1) / 400 * 400) (hi := y)
    (by simp [w_fdiv, w_mul _ _ (cm_r (i := (y - 1) / 400) (j := 400) (by omega))]) rfl (by omega) (by omega) (by omega) (fun x => [.int (yl x)]) (fun x _ _ => by
      refine lcF_nm (b := true) (y := .int (yl x)) rfl fun _ => ?_
      by_cases h4 : x % 4 = 0 <;> by_cases h100 : x % 100 = 0 <;> by_cases h400 : x % 400 = 0 <;> simp [wipeW, w_mod, orK_b, andK_b, h4, h100, h400, yl, leap] <;> omega)
  have c2 : ∀ F : Int, ev (run D.FT (k + 1)) (.lc (.nm 4) (.rng2 (.lit (.int 1)) (.var 1)) (.lit (.bl true)) (.call "_law_long" (.cons (.var 0) (.cons (.var 4) .nil))) [("one", 4)]) [some (.int y), some (.int m), some (.int d), some (.int F), none] S = _ := fun F =>
    lc_rng2 (cl := run D.FT (k + 1)) (g := .nm 4) (a := .lit (.int 1)) (b := .var 1) (c := .lit (.bl true)) (e := .call "_law_long" (.cons (.var 0) (.cons (.var 4) .nil)))
      (own := [("one", 4)]) (σ := [some (.int y), some (.int m), some (.int d), some (.int F), none]) (S := S) (lo := 1) (hi := m) rfl rfl (by omega) (by omega) (by omega) (fun x => [.int (ml y x)]) (fun x h1 h2 => by
        refine lcF_nm (b := true) (y := .int (ml y x)) rfl fun _ => ?_
        have := r_law_long k S (y := y) (m := x) (by omega)
        simp [wipeW, this])
  simp only [flat_one] at c1 c2
  have s1 : ((List.range (y - (1 + (y - 1) / 400 * 400)).toNat).map fun i => yl (1 + (y - 1) / 400 * 400 + (i : Nat))).sum = y0 y - (y - 1) / 400 * 146097 := by
    rw [sum_tel (fun i => yl (1 + (y - 1) / 400 * 400 + (i : Nat))) (fun n => y0 (1 + (y - 1) / 400 * 400 + (n : Nat)) - (y - 1) / 400 * 146097) (by simp [y0_400]) (fun n => by
      have e : 1 + (y - 1) / 400 * 400 + ((n + 1 : Nat) : Int) = 1 + (y - 1) / 400 * 400 + (n : Nat) + 1 := by omega
      rw [e, y0_succ]
      omega)]
    rw [show 1 + (y - 1) / 400 * 400 + ((y - (1 + (y - 1) / 400 * 400)).toNat : Nat) = y by omega]
  have s2 : ((List.range (m - 1).toNat).map fun i => ml y (1 + (i : Nat))).sum = cum y (m - 1).toNat := sum_tel (fun i => ml y (1 + (i : Nat))) (cum y) rfl (fun n => rfl) _
  have e1 : ∀ l : List Nat, ∀ f : Nat → Int, (l.map fun i => Wv.int (f i)) = (l.map f).map Wv.int := fun l f => by rw [List.map_map]; rfl
  rw [e1] at c1
  simp only [e1] at c2
  generalize (List.map (fun a : Nat => yl (1 + (y - 1) / 400 * 400 + (a : Nat))) (List.range (y - (1 + (y - 1) / 400 * 400)).toNat)) = L1 at c1 s1
  generalize (List.map (fun i : Nat => ml y (1 + (i : Nat))) (List.range (m - 1).toNat)) = L2 at c2 s2
  simp [d__law_number, startW, c1, c2, s1, s2, w_fdiv, w_mul _ _ (cm_r (i := (y - 1) / 400) (j := 146097) (by omega)), dn]
  omega
end K01

end
section
set_option Elab.async false
set_option linter.all false
set_option maxRecDepth 100000
set_option maxHeartbeats 400000
namespace K01
open PySem Dy L2
/-! ### the dice -/
theorem ft_law_roll : D.FT "_law_roll" = some d__law_roll := by rfl
theorem ft_law_dice : D.FT "_law_dice" = some d__law_dice := by rfl
theorem ft_law_rounds : D.FT "_law_rounds" = some d__law_rounds := by rfl
/-- the store while the law runs: the dice -/
def dS (p : Int × Int × Int) : Sto := [.lst [.int p.1, .int p.2.1, .int p.2.2]]
theorem r_roll (k : Nat) (p : Int × Int × Int) {many : Int} (h : 1 ≤ many ∧ many ≤ 100000000) :
    ∃ (r : Int) (p' : Int × Int × Int), (0 ≤ r ∧ r < many) ∧ run D.FT (k + 1) "_law_roll" [.ref 0, .int many] (dS p) = .ok (.int r) (dS p') := by
  obtain ⟨a, b, c⟩ := p
  have hm : ¬ 100000000 < many := by omega
  have key : ∀ z : Int, 0 ≤ z % many ∧ z % many < many := fun z => ⟨Int.emod_nonneg z (by omega), Int.emod_lt_of_pos z (by omega)⟩
  by_cases h2 : c = 2
  · refine ⟨a % many, (a / many, b, c), key _, ?_⟩
    rw [run_at ft_law_roll rfl]
    simp [d__law_roll, startW, dS, orK_b, andK_b, idxW, rd, atI, ixN, h2, biW, w_mod _ _ (show 0 < many by omega), w_fdiv _ _ (show 0 < many by omega) (show many < 1073741824 by omega), setIxW]
  · by_cases h1 : c = 1 ∧ 0 < a
    · obtain ⟨h1, h3⟩ := h1
      refine ⟨a % many, (a / many, b, c), key _, ?_⟩
      rw [run_at ft_law_roll rfl]
      simp [d__law_roll, startW, dS, orK_b, andK_b, idxW, rd, atI, ixN, h1, h3, biW, w_mod _ _ (show 0 < many by omega), w_fdiv _ _ (show 0 < many by omega) (show many < 1073741824 by omega), setIxW]
    · refine ⟨((a * 48271 + b * 69621 + 11) % 2147483647) / 7 % many, ((a * 48271 + b * 69621 + 11) % 2147483647, b + 1, 0), key _, ?_⟩
      rw [run_at ft_law_roll rfl]
      by_cases h1' : c = 1
      · have h3 : ¬ 0 < a := fun z => h1 ⟨h1', z⟩
        simp [d__law_roll, startW, dS, orK_b, andK_b, idxW, rd, atI, ixN, h1', h3, hm, biW, w_mod _ _ (show 0 < many by omega), w_mod, w_fdiv, setIxW, w_mul _ _ (cm_r (i := a) (j := 48271) (by omega)), w_mul _ _ (cm_r (i := b) (j := 69621) (by omega))]
      · simp [d__law_roll, startW, dS, orK_b, andK_b, idxW, rd, atI, ixN, h2, h1', hm, biW, w_mod _ _ (show 0 < many by omega), w_mod, w_fdiv, setIxW, w_mul _ _ (cm_r (i := a) (j := 48271) (by omega)), w_mul _ _ (cm_r (i := b) (j := 69621) (by omega))]
theorem w_pow18 (S : Sto) : binW .pow (.int 10) (.int 18) S = .ok (.int 1000000000000000000) S := by
  show (if CPow 10 18 then Res.ok (.int (10 ^ (18 : Int).toNat)) S else .bad) = _
  rw [if_pos (by decide)]
  rfl
theorem r_dice (k : Nat) (z : Int) : ∃ p : Int × Int × Int, run D.FT (k + 1) "_law_dice" [.int z] [] = .ok (.ref 0) (dS p) := by
  rw [run_at ft_law_dice rfl]
  by_cases h1 : -10 < z <;> by_cases h2 : z < 10
  · refine ⟨(if z < 0 then -z else z, 0, 2), ?_⟩
    simp [d__law_dice, startW, dS, andK_b, h1, h2, biW, sizeLine_eq]
  · refine ⟨(z, 1 + z % 1009, if 10 ^ 18 ≤ z then 1 else 0), ?_⟩
    by_cases h3 : (1000000000000000000 : Int) ≤ z <;> simp [d__law_dice, startW, dS, andK_b, h1, h2, h3, biW, sizeLine_eq, w_mod, w_pow18]
  · refine ⟨(z, 1 + z % 1009, if 10 ^ 18 ≤ z then 1 else 0), ?_⟩
    by_cases h3 : (1000000000000000000 : Int) ≤ z <;> simp [d__law_dice, startW, dS, andK_b, h1, h2, h3, biW, sizeLine_eq, w_mod, w_pow18]
  · omega
theorem eq_nil1 (z : Int) : eqD (.lst [.int z]) (.lst []) = some false := by
  show (if SeqAt.shaped (.list [.int z]) = true ∧ SeqAt.shaped (.list []) = true then some (PyData.eqv (.list [.int z]) (.list [])) else none) = _
  rw [if_pos ⟨by rfl, by rfl⟩]
  rfl
theorem eq_nil0 : eqD (.lst []) (.lst []) = some true := by
  show (if SeqAt.shaped (.list []) = true ∧ SeqAt.shaped (.list []) = true then some (PyData.eqv (.list []) (.list [])) else none) = _
  rw [if_pos ⟨by rfl, by rfl⟩]
  rfl
theorem r_rounds (k : Nat) (ns : List Int) : ∃ p : Int × Int × Int, run D.FT (k + 2) "_law_rounds" [.arg ns, .int 1] [] = .ok (.lst [.ref 0]) (dS p) := by
  have one : ∀ z : Int, ∃ p : Int × Int × Int, ev (run D.FT (k + 1)) (.lc (.nm 3) (.var 2) (.lit (.bl true)) (.call "_law_dice" (.cons (.var 3) .nil)) [("cell", 3)]) [some (.arg ns), some (.int 1), some (.lst [.int z]), none] [] = .ok (.lst [.ref 0]) (dS p) := fun z => by
    obtain ⟨p, hp⟩ := r_dice k z
    refine ⟨p, ?_⟩
    rw [ev_lc]
    simp [itW, sizeLine_eq, lcLoop, lcF, wipeW, hp]
  rw [run_at ft_law_rounds rfl]
  cases ns with
  | nil =>
    obtain ⟨p, hp⟩ := one 0
    refine ⟨p, ?_⟩
    simp [d__law_rounds, startW, intO, noB, slW, bndW, rd, cutW, HT.sIx, cmpW, ofB, eq_nil0, sizeLine_eq, hp]
  | cons z r =>
    obtain ⟨p, hp⟩ := one z
    refine ⟨p, ?_⟩
    simp [d__law_rounds, startW, intO, noB, slW, bndW, rd, cutW, HT.sIx, cmpW, ofB, eq_nil1, sizeLine_eq, hp]
    done
end K01

end
section
set_option Elab.async false
set_option linter.all false
set_option maxRecDepth 100000
set_option maxHeartbeats 400000
namespace K01
open PySem Dy L2
/-! ### the date that is drawn -/
theorem ft_law_date : D.FT "_law_date" = some d__law_date := by rfl
def Ys : List Int := [1, 2, 1900, 1901, 2000, 2001, 2024, 2025, 2026, 9998, 9999]
theorem Ys_r {y : Int} (h : y ∈ Ys) : 1 ≤ y ∧ y ≤ 9999 := by
  simp [Ys] at h
  omega
theorem atI_five {r : Int} (h : 0 ≤ r ∧ r < 5) (a b c d e : Wv) : atI [a, b, c, d, e] r = some (if r = 0 then a else if r = 1 then b else if r = 2 then c else if r = 3 then d else e) := by
  have : r = 0 ∨ r = 1 ∨ r = 2 ∨ r = 3 ∨ r = 4 := by omega
  rcases this with rfl | rfl | rfl | rfl | rfl <;> rfl
theorem atI_three {r : Int} (h : 0 ≤ r ∧ r < 3) (a b c : Wv) : atI [a, b, c] r = some (if r = 0 then a else if r = 1 then b else c) := by
  have : r = 0 ∨ r = 1 ∨ r = 2 := by omega
  rcases this with rfl | rfl | rfl <;> rfl
theorem r_law_date (k : Nat) (p : Int × Int × Int) : ∃ (y m d : Int) (p' : Int × Int × Int), y ∈ Ys ∧ Date y m d ∧ run D.FT (k + 2) "_law_date" [.ref 0] (dS p) = .ok (.tup [.int y, .int m, .int d]) (dS p') := by
  obtain ⟨r1, p1, h1, e1⟩ := r_roll k p (many := 5) (by omega)
  obtain ⟨r2, p2, h2, e2⟩ := r_roll k p1 (many := 2) (by omega)
  obtain ⟨r3, p3, h3, e3⟩ := r_roll k p2 (many := 12) (by omega)
  generalize hy : (if r1 = 0 then (1 : Int) else if r1 = 1 then 1900 else if r1 = 2 then 2000 else if r1 = 3 then 2024 else 9998) + r2 = y
  have hY : y ∈ Ys := by
    have q : r2 = 0 ∨ r2 = 1 := by omega
    have q1 : r1 = 0 ∨ r1 = 1 ∨ r1 = 2 ∨ r1 = 3 ∨ r1 = 4 := by omega
    rcases q with rfl | rfl <;> rcases q1 with rfl | rfl | rfl | rfl | rfl <;> (subst hy; decide)
  have hm : 1 ≤ 1 + r3 ∧ 1 + r3 ≤ 12 := by omega
  have e4 := r_law_long k (dS p3) (y := y) (m := 1 + r3) hm
  have hml := ml_28 y (1 + r3) hm
  obtain ⟨r5, p5, h5, e5⟩ := r_roll k p3 (many := ml y (1 + r3)) (by omega)
  obtain ⟨r6, p6, h6, e6⟩ := r_roll k p5 (many := 3) (by omega)
  refine ⟨y, 1 + r3, if r6 = 0 then 1 else if r6 = 1 then ml y (1 + r3) else 1 + r5, p6, hY, ⟨Ys_r hY, hm, ?_⟩, ?_⟩
  · split
    · omega
    · split <;> omega
  · rw [run_at ft_law_date rfl]
    have a5 : ∀ S, idxW (.lst [.int 1, .int 1900, .int 2000, .int 2024, .int 9998]) (.int r1) S = .ok (.int (if r1 = 0 then (1 : Int) else if r1 = 1 then 1900 else if r1 = 2 then 2000 else if r1 = 3 then 2024 else 9998)) S := fun S => by
      simp only [idxW, rd, atI_five h1]
      split <;> (try rfl) <;> split <;> (try rfl) <;> split <;> (try rfl) <;> split <;> rfl
    have a3 : ∀ S, idxW (.lst [.int 1, .int (ml y (1 + r3)), .int (1 + r5)]) (.int r6) S = .ok (.int (if r6 = 0 then 1 else if r6 = 1 then ml y (1 + r3) else 1 + r5)) S := fun S => by
      simp only [idxW, rd, atI_three h6]
      split <;> (try rfl) <;> split <;> rfl
    simp [d__law_date, startW, sizeLine_eq, e1, e2, e3, a5, hy, e4, e5, e6, a3]
end K01

end
section
set_option Elab.async false
set_option linter.all false
set_option maxRecDepth 100000
set_option maxHeartbeats 400000
namespace K01
open PySem Dy L2
/-! ### texts -/
def sI (i : Int) : Str := Str.ofString (toString i)
def tf (i : Int) : Str := if i < 10 then "0" ++ sI i else sI i
/-- a year in four figures -/
def yt (y : Int) : Str := strRepW "0" (4 - (sI y).length) ++ sI y
theorem fin_all {n : Nat} {P : Int → Bool} (h : ((List.range n).all fun i => P (i : Nat)) = true) {i : Int} (hi : 0 ≤ i ∧ i < n) : P i = true := by
  have := List.all_eq_true.mp h i.toNat (List.mem_range.mpr (by omega))
  rwa [show ((i.toNat : Nat) : Int) = i by omega] at this
theorem ys_all {P : Int → Bool} (h : (Ys.all P) = true) {y : Int} (hy : y ∈ Ys) : P y = true := List.all_eq_true.mp h y hy
theorem len_app (a b : Str) : (a ++ b).length = a.length + b.length := by
  show (a.cps ++ b.cps).size = _
  rw [Array.size_append]; rfl
def figB (i : Int) : Bool := decide ((tf i).length = 2) && decide ((sI i).length ≤ 2) && decide (i.natAbs.log2 < 1920) && decide (PySem.intText? (tf i) = some i) && decide (cutS ("0" ++ sI i) (some (-2)) none = tf i) && decide (("0" ++ sI i).length ≤ 3) && ((tf i).cps.toList.all fun c => decide (c ∈ ("0123456789" : Str).cps.toList))
theorem fin100 : ((List.range 100).all fun i => figB (i : Nat)) = true := by decide +kernel
structure Fig (i : Int) : Prop where
  l2 : (tf i).length = 2
  ls : (sI i).length ≤ 2
  lg : i.natAbs.log2 < 1920
  it : PySem.intText? (tf i) = some i
  ct : cutS ("0" ++ sI i) (some (-2)) none = tf i
  l0 : ("0" ++ sI i).length ≤ 3
  dg : ((tf i).cps.toList.all fun c => decide (c ∈ ("0123456789" : Str).cps.toList)) = true
theorem fig {i : Int} (h : 0 ≤ i ∧ i < 100) : Fig i := by
  have := fin_all (n := 100) (P := figB) fin100 (i := i) h
  simp only [figB, Bool.and_eq_true, decide_eq_true_eq] at this
  obtain ⟨⟨⟨⟨⟨⟨h1, h2⟩, h3⟩, h4⟩, h5⟩, h6⟩, h7⟩ := this
  exact ⟨h1, h2, h3, h4, h5, h6, h7⟩
theorem finY : (Ys.all fun i => decide ((yt i).length = 4) && decide ((sI i).length ≤ 4) && decide (i.natAbs.log2 < 1920) && decide (PySem.intText? (yt i) = some i) && decide (cutS ("000" ++ sI i) (some (-4)) none = yt i) && decide (("000" ++ sI i).length ≤ 7) && decide ((strRepW "0" (4 - (sI i).length)).length ≤ 4) && ((yt i).cps.toList.all fun c => decide (c ∈ ("0123456789" : Str).cps.toList))) = true := by decide +kernel
structure FigY (i : Int) : Prop where
  l2 : (yt i).length = 4
  ls : (sI i).length ≤ 4
  lg : i.natAbs.log2 < 1920
  it : PySem.intText? (yt i) = some i
  ct : cutS ("000" ++ sI i) (some (-4)) none = yt i
  l0 : ("000" ++ sI i).length ≤ 7
  lr : (strRepW "0" (4 - (sI i).length)).length ≤ 4
  dg : ((yt i).cps.toList.all fun c => decide (c ∈ ("0123456789" : Str).cps.toList)) = true
theorem figY {i : Int} (h : i ∈ Ys) : FigY i := by
  have := ys_all finY h
  simp only [Bool.and_eq_true, decide_eq_true_eq] at this
  obtain ⟨⟨⟨⟨⟨⟨⟨h1, h2⟩, h3⟩, h4⟩, h5⟩, h6⟩, h8⟩, h7⟩ := this
  exact ⟨h1, h2, h3, h4, h5, h6, h8, h7⟩
theorem w_str (i : Int) (S : Sto) (h : i.natAbs.log2 < 1920) : biW .str [.int i] S = .ok (.str (sI i)) S := if_pos h
theorem w_fmt (i : Int) (h : i.natAbs.log2 < 1920) : fmtW (.int i) = some (sI i) := if_pos h
theorem w_fmtS (a : Str) (h : a.length ≤ sizeLine) : fmtW (.str a) = some a := if_pos h
theorem w_addS (a b : Str) (S : Sto) (h : a.length + b.length ≤ sizeLine) : binW .add (.str a) (.str b) S = .ok (.str (a ++ b)) S := if_pos h
theorem w_rep (a : Str) (n : Int) (S : Sto) (h : -(2 ^ 62) ≤ n ∧ n < 2 ^ 62 ∧ a.length * n.toNat ≤ 100000 ∧ (strRepW a n).length ≤ sizeLine) : binW .mul (.str a) (.int n) S = .ok (.str (strRepW a n)) S := if_pos h
theorem w_lenS (a : Str) (S : Sto) (h : a.length ≤ sizeLine) : biW .len [.str a] S = .ok (.int a.length) S := if_pos h
theorem w_slS (a : Str) (lo : Int) (S : Sto) (h : a.length ≤ sizeLine) : slW (.str a) (.int lo) .non S = .ok (.str (cutS a (some lo) none)) S := if_pos h
theorem w_intS (a : Str) (n : Int) (S : Sto) (h : PySem.intText? a = some n) (hl : a.length ≤ 640) : biW .int [.str a] S = .ok (.int n) S := by
  show (match PySem.intText? a with
    | some n => if a.length ≤ 640 then Res.ok (.int n) S else .bad
    | none => .bad) = _
  rw [h]
  exact if_pos hl
theorem ft_two_figures : D.FT "two_figures" = some d_two_figures := by rfl
theorem ft_day_text : D.FT "day_text" = some d_day_text := by rfl
theorem ft_long_text : D.FT "long_text" = some d_long_text := by rfl
theorem ft_law_text : D.FT "_law_text" = some d__law_text := by rfl
theorem ft_time_text : D.FT "time_text" = some d_time_text := by rfl
theorem ft_stamp_text : D.FT "stamp_text" = some d_stamp_text := by rfl
theorem sz : sizeLine = 4194304 ∨ True := .inr trivial
theorem l1 : ("0" : Str).length = 1 := by rfl
theorem l1c : (":" : Str).length = 1 := by rfl
theorem l1d : ("-" : Str).length = 1 := by rfl
theorem l1b : (" " : Str).length = 1 := by rfl
theorem l000 : ("000" : Str).length = 3 := by rfl
theorem r_two_figures (k : Nat) (S : Sto) {i : Int} (h : 0 ≤ i ∧ i < 100) : run D.FT (k + 1) "two_figures" [.int i] S = .ok (.str (tf i)) S := by
  rw [run_at ft_two_figures rfl]
  have f := fig h
  have z := sizeLine_eq
  have a := w_addS "0" (sI i) S (by rw [l1, z]; have := f.ls; omega)
  by_cases c : i < 10 <;> simp [d_two_figures, startW, w_str _ _ f.lg, c, a, tf]
end K01

end
section
set_option Elab.async false
set_option linter.all false
set_option maxRecDepth 100000
set_option maxHeartbeats 400000
namespace K01
open PySem Dy L2
/-! ### dates and times as texts -/
def dayT (y m d : Int) : Str := yt y ++ "-" ++ tf m ++ "-" ++ tf d
theorem app_assoc (a b c : Str) : a ++ b ++ c = a ++ (b ++ c) := by
  show (⟨(a.cps ++ b.cps) ++ c.cps⟩ : Str) = ⟨a.cps ++ (b.cps ++ c.cps)⟩
  rw [Array.append_assoc]
theorem empty_app (a : Str) : Str.empty ++ a = a := by
  show (⟨#[] ++ a.cps⟩ : Str) = a
  rw [Array.empty_append]
theorem ml_31 (y m : Int) (hm : 1 ≤ m ∧ m ≤ 12) : 28 ≤ ml y m ∧ ml y m ≤ 31 := ml_28 y m hm
theorem r_day_text (k : Nat) (S : Sto) {y m d : Int} (hY : y ∈ Ys) (h : Date y m d) : run D.FT (k + 5) "day_text" [.int (dn y m d)] S = .ok (.str (dayT y m d)) S := by
  rw [run_at ft_day_text rfl]
  have e1 := r_date_of k S h
  have fy := figY hY
  have hml := ml_28 y m h.hm
  have fm := fig (i := m) (by have := h.hm; omega)
  have fd := fig (i := d) (by have := h.hd; omega)
  have e2 := r_two_figures (k + 3) S (i := m) (by have := h.hm; omega)
  have e3 := r_two_figures (k + 3) S (i := d) (by have := h.hd; omega)
  have z := sizeLine_eq
  have a0 := w_lenS (sI y) S (by have := fy.ls; omega)
  have a1 := w_rep "0" (4 - (sI y).length) S (by have := fy.ls; have := fy.lr; rw [l1]; omega)
  have ls := fy.ls
  have lr := fy.lr
  have fs : joinF [.str (sI y), .str "-"] Str.empty = some (sI y ++ "-") := by
    simp only [joinF, empty_app, len_app, l1d, z]
    rw [if_pos (by omega), if_pos (by omega)]
  have a2 := w_addS (strRepW "0" (4 - (sI y).length)) (sI y ++ "-") S (by rw [len_app, l1d, z]; omega)
  rw [← app_assoc] at a2
  have a3 := w_addS (yt y ++ "-") (tf m) S (by rw [len_app, l1d, z, fy.l2, fm.l2]; omega)
  have a4 := w_addS (yt y ++ "-" ++ tf m) "-" S (by simp only [len_app, l1d, z, fy.l2, fm.l2]; omega)
  have a5 := w_addS (yt y ++ "-" ++ tf m ++ "-") (tf d) S (by simp only [len_app, l1d, z, fy.l2, fm.l2, fd.l2]; omega)
  have a6 : strRepW "0" (4 - (sI y).length) ++ sI y = yt y := rfl
  rw [a6] at a2
  simp only [d_day_text, startW, ex_seq', ex_set, ex_ret, ev_bin, ev_lit, ev_var, ev_call, ev_cons, ev_nil, ev_fs, ev_fmt, ev_bi]
  simp [e1, e2, e3, w_str _ _ fy.lg, w_fmt _ fy.lg, a0, a1, fs, a2, a3, a4, a5, w_fmtS, l1d, z, dayT]
theorem r_law_text (k : Nat) (S : Sto) {y m d : Int} (hY : y ∈ Ys) (h : Date y m d) : run D.FT (k + 1) "_law_text" [.tup [.int y, .int m, .int d]] S = .ok (.str (dayT y m d)) S := by
  rw [run_at ft_law_text rfl]
  have fy := figY hY
  have hml := ml_28 y m h.hm
  have fm := fig (i := m) (by have := h.hm; omega)
  have fd := fig (i := d) (by have := h.hd; omega)
  have z := sizeLine_eq
  have hm2 := fm.ls
  have hd2 := fd.ls
  have hy2 := fy.ls
  have ix : ∀ a b c : Wv, idxW (.tup [a, b, c]) (.int 0) S = .ok a S ∧ idxW (.tup [a, b, c]) (.int 1) S = .ok b S ∧ idxW (.tup [a, b, c]) (.int 2) S = .ok c S := fun a b c => ⟨rfl, rfl, rfl⟩
  have b1 := w_addS "000" (sI y) S (by rw [l000, z]; omega)
  have b2 := w_addS "0" (sI m) S (by rw [l1, z]; omega)
  have b3 := w_addS "0" (sI d) S (by rw [l1, z]; omega)
  have s1 := w_slS ("000" ++ sI y) (-4) S (by have := fy.l0; omega)
  have s2 := w_slS ("0" ++ sI m) (-2) S (by have := fm.l0; omega)
  have s3 := w_slS ("0" ++ sI d) (-2) S (by have := fd.l0; omega)
  rw [fy.ct] at s1
  rw [fm.ct] at s2
  rw [fd.ct] at s3
  have a2 := w_addS (yt y) "-" S (by rw [l1d, z, fy.l2]; omega)
  have a3 := w_addS (yt y ++ "-") (tf m) S (by rw [len_app, l1d, z, fy.l2, fm.l2]; omega)
  have a4 := w_addS (yt y ++ "-" ++ tf m) "-" S (by simp only [len_app, l1d, z, fy.l2, fm.l2]; omega)
  have a5 := w_addS (yt y ++ "-" ++ tf m ++ "-") (tf d) S (by simp only [len_app, l1d, z, fy.l2, fm.l2, fd.l2]; omega)
  simp [d__law_text, startW, w_str _ _ fy.lg, w_str _ _ fm.lg, w_str _ _ fd.lg, ix, b1, b2, b3, s1, s2, s3, a2, a3, a4, a5, intO, noB, dayT]
def timeT (t : Int) : Str := tf (t / 60) ++ ":" ++ tf (t % 60)
theorem r_time_text (k : Nat) (S : Sto) {t : Int} (h : 0 ≤ t ∧ t < 1440) : run D.FT (k + 2) "time_text" [.int t] S = .ok (.str (timeT t)) S := by
  rw [run_at ft_time_text rfl]
  have f1 := fig (i := t / 60) (by omega)
  have f2 := fig (i := t % 60) (by omega)
  have e1 := r_two_figures k S (i := t / 60) (by omega)
  have e2 := r_two_figures k S (i := t % 60) (by omega)
  have z := sizeLine_eq
  have a2 := w_addS (tf (t / 60)) ":" S (by rw [l1c, z, f1.l2]; omega)
  have a3 := w_addS (tf (t / 60) ++ ":") (tf (t % 60)) S (by rw [len_app, l1c, z, f1.l2, f2.l2]; omega)
  simp [d_time_text, startW, andK_b, h, w_fdiv, w_mod, e1, e2, a2, a3, timeT]
theorem dayT_len {y m d : Int} (hY : y ∈ Ys) (h : Date y m d) : (dayT y m d).length = 10 := by
  have fy := figY hY
  have hml := ml_28 y m h.hm
  have fm := fig (i := m) (by have := h.hm; omega)
  have fd := fig (i := d) (by have := h.hd; omega)
  simp only [dayT, len_app, l1d, fy.l2, fm.l2, fd.l2]
theorem timeT_len {t : Int} (h : 0 ≤ t ∧ t < 1440) : (timeT t).length = 5 := by
  simp only [timeT, len_app, l1c, (fig (i := t / 60) (by omega)).l2, (fig (i := t % 60) (by omega)).l2]
def stampT (y m d t : Int) : Str := dayT y m d ++ " " ++ timeT t
theorem r_stamp_text (k : Nat) (S : Sto) {y m d t : Int} (hY : y ∈ Ys) (h : Date y m d) (ht : 0 ≤ t ∧ t < 1440) : run D.FT (k + 6) "stamp_text" [.int (1440 * dn y m d + t)] S = .ok (.str (stampT y m d t)) S := by
  rw [run_at ft_stamp_text rfl]
  have e1 := r_day_text k S hY h
  have e2 := r_time_text (k + 3) S ht
  have z := sizeLine_eq
  have q1 : (1440 * dn y m d + t) / 1440 = dn y m d := by omega
  have q2 : (1440 * dn y m d + t) % 1440 = t := by omega
  have a2 := w_addS (dayT y m d) " " S (by rw [l1b, z, dayT_len hY h]; omega)
  have a3 := w_addS (dayT y m d ++ " ") (timeT t) S (by rw [len_app, l1b, z, dayT_len hY h, timeT_len ht]; omega)
  simp [d_stamp_text, startW, w_fdiv, w_mod, q1, q2, e1, e2, a2, a3, stampT]
end K01

end
section
set_option Elab.async false
set_option linter.all false
set_option maxRecDepth 100000
set_option maxHeartbeats 400000
namespace K01
open PySem Dy L2 Builtin Builtin.Str
/-! ### texts cut -/
theorem part_app (a b : Str) (c : Nat) (hc : c ∉ a.cps.toList) : Txt.partition (a ++ (⟨#[c]⟩ : Str) ++ b) ⟨#[c]⟩ = (a, ⟨#[c]⟩, b) := by
  have hx : (a ++ (⟨#[c]⟩ : Str) ++ b).cps = a.cps ++ #[c] ++ b.cps := rfl
  have hlen : (a ++ (⟨#[c]⟩ : Str) ++ b).length = a.length + 1 + b.length := by rw [len_app, len_app]; rfl
  have hl : ((⟨#[c]⟩ : Str)).length = 1 := rfl
  have hat : StrLaws.At (a ++ (⟨#[c]⟩ : Str) ++ b) ⟨#[c]⟩ (a ++ (⟨#[c]⟩ : Str) ++ b).length a.length := by
    refine ⟨by rw [hl, hlen]; omega, ?_⟩
    show (((a ++ (⟨#[c]⟩ : Str) ++ b).cps.extract a.length (a.length + 1)) == #[c]) = true
    rw [hx]
    apply beq_iff_eq.mpr
    apply Array.ext'
    show (Array.extract _ _ _).toList = _
    simp [Str.length]
  unfold Txt.partition
  rcases StrLaws.occ_head (a ++ (⟨#[c]⟩ : Str) ++ b) ⟨#[c]⟩ 1 (Nat.le_refl 1) with ⟨_, hn⟩ | ⟨i, r, e, hi, hn⟩
  · exact absurd hat (hn _)
  · have hge : ¬ a.length < i := fun h => hn _ h hat
    have hle : ¬ i < a.length := fun h => by
      have h2 : (((a ++ (⟨#[c]⟩ : Str) ++ b).cps.extract i (i + 1)) == #[c]) = true := hi.2
      rw [hx] at h2
      have h3 := congrArg Array.toList (beq_iff_eq.mp h2)
      have h4 : a.cps.toList[i]? = some c := by
        have := congrArg (fun l => l[0]?) h3
        simp [Str.length] at this h
        have hs : i < a.cps.size := h
        have hs' : i < a.cps.toList.length := by simpa using hs
        rw [List.drop_append_of_le_length (Nat.le_of_lt hs'), List.drop_eq_getElem_cons hs'] at this
        rw [List.getElem?_eq_getElem hs']
        simpa using this
      exact hc (List.mem_of_getElem? h4)
    have hia : i = a.length := by omega
    rw [e]
    show (strSub _ 0 i, (⟨#[c]⟩ : Str), strSub _ (i + 1) _) = _
    subst hia
    have p1 : strSub (a ++ (⟨#[c]⟩ : Str) ++ b) 0 a.length = a := by
      show (⟨(a.cps ++ #[c] ++ b.cps).extract 0 a.cps.size⟩ : Str) = a
      congr 1
      apply Array.ext'
      simp
    have p2 : strSub (a ++ (⟨#[c]⟩ : Str) ++ b) (a.length + 1) (a ++ (⟨#[c]⟩ : Str) ++ b).length = b := by
      rw [hlen]
      show (⟨(a.cps ++ #[c] ++ b.cps).extract (a.cps.size + 1) (a.cps.size + 1 + b.cps.size)⟩ : Str) = b
      congr 1
      apply Array.ext'
      simp
    rw [p1, p2]
end K01

end
section
set_option Elab.async false
set_option linter.all false
set_option maxRecDepth 100000
set_option maxHeartbeats 400000
namespace K01
open PySem Dy L2 Builtin Builtin.Str
/-! ### split -/
theorem join_inj (c : Nat) : ∀ ps qs : List Str, ps ≠ [] → qs ≠ [] → (∀ p ∈ ps, c ∉ p.cps.toList) → (∀ p ∈ qs, c ∉ p.cps.toList) → Str.join ⟨#[c]⟩ ps = Str.join ⟨#[c]⟩ qs → ps = qs
  | [], _, h, _, _, _, _ => absurd rfl h
  | _, [], _, h, _, _, _ => absurd rfl h
  | [p], [q], _, _, _, _, h => by
    have h' : p = q := h
    rw [h']
  | [p], q :: q' :: s, _, _, hp, _, h => by
    have h' : p = q ++ (⟨#[c]⟩ : Str) ++ Str.join ⟨#[c]⟩ (q' :: s) := h
    have := hp p (List.mem_cons_self ..)
    rw [h'] at this
    exact absurd (show c ∈ (q.cps ++ #[c] ++ (Str.join ⟨#[c]⟩ (q' :: s)).cps).toList by simp) this
  | q :: q' :: s, [p], _, _, _, hp, h => by
    have h' : q ++ (⟨#[c]⟩ : Str) ++ Str.join ⟨#[c]⟩ (q' :: s) = p := h
    have := hp p (List.mem_cons_self ..)
    rw [← h'] at this
    exact absurd (show c ∈ (q.cps ++ #[c] ++ (Str.join ⟨#[c]⟩ (q' :: s)).cps).toList by simp) this
  | p :: p' :: r, q :: q' :: s, _, _, hp, hq, h => by
    have h' : p ++ (⟨#[c]⟩ : Str) ++ Str.join ⟨#[c]⟩ (p' :: r) = q ++ (⟨#[c]⟩ : Str) ++ Str.join ⟨#[c]⟩ (q' :: s) := h
    have h1 := part_app p (Str.join ⟨#[c]⟩ (p' :: r)) c (hp p (List.mem_cons_self ..))
    have h2 := part_app q (Str.join ⟨#[c]⟩ (q' :: s)) c (hq q (List.mem_cons_self ..))
    rw [h', h2] at h1
    have e1 : q = p := congrArg Prod.fst h1
    have e2 : Str.join ⟨#[c]⟩ (q' :: s) = Str.join ⟨#[c]⟩ (p' :: r) := congrArg (fun t => t.2.2) h1
    rw [e1, join_inj c (p' :: r) (q' :: s) (by simp) (by simp) (fun x hx => hp x (List.mem_cons_of_mem _ hx)) (fun x hx => hq x (List.mem_cons_of_mem _ hx)) e2.symm]
theorem split_join (c : Nat) (ps : List Str) (h0 : ps ≠ []) (hp : ∀ p ∈ ps, c ∉ p.cps.toList) (hx : Str.join ⟨#[c]⟩ ps ≠ Str.empty) : Txt.split (Str.join ⟨#[c]⟩ ps) ⟨#[c]⟩ = ps := by
  have h1 := StrLaws.join_split (Str.join ⟨#[c]⟩ ps) ⟨#[c]⟩
  refine join_inj c _ _ (fun e => ?_) h0 (StrLaws.split_free _ c) hp h1
  rw [e] at h1
  exact hx h1.symm
theorem dg_not {a : Str} (h : (a.cps.toList.all fun c => decide (c ∈ ("0123456789" : Str).cps.toList)) = true) (c : Nat) (hc : c ∉ ("0123456789" : Str).cps.toList) : c ∉ a.cps.toList := fun hm => hc (of_decide_eq_true (List.all_eq_true.mp h c hm))
theorem dash : ("-" : Str) = ⟨#[45]⟩ := by decide +kernel
theorem colon : (":" : Str) = ⟨#[58]⟩ := by decide +kernel
theorem blank : (" " : Str) = ⟨#[32]⟩ := by decide +kernel
theorem no45 : 45 ∉ ("0123456789" : Str).cps.toList := by decide +kernel
theorem no58 : 58 ∉ ("0123456789" : Str).cps.toList := by decide +kernel
theorem no32 : 32 ∉ ("0123456789" : Str).cps.toList := by decide +kernel
theorem split_day {y m d : Int} (hY : y ∈ Ys) (h : Date y m d) : Txt.split (dayT y m d) "-" = [yt y, tf m, tf d] := by
  have fy := figY hY
  have hml := ml_28 y m h.hm
  have fm := fig (i := m) (by have := h.hm; omega)
  have fd := fig (i := d) (by have := h.hd; omega)
  have e : dayT y m d = Str.join ⟨#[45]⟩ [yt y, tf m, tf d] := by
    show yt y ++ "-" ++ tf m ++ "-" ++ tf d = yt y ++ ⟨#[45]⟩ ++ (tf m ++ ⟨#[45]⟩ ++ tf d)
    rw [dash]
    simp only [app_assoc]
  have hn : dayT y m d ≠ Str.empty := fun z => by
    have := dayT_len hY h
    rw [z] at this
    exact absurd this (by decide)
  rw [e] at hn ⊢
  rw [dash]
  refine split_join 45 _ (by simp) (fun p hp => ?_) hn
  simp only [List.mem_cons, List.not_mem_nil, or_false] at hp
  rcases hp with rfl | rfl | rfl
  · exact dg_not fy.dg 45 no45
  · exact dg_not fm.dg 45 no45
  · exact dg_not fd.dg 45 no45
theorem part_time {t : Int} (h : 0 ≤ t ∧ t < 1440) : Txt.partition (timeT t) ":" = (tf (t / 60), (":" : Str), tf (t % 60)) := by
  have := part_app (tf (t / 60)) (tf (t % 60)) 58 (dg_not (fig (i := t / 60) (by omega)).dg 58 no58)
  rw [← colon] at this
  exact this
theorem part_stamp {y m d : Int} (t : Int) (hY : y ∈ Ys) (h : Date y m d) : Txt.partition (stampT y m d t) " " = (dayT y m d, (" " : Str), timeT t) := by
  have fy := figY hY
  have hml := ml_28 y m h.hm
  have fm := fig (i := m) (by have := h.hm; omega)
  have fd := fig (i := d) (by have := h.hd; omega)
  have := part_app (dayT y m d) (timeT t) 32 (by
    show 32 ∉ (yt y ++ "-" ++ tf m ++ "-" ++ tf d).cps.toList
    rw [dash]
    show 32 ∉ ((yt y).cps ++ #[45] ++ (tf m).cps ++ #[45] ++ (tf d).cps).toList
    have a := dg_not fy.dg 32 no32
    have b := dg_not fm.dg 32 no32
    have c := dg_not fd.dg 32 no32
    simp at a b c ⊢
    exact ⟨a, b, c⟩)
  rw [← blank] at this
  exact this
end K01

end
section
set_option Elab.async false
set_option linter.all false
set_option maxRecDepth 100000
set_option maxHeartbeats 400000
namespace K01
open PySem Dy L2
/-! ### texts read -/
theorem ft_read_day : D.FT "read_day" = some d_read_day := by rfl
theorem ft_read_time : D.FT "read_time" = some d_read_time := by rfl
theorem ft_read_stamp : D.FT "read_stamp" = some d_read_stamp := by rfl
def outB (a z : Str) : Bool := a.cps.toList.any fun c => !(decide (c ∈ z.cps.toList))
@[simp] theorem ev_any {cl : Clr} {σ : Sl} {S : Sto} (e : E) (z x : Str) : ev cl (.anyOut e z x) σ S = (ev cl e σ S).bind fun w S => match w with | .str a => .ok (.bl (outB a z)) S | _ => .bad := rfl
theorem any_dg {a : Str} (h : (a.cps.toList.all fun c => decide (c ∈ ("0123456789" : Str).cps.toList)) = true) : outB a "0123456789" = false := by
  unfold outB
  rw [List.any_eq_not_all_not, Bool.not_eq_false']
  simpa using h
theorem dg_app {a b : Str} (h : (a.cps.toList.all fun c => decide (c ∈ ("0123456789" : Str).cps.toList)) = true) (h' : (b.cps.toList.all fun c => decide (c ∈ ("0123456789" : Str).cps.toList)) = true) : ((a ++ b).cps.toList.all fun c => decide (c ∈ ("0123456789" : Str).cps.toList)) = true := by
  have e : (a ++ b).cps.toList = a.cps.toList ++ b.cps.toList := by
    show (a.cps ++ b.cps).toList = _
    rw [Array.toList_append]
  rw [e, List.all_append, h, h']
  rfl
theorem w_split (a b : Str) (l : List Str) (S : Sto) (h : Txt.split a b = l) (h0 : (b.length == 0) = false) (hl : a.length + 2 ≤ sizeLine) : miW .split (.str a) [.str b] S = .ok (.lst (l.map .str)) S := by
  subst h
  exact if_pos ⟨h0, hl⟩
theorem w_part (a b x y z : Str) (S : Sto) (h : Txt.partition a b = (x, y, z)) (h0 : (b.length == 0) = false) (hl : a.length ≤ sizeLine) : miW .partition (.str a) [.str b] S = .ok (.tup [.str x, .str y, .str z]) S := by
  show (if (b.length == 0) = false ∧ a.length ≤ sizeLine then Res.ok (.tup [.str (Txt.partition a b).1, .str (Txt.partition a b).2.1, .str (Txt.partition a b).2.2]) S else .bad) = _
  rw [h]
  exact if_pos ⟨h0, hl⟩
theorem w_join3 (a b c : Str) (S : Sto) (h : (a.length + b.length + c.length) ≤ 100) : miW .join (.str "") [.lst [.str a, .str b, .str c]] S = .ok (.str (a ++ b ++ c)) S := by
  have hj : Txt.join "" [a, b, c] = a ++ b ++ c := by
    show Builtin.Str.glued "" [a, b, c] = _
    show (⟨((a.cps ++ ("" : Str).cps ++ b.cps) ++ ("" : Str).cps ++ c.cps)⟩ : Str) = ⟨a.cps ++ b.cps ++ c.cps⟩
    have : ("" : Str).cps = #[] := by decide +kernel
    rw [this, Array.append_empty, Array.append_empty]
  show (if ([a.length, b.length, c.length].sum + 3 * ("" : Str).length ≤ 16777216) then Res.ok (.str (Txt.join "" [a, b, c])) S else .bad) = _
  have h0 : ("" : Str).length = 0 := by decide +kernel
  rw [hj, if_pos (by rw [h0]; simp; omega)]
theorem eq422 : eqD (.lst [.int 4, .int 2, .int 2]) (.lst [.int 4, .int 2, .int 2]) = some true := by
  show (if SeqAt.shaped (.list [.int 4, .int 2, .int 2]) = true ∧ SeqAt.shaped (.list [.int 4, .int 2, .int 2]) = true then some (PyData.eqv (.list [.int 4, .int 2, .int 2]) (.list [.int 4, .int 2, .int 2])) else none) = _
  rw [if_pos ⟨by rfl, by rfl⟩]
  rfl
theorem r_read_day (k : Nat) (S : Sto) {y m d : Int} (hY : y ∈ Ys) (h : Date y m d) : run D.FT (k + 4) "read_day" [.str (dayT y m d)] S = .ok (.int (dn y m d)) S := by
  rw [run_at ft_read_day rfl]
  have fy := figY hY
  have hml := ml_28 y m h.hm
  have fm := fig (i := m) (by have := h.hm; omega)
  have fd := fig (i := d) (by have := h.hd; omega)
  have z := sizeLine_eq
  have e1 := w_split _ _ _ S (split_day hY h) (by rw [l1d]; rfl) (by rw [dayT_len hY h, z]; omega)
  have e2 := w_join3 (yt y) (tf m) (tf d) S (by rw [fy.l2, fm.l2, fd.l2]; omega)
  have e3 := any_dg (dg_app (dg_app fy.dg fm.dg) fd.dg)
  have e4 := r_day_of k S y m d h.hy h.hm h.hd
  have i1 := w_intS (yt y) y S fy.it (by rw [fy.l2]; omega)
  have i2 := w_intS (tf m) m S fm.it (by rw [fm.l2]; omega)
  have i3 := w_intS (tf d) d S fd.it (by rw [fd.l2]; omega)
  have n1 := w_lenS (yt y) S (by rw [fy.l2, z]; omega)
  have n2 := w_lenS (tf m) S (by rw [fm.l2, z]; omega)
  have n3 := w_lenS (tf d) S (by rw [fd.l2, z]; omega)
  rw [fy.l2] at n1
  rw [fm.l2] at n2
  rw [fd.l2] at n3
  have lc : ∀ σ2 : Option Wv, ev (run D.FT (k + 3)) (.lc (.nm 2) (.var 1) (.lit (.bl true)) (.bi .len (.cons (.var 2) .nil)) [("part", 2)]) [some (.str (dayT y m d)), some (.lst [.str (yt y), .str (tf m), .str (tf d)]), σ2] S = .ok (.lst [.int 4, .int 2, .int 2]) S := fun σ2 => by
    rw [ev_lc]
    simp [itW, z, lcLoop, lcF, wipeW, n1, n2, n3]
  have ix : ∀ a b c : Wv, idxW (.lst [a, b, c]) (.int 0) S = .ok a S ∧ idxW (.lst [a, b, c]) (.int 1) S = .ok b S ∧ idxW (.lst [a, b, c]) (.int 2) S = .ok c S := fun a b c => ⟨rfl, rfl, rfl⟩
  simp [d_read_day, startW, isStr, e1, lc, cmpW, ofB, eq422, z, orK_b, e2, e3, ix, i1, i2, i3, e4]
def SOk (a : Str) : Prop := (a.cps.all (· < 0x110000)) = true
theorem sok_app {a b : Str} (ha : SOk a) (hb : SOk b) : SOk (a ++ b) := by
  show ((a.cps ++ b.cps).all (· < 0x110000)) = true
  rw [Array.all_append]
  exact Bool.and_eq_true_iff.mpr ⟨ha, hb⟩
theorem shaped_str {a : Str} (ha : SOk a) : SeqAt.shaped (.str a) = true := Bool.and_eq_true_iff.mpr ⟨ha, by rfl⟩
theorem eq_strs {a b : Str} (ha : SOk a) (hb : SOk b) : eqD (.str a) (.str b) = some (decide (a = b)) := by
  show (if SeqAt.shaped (.str a) = true ∧ SeqAt.shaped (.str b) = true then some (PyData.eqv (.str a) (.str b)) else none) = _
  rw [if_pos ⟨shaped_str ha, shaped_str hb⟩]
  congr 1
theorem r_read_gen (k : Nat) (S : Sto) {x a b : Str} {i j : Int} (hp : Txt.partition x ":" = (a, (":" : Str), b)) (hx : x.length ≤ 100) (ha : 1 ≤ a.length ∧ a.length ≤ 2) (hb : b.length = 2) (da : (a.cps.toList.all fun c => decide (c ∈ ("0123456789" : Str).cps.toList)) = true) (db : (b.cps.toList.all fun c => decide (c ∈ ("0123456789" : Str).cps.toList)) = true) (ia : PySem.intText? a = some i) (ib : PySem.intText? b = some j) (hi : i ≤ 23) (hj : j ≤ 59) : run D.FT (k + 1) "read_time" [.str x] S = .ok (.int (60 * i + j)) S := by
  rw [run_at ft_read_time rfl]
  have z := sizeLine_eq
  have e1 := w_part _ _ _ _ _ S hp (by rw [l1c]; rfl) (by rw [z]; omega)
  have n1 := w_lenS a S (by rw [z]; omega)
  have n2 := w_lenS b S (by rw [z]; omega)
  rw [hb] at n2
  have i1 := w_intS a i S ia (by omega)
  have i2 := w_intS b j S ib (by omega)
  have a1 := w_addS a b S (by rw [z]; omega)
  have c1 : (":" : Str) ≠ "" := by decide +kernel
  have eq_c := eq_strs (a := ":") (b := "") (by show (_ : Bool) = true; decide +kernel) (by show (_ : Bool) = true; decide +kernel)
  have c2 : ¬ 23 < i := by omega
  have c3 : ¬ 59 < j := by omega
  have e3 := any_dg (dg_app da db)
  have c4 : (1 : Int) ≤ a.length := by omega
  have c5 : (a.length : Int) ≤ 2 := by omega
  simp [d_read_time, startW, isStr, e1, cmpW, ofB, eq_c, c1, orK_b, andK_b, n1, n2, c4, c5, eqD_int, a1, e3, i1, i2, c2, c3, w_mul _ _ (cm_l (j := i) (i := 60) (by omega))]
theorem r_read_time (k : Nat) (S : Sto) {t : Int} (h : 0 ≤ t ∧ t < 1440) : run D.FT (k + 1) "read_time" [.str (timeT t)] S = .ok (.int t) S := by
  have f1 := fig (i := t / 60) (by omega)
  have f2 := fig (i := t % 60) (by omega)
  have := r_read_gen k S (part_time h) (by rw [timeT_len h]; omega) (by rw [f1.l2]; omega) f2.l2 f1.dg f2.dg f1.it f2.it (by omega) (by omega)
  rwa [show 60 * (t / 60) + t % 60 = t by omega] at this
theorem ft5 : tf 5 = "05" := by decide +kernel
def bareB (i : Int) : Bool := decide ((sI i).length = 1) && decide (PySem.intText? (sI i) = some i) && ((sI i).cps.toList.all fun c => decide (c ∈ ("0123456789" : Str).cps.toList)) && decide (("" : Str) ≠ sI i)
theorem fin10 : ((List.range 10).all fun i => bareB (i : Nat)) = true := by decide +kernel
theorem c05 : (":05" : Str) = (":" : Str) ++ "05" := by decide +kernel
theorem r_read_bare (k : Nat) (S : Sto) {i : Int} (h : 0 ≤ i ∧ i < 10) : run D.FT (k + 1) "read_time" [.str (sI i ++ ":05")] S = .ok (.int (60 * i + 5)) S := by
  have b := fin_all (n := 10) (P := bareB) fin10 h
  simp only [bareB, Bool.and_eq_true, decide_eq_true_eq] at b
  obtain ⟨⟨⟨b1, b2⟩, b3⟩, _⟩ := b
  have hp := part_app (sI i) "05" 58 (dg_not b3 58 no58)
  rw [← colon] at hp
  have l : ("05" : Str).length = 2 := by decide +kernel
  have f5 := fig (i := 5) (by omega)
  have f5it := f5.it
  have f5dg := f5.dg
  rw [ft5] at f5it f5dg
  rw [c05, ← app_assoc]
  exact r_read_gen k S hp (by rw [len_app, len_app, b1, l1c, l]; omega) (by rw [b1]; omega) l b3 f5dg b2 f5it (by omega) (by omega)
theorem r_read_stamp (k : Nat) (S : Sto) {y m d t : Int} (hY : y ∈ Ys) (h : Date y m d) (ht : 0 ≤ t ∧ t < 1440) : run D.FT (k + 5) "read_stamp" [.str (stampT y m d t)] S = .ok (.int (1440 * dn y m d + t)) S := by
  rw [run_at ft_read_stamp rfl]
  have z := sizeLine_eq
  have e1 := w_part _ _ _ _ _ S (part_stamp t hY h) (by rw [l1b]; rfl) (by simp only [stampT, len_app, dayT_len hY h, timeT_len ht, l1b, z]; omega)
  have e2 := r_read_day k S hY h
  have e3 := r_read_time (k + 3) S ht
  have e4 := r_stamp_of (k + 3) S (dn_range h) ht
  simp [d_read_stamp, startW, isStr, e1, e2, e3, e4]
end K01

end
section
set_option Elab.async false
set_option linter.all false
set_option maxRecDepth 100000
set_option maxHeartbeats 400000
namespace K01
open PySem Dy L2
/-! ### the long text; texts that can be laid -/
def WDs : List Str := ["Mon", "Tue", "Wed", "Thu", "Fri", "Sat", "Sun"]
def MOs : List Str := ["Jan", "Feb", "Mar", "Apr", "May", "Jun", "Jul", "Aug", "Sep", "Oct", "Nov", "Dec"]
def wdN (w : Int) : Str := WDs.getD w.toNat ""
def moN (m : Int) : Str := MOs.getD (m - 1).toNat ""
theorem at_wd {w : Int} (h : 0 ≤ w ∧ w < 7) : atI (WDs.map Wv.str) w = some (Wv.str (wdN w)) := by
  have : w = 0 ∨ w = 1 ∨ w = 2 ∨ w = 3 ∨ w = 4 ∨ w = 5 ∨ w = 6 := by omega
  rcases this with rfl | rfl | rfl | rfl | rfl | rfl | rfl <;> rfl
theorem at_mo {m : Int} (h : 1 ≤ m ∧ m ≤ 12) : atI (MOs.map Wv.str) (m - 1) = some (Wv.str (moN m)) := by
  rcases twelve h with rfl | rfl | rfl | rfl | rfl | rfl | rfl | rfl | rfl | rfl | rfl | rfl <;> rfl
theorem fin7 : ((List.range 7).all fun i => decide ((wdN (i : Nat)).length = 3) && (wdN (i : Nat)).cps.all (· < 0x110000)) = true := by decide +kernel
theorem fin12 : ((List.range 13).all fun i => decide ((moN (i : Nat)).length ≤ 3) && (moN (i : Nat)).cps.all (· < 0x110000)) = true := by decide +kernel
theorem sok100 : ((List.range 100).all fun i => (sI (i : Nat)).cps.all (· < 0x110000) && (tf (i : Nat)).cps.all (· < 0x110000)) = true := by decide +kernel
theorem sokY : (Ys.all fun i => (sI i).cps.all (· < 0x110000) && (yt i).cps.all (· < 0x110000)) = true := by decide +kernel
theorem wd_ok {w : Int} (h : 0 ≤ w ∧ w < 7) : (wdN w).length = 3 ∧ SOk (wdN w) := by
  have := fin_all (n := 7) (P := fun i => decide ((wdN i).length = 3) && (wdN i).cps.all (· < 0x110000)) fin7 h
  simp only [Bool.and_eq_true, decide_eq_true_eq] at this
  exact this
theorem mo_ok {w : Int} (h : 1 ≤ w ∧ w ≤ 12) : (moN w).length ≤ 3 ∧ SOk (moN w) := by
  have := fin_all (n := 13) (P := fun i => decide ((moN i).length ≤ 3) && (moN i).cps.all (· < 0x110000)) fin12 (i := w) (by omega)
  simp only [Bool.and_eq_true, decide_eq_true_eq] at this
  exact this
theorem fig_ok {w : Int} (h : 0 ≤ w ∧ w < 100) : SOk (sI w) ∧ SOk (tf w) := by
  have := fin_all (n := 100) (P := fun i => (sI i).cps.all (· < 0x110000) && (tf i).cps.all (· < 0x110000)) sok100 h
  rw [Bool.and_eq_true] at this
  exact this
theorem figY_ok {w : Int} (h : w ∈ Ys) : SOk (sI w) ∧ SOk (yt w) := by
  have := ys_all (P := fun i => (sI i).cps.all (· < 0x110000) && (yt i).cps.all (· < 0x110000)) sokY h
  rw [Bool.and_eq_true] at this
  exact this
theorem sokL (a : String) (h : (Str.ofString a).cps.all (· < 0x110000) = true) : SOk (Str.ofString a) := h
theorem sok_b : SOk " " := by show (_ : Bool) = true; decide +kernel
theorem sok_c : SOk ":" := by show (_ : Bool) = true; decide +kernel
theorem sok_d : SOk "-" := by show (_ : Bool) = true; decide +kernel
theorem dayT_ok {y m d : Int} (hY : y ∈ Ys) (h : Date y m d) : SOk (dayT y m d) := by
  have hml := ml_28 y m h.hm
  exact sok_app (sok_app (sok_app (sok_app (figY_ok hY).2 sok_d) (fig_ok (by have := h.hm; omega)).2) sok_d) (fig_ok (by have := h.hd; omega)).2
theorem timeT_ok {t : Int} (h : 0 ≤ t ∧ t < 1440) : SOk (timeT t) := sok_app (sok_app (fig_ok (by omega)).2 sok_c) (fig_ok (by omega)).2
theorem stampT_ok {y m d t : Int} (hY : y ∈ Ys) (h : Date y m d) (ht : 0 ≤ t ∧ t < 1440) : SOk (stampT y m d t) := sok_app (sok_app (dayT_ok hY h) sok_b) (timeT_ok ht)
def longT (n y m d : Int) : Str := wdN (n % 7) ++ " " ++ sI d ++ " " ++ moN m ++ " " ++ sI y
theorem longT_ok {y m d : Int} (n : Int) (hY : y ∈ Ys) (h : Date y m d) : SOk (longT n y m d) := by
  have hml := ml_28 y m h.hm
  exact sok_app (sok_app (sok_app (sok_app (sok_app (sok_app (wd_ok (by omega)).2 sok_b) (fig_ok (by have := h.hd; omega)).1) sok_b) (mo_ok h.hm).2) sok_b) (figY_ok hY).1
theorem r_long_text (k : Nat) (S : Sto) {y m d : Int} (hY : y ∈ Ys) (h : Date y m d) : run D.FT (k + 5) "long_text" [.int (dn y m d)] S = .ok (.str (longT (dn y m d) y m d)) S := by
  rw [run_at ft_long_text rfl]
  have e1 := r_date_of k S h
  have e2 := r_weekday_of (k + 3) S (dn_range h)
  have fy := figY hY
  have hml := ml_28 y m h.hm
  have fd := fig (i := d) (by have := h.hd; omega)
  have z := sizeLine_eq
  have w7 : 0 ≤ dn y m d % 7 ∧ dn y m d % 7 < 7 := by omega
  have h1 := at_wd w7
  have h2 := at_mo h.hm
  have l1' := (wd_ok w7).1
  have l2 := (mo_ok h.hm).1
  have l3 := fd.ls
  have l4 := fy.ls
  have g1 : idxW (.tup (([("Mon" : Str), "Tue", "Wed", "Thu", "Fri", "Sat", "Sun"] : List Str).map Wv.str)) (.int (dn y m d % 7)) S = .ok (.str (wdN (dn y m d % 7))) S := by
    show (match atI (WDs.map Wv.str) (dn y m d % 7) with | some w => Res.ok w S | none => .bad) = _
    rw [h1]
  have g2 : idxW (.tup (([("Jan" : Str), "Feb", "Mar", "Apr", "May", "Jun", "Jul", "Aug", "Sep", "Oct", "Nov", "Dec"] : List Str).map Wv.str)) (.int (m - 1)) S = .ok (.str (moN m)) S := by
    show (match atI (MOs.map Wv.str) (m - 1) with | some w => Res.ok w S | none => .bad) = _
    rw [h2]
  have jf : joinF [.str (wdN (dn y m d % 7)), .str " ", .str (sI d), .str " ", .str (moN m), .str " ", .str (sI y)] Str.empty = some (longT (dn y m d) y m d) := by
    simp only [joinF, empty_app, len_app, l1b, z]
    rw [if_pos (by omega), if_pos (by omega), if_pos (by omega), if_pos (by omega), if_pos (by omega), if_pos (by omega), if_pos (by omega)]
    rfl
  simp only [List.map_cons, List.map_nil] at g1 g2
  simp [d_long_text, startW, e1, e2, g1, g2, w_fmt _ fd.lg, w_fmt _ fy.lg, w_fmtS _ (show (wdN (dn y m d % 7)).length ≤ sizeLine by omega), w_fmtS _ (show (moN m).length ≤ sizeLine by omega), jf]
end K01

end
section
set_option Elab.async false
set_option linter.all false
set_option maxRecDepth 100000
set_option maxHeartbeats 0
namespace K01
open PySem Dy L2
theorem lam0 (k : Nat) (S : Sto) : run D.FT (k + 8) (lamName 0) [] S = .exc "DayError" S := by rfl
theorem lam1 (k : Nat) (S : Sto) : run D.FT (k + 8) (lamName 1) [] S = .exc "DayError" S := by rfl
theorem lam2 (k : Nat) (S : Sto) : run D.FT (k + 8) (lamName 2) [] S = .exc "DayError" S := by rfl
theorem lam3 (k : Nat) (S : Sto) : run D.FT (k + 8) (lamName 3) [] S = .exc "DayError" S := by rfl
theorem lam5 (k : Nat) (S : Sto) : run D.FT (k + 8) (lamName 5) [] S = .exc "DayError" S := by rfl
theorem lam6 (k : Nat) (S : Sto) : run D.FT (k + 8) (lamName 6) [] S = .exc "DayError" S := by rfl
theorem lam7 (k : Nat) (S : Sto) : run D.FT (k + 8) (lamName 7) [] S = .exc "DayError" S := by rfl
theorem lam12 (k : Nat) (S : Sto) : run D.FT (k + 8) (lamName 12) [] S = .exc "DayError" S := by rfl
theorem lam13 (k : Nat) (S : Sto) : run D.FT (k + 8) (lamName 13) [] S = .exc "DayError" S := by rfl
theorem lam17 (k : Nat) (S : Sto) : run D.FT (k + 8) (lamName 17) [] S = .exc "DayError" S := by rfl
theorem lam18 (k : Nat) (S : Sto) : run D.FT (k + 8) (lamName 18) [] S = .exc "DayError" S := by rfl
theorem lam19 (k : Nat) (S : Sto) : run D.FT (k + 8) (lamName 19) [] S = .exc "DayError" S := by rfl
theorem lam20 (k : Nat) (S : Sto) : run D.FT (k + 8) (lamName 20) [] S = .exc "DayError" S := by rfl
theorem lam21 (k : Nat) (S : Sto) : run D.FT (k + 8) (lamName 21) [] S = .exc "DayError" S := by rfl
theorem lam22 (k : Nat) (S : Sto) : run D.FT (k + 8) (lamName 22) [] S = .exc "DayError" S := by rfl
theorem lam23 (k : Nat) (S : Sto) : run D.FT (k + 8) (lamName 23) [] S = .exc "DayError" S := by rfl
theorem lam24 (k : Nat) (S : Sto) : run D.FT (k + 8) (lamName 24) [] S = .exc "DayError" S := by rfl
theorem lam25 (k : Nat) (S : Sto) : run D.FT (k + 8) (lamName 25) [] S = .exc "DayError" S := by rfl
theorem lam26 (k : Nat) (S : Sto) : run D.FT (k + 8) (lamName 26) [] S = .exc "DayError" S := by rfl
theorem lam27 (k : Nat) (S : Sto) : run D.FT (k + 8) (lamName 27) [] S = .exc "DayError" S := by rfl
theorem lam28 (k : Nat) (S : Sto) : run D.FT (k + 8) (lamName 28) [] S = .exc "DayError" S := by rfl
end K01

end
section
set_option Elab.async false
set_option linter.all false
set_option maxRecDepth 100000
set_option maxHeartbeats 400000
namespace K01
open PySem Dy L2
/-! ### texts that are refused -/
theorem x_time (k : Nat) (S : Sto) {x a b : Str} {m : Str} (hp : Txt.partition x ":" = (a, m, b)) (hx : x.length ≤ 100) (hm : SOk m) (ha : a.length ≤ 100) (hb : b.length ≤ 100) (h : m = "" ∨ b.length ≠ 2) (h1 : 1 ≤ a.length ∧ a.length ≤ 2) : run D.FT (k + 1) "read_time" [.str x] S = .exc "DayError" S := by
  rw [run_at ft_read_time rfl]
  have z := sizeLine_eq
  have e1 := w_part _ _ _ _ _ S hp (by rw [l1c]; rfl) (by rw [z]; omega)
  have n1 := w_lenS a S (by rw [z]; omega)
  have n2 := w_lenS b S (by rw [z]; omega)
  have eq_c := eq_strs (a := m) (b := "") hm (by show (_ : Bool) = true; decide +kernel)
  have c4 : (1 : Int) ≤ a.length := by omega
  have c5 : (a.length : Int) ≤ 2 := by omega
  by_cases hm : m = ""
  · subst hm
    simp [d_read_time, startW, isStr, e1, cmpW, ofB, eq_c, orK_b]
  · have hb2 : ¬ (b.length : Int) = 2 := by
      rcases h with h | h
      · exact absurd h hm
      · omega
    simp [d_read_time, startW, isStr, e1, cmpW, ofB, eq_c, hm, orK_b, andK_b, n1, n2, c4, c5, eqD_int, hb2]
theorem x_late (k : Nat) (S : Sto) {x a b : Str} {i j : Int} (hp : Txt.partition x ":" = (a, (":" : Str), b)) (hx : x.length ≤ 100) (ha : 1 ≤ a.length ∧ a.length ≤ 2) (hb : b.length = 2) (da : (a.cps.toList.all fun c => decide (c ∈ ("0123456789" : Str).cps.toList)) = true) (db : (b.cps.toList.all fun c => decide (c ∈ ("0123456789" : Str).cps.toList)) = true) (ia : PySem.intText? a = some i) (ib : PySem.intText? b = some j) (hi : 23 < i ∨ 59 < j) : run D.FT (k + 1) "read_time" [.str x] S = .exc "DayError" S := by
  rw [run_at ft_read_time rfl]
  have z := sizeLine_eq
  have e1 := w_part _ _ _ _ _ S hp (by rw [l1c]; rfl) (by rw [z]; omega)
  have n1 := w_lenS a S (by rw [z]; omega)
  have n2 := w_lenS b S (by rw [z]; omega)
  rw [hb] at n2
  have i1 := w_intS a i S ia (by omega)
  have i2 := w_intS b j S ib (by omega)
  have a1 := w_addS a b S (by rw [z]; omega)
  have c1 : (":" : Str) ≠ "" := by decide +kernel
  have eq_c := eq_strs (a := ":") (b := "") (by show (_ : Bool) = true; decide +kernel) (by show (_ : Bool) = true; decide +kernel)
  have e3 := any_dg (dg_app da db)
  have c4 : (1 : Int) ≤ a.length := by omega
  have c5 : (a.length : Int) ≤ 2 := by omega
  by_cases c2 : 23 < i
  · simp [d_read_time, startW, isStr, e1, cmpW, ofB, eq_c, c1, orK_b, andK_b, n1, n2, c4, c5, eqD_int, a1, e3, i1, i2, c2]
  · have c3 : 59 < j := by omega
    simp [d_read_time, startW, isStr, e1, cmpW, ofB, eq_c, c1, orK_b, andK_b, n1, n2, c4, c5, eqD_int, a1, e3, i1, i2, c2, c3]
theorem lam8 (k : Nat) (S : Sto) : run D.FT (k + 8) (lamName 8) [] S = .exc "DayError" S := by
  rw [run_at (d := lamFD l_8) rfl rfl]
  have := x_time (k + 6) S (x := "9:5") (a := "9") (b := "5") (m := ":") (by decide +kernel) (by decide +kernel) (by show (_ : Bool) = true; decide +kernel) (by decide +kernel) (by decide +kernel) (.inr (by decide +kernel)) (by decide +kernel)
  simp [lamFD, l_8, startW, this]
theorem lam9 (k : Nat) (S : Sto) : run D.FT (k + 8) (lamName 9) [] S = .exc "DayError" S := by
  rw [run_at (d := lamFD l_9) rfl rfl]
  have := x_time (k + 6) S (x := "9") (a := "9") (b := "") (m := "") (by decide +kernel) (by decide +kernel) (by show (_ : Bool) = true; decide +kernel) (by decide +kernel) (by decide +kernel) (.inl (by decide +kernel)) (by decide +kernel)
  simp [lamFD, l_9, startW, this]
theorem lam10 (k : Nat) (S : Sto) : run D.FT (k + 8) (lamName 10) [] S = .exc "DayError" S := by
  rw [run_at (d := lamFD l_10) rfl rfl]
  have := x_late (k + 6) S (x := "9:60") (a := "9") (b := "60") (i := 9) (j := 60) (by decide +kernel) (by decide +kernel) (by decide +kernel) (by decide +kernel) (by decide +kernel) (by decide +kernel) (by decide +kernel) (by decide +kernel) (.inr (by decide))
  simp [lamFD, l_10, startW, this]
theorem lam11 (k : Nat) (S : Sto) : run D.FT (k + 8) (lamName 11) [] S = .exc "DayError" S := by
  rw [run_at (d := lamFD l_11) rfl rfl]
  have := x_late (k + 6) S (x := "24:00") (a := "24") (b := "00") (i := 24) (j := 0) (by decide +kernel) (by decide +kernel) (by decide +kernel) (by decide +kernel) (by decide +kernel) (by decide +kernel) (by decide +kernel) (by decide +kernel) (.inl (by decide))
  simp [lamFD, l_11, startW, this]
theorem eq_lens (l : List Int) (b : Bool) (h : (if SeqAt.shaped (.list (l.map .int)) = true ∧ SeqAt.shaped (.list [.int 4, .int 2, .int 2]) = true then some (PyData.eqv (.list (l.map .int)) (.list [.int 4, .int 2, .int 2])) else none) = some b) (t : toD (.lst (l.map .int)) = some (.list (l.map .int))) : eqD (.lst (l.map .int)) (.lst [.int 4, .int 2, .int 2]) = some b := by
  show (match toD (.lst (l.map .int)), toD (.lst [.int 4, .int 2, .int 2]) with
  | some d, some e => if SeqAt.shaped d = true ∧ SeqAt.shaped e = true then some (PyData.eqv d e) else none
  | _, _ => none) = _
  rw [t]
  exact h
theorem lam14 (k : Nat) (S : Sto) : run D.FT (k + 8) (lamName 14) [] S = .exc "DayError" S := by
  rw [run_at (d := lamFD l_14) rfl rfl]
  have r : run D.FT (k + 7) "read_day" [.str "x"] S = .exc "DayError" S := by
    rw [run_at ft_read_day rfl]
    have e1 := w_split "x" "-" ["x"] S (by decide +kernel) (by rw [l1d]; rfl) (by rw [sizeLine_eq]; decide +kernel)
    have n1 := w_lenS "x" S (by rw [sizeLine_eq]; decide +kernel)
    rw [show ("x" : Str).length = 1 by decide +kernel] at n1
    have lc : ∀ (σ0 σ2 : Option Wv), ev (run D.FT (k + 6)) (.lc (.nm 2) (.var 1) (.lit (.bl true)) (.bi .len (.cons (.var 2) .nil)) [("part", 2)]) [σ0, some (.lst [.str "x"]), σ2] S = .ok (.lst [.int 1]) S := fun σ0 σ2 => by
      rw [ev_lc]
      simp [itW, sizeLine_eq, lcLoop, lcF, wipeW, n1]
    have q : eqD (.lst [.int 1]) (.lst [.int 4, .int 2, .int 2]) = some false := eq_lens [1] false (by rw [if_pos ⟨by rfl, by rfl⟩]; rfl) (by rfl)
    simp [d_read_day, startW, isStr, e1, lc, cmpW, ofB, q, sizeLine_eq, orK_b]
  simp [lamFD, l_14, startW, r]
theorem lam16 (k : Nat) (S : Sto) : run D.FT (k + 8) (lamName 16) [] S = .exc "DayError" S := by
  rw [run_at (d := lamFD l_16) rfl rfl]
  have r : run D.FT (k + 7) "read_day" [.str "2026-1-1"] S = .exc "DayError" S := by
    rw [run_at ft_read_day rfl]
    have e1 := w_split "2026-1-1" "-" ["2026", "1", "1"] S (by decide +kernel) (by rw [l1d]; rfl) (by rw [sizeLine_eq]; decide +kernel)
    have n1 := w_lenS "1" S (by rw [sizeLine_eq]; decide +kernel)
    rw [show ("1" : Str).length = 1 by decide +kernel] at n1
    have n2 := w_lenS "2026" S (by rw [sizeLine_eq]; decide +kernel)
    rw [show ("2026" : Str).length = 4 by decide +kernel] at n2
    have lc : ∀ (σ0 σ2 : Option Wv), ev (run D.FT (k + 6)) (.lc (.nm 2) (.var 1) (.lit (.bl true)) (.bi .len (.cons (.var 2) .nil)) [("part", 2)]) [σ0, some (.lst [.str "2026", .str "1", .str "1"]), σ2] S = .ok (.lst [.int 4, .int 1, .int 1]) S := fun σ0 σ2 => by
      rw [ev_lc]
      simp [itW, sizeLine_eq, lcLoop, lcF, wipeW, n1, n2]
    have q : eqD (.lst [.int 4, .int 1, .int 1]) (.lst [.int 4, .int 2, .int 2]) = some false := eq_lens [4, 1, 1] false (by rw [if_pos ⟨by rfl, by rfl⟩]; rfl) (by rfl)
    simp [d_read_day, startW, isStr, e1, lc, cmpW, ofB, q, sizeLine_eq, orK_b]
  simp [lamFD, l_16, startW, r]
theorem lam15 (k : Nat) (S : Sto) : run D.FT (k + 8) (lamName 15) [] S = .exc "DayError" S := by
  rw [run_at (d := lamFD l_15) rfl rfl]
  have r : run D.FT (k + 7) "read_day" [.str "2026-02-29"] S = .exc "DayError" S := by
    rw [run_at ft_read_day rfl]
    have e1 := w_split "2026-02-29" "-" ["2026", "02", "29"] S (by decide +kernel) (by rw [l1d]; rfl) (by rw [sizeLine_eq]; decide +kernel)
    have n1 := w_lenS "02" S (by rw [sizeLine_eq]; decide +kernel)
    rw [show ("02" : Str).length = 2 by decide +kernel] at n1
    have n3 := w_lenS "29" S (by rw [sizeLine_eq]; decide +kernel)
    rw [show ("29" : Str).length = 2 by decide +kernel] at n3
    have n2 := w_lenS "2026" S (by rw [sizeLine_eq]; decide +kernel)
    rw [show ("2026" : Str).length = 4 by decide +kernel] at n2
    have lc : ∀ (σ0 σ2 : Option Wv), ev (run D.FT (k + 6)) (.lc (.nm 2) (.var 1) (.lit (.bl true)) (.bi .len (.cons (.var 2) .nil)) [("part", 2)]) [σ0, some (.lst [.str "2026", .str "02", .str "29"]), σ2] S = .ok (.lst [.int 4, .int 2, .int 2]) S := fun σ0 σ2 => by
      rw [ev_lc]
      simp [itW, sizeLine_eq, lcLoop, lcF, wipeW, n1, n2, n3]
    have e2 := w_join3 "2026" "02" "29" S (by decide +kernel)
    have e3 : outB (("2026" : Str) ++ "02" ++ "29") "0123456789" = false := by decide +kernel
    have i1 := w_intS "2026" 2026 S (by decide +kernel) (by decide +kernel)
    have i2 := w_intS "02" 2 S (by decide +kernel) (by decide +kernel)
    have i3 := w_intS "29" 29 S (by decide +kernel) (by decide +kernel)
    have ix : ∀ a b c : Wv, idxW (.lst [a, b, c]) (.int 0) S = .ok a S ∧ idxW (.lst [a, b, c]) (.int 1) S = .ok b S ∧ idxW (.lst [a, b, c]) (.int 2) S = .ok c S := fun a b c => ⟨rfl, rfl, rfl⟩
    have e4 : run D.FT (k + 6) "day_of" [.int 2026, .int 2, .int 29] S = .exc "DayError" S := by rfl
    simp [d_read_day, startW, isStr, e1, lc, cmpW, ofB, eq422, sizeLine_eq, orK_b, e2, e3, ix, i1, i2, i3, e4]
  simp [lamFD, l_15, startW, r]
theorem lam4 (k : Nat) (S : Sto) : run D.FT (k + 8) (lamName 4) [] S = .exc "DayError" S := by
  rw [run_at (d := lamFD l_4) rfl rfl]
  have hd : Date 2026 11 19 := ⟨by decide, by decide, by decide⟩
  have hY : (2026 : Int) ∈ Ys := by decide
  have dt : dayT 2026 11 19 = "2026-11-19" := by decide +kernel
  have r : run D.FT (k + 7) "read_stamp" [.str "2026-11-19"] S = .exc "DayError" S := by
    rw [run_at ft_read_stamp rfl]
    have e1 := w_part "2026-11-19" " " "2026-11-19" "" "" S (by decide +kernel) (by rw [l1b]; rfl) (by rw [sizeLine_eq]; decide +kernel)
    have e2 := r_read_day (k + 2) S hY hd
    rw [dt] at e2
    have e3 : run D.FT (k + 6) "read_time" [.str ""] S = .exc "DayError" S := by
      rw [run_at ft_read_time rfl]
      have f1 := w_part "" ":" "" "" "" S (by decide +kernel) (by rw [l1c]; rfl) (by rw [sizeLine_eq]; decide +kernel)
      have eq_c := eq_strs (a := "") (b := "") (by show (_ : Bool) = true; decide +kernel) (by show (_ : Bool) = true; decide +kernel)
      simp [d_read_time, startW, isStr, f1, cmpW, ofB, eq_c, orK_b]
    simp [d_read_stamp, startW, isStr, e1, e2, e3]
  simp [lamFD, l_4, startW, r]
end K01

end
section
set_option Elab.async false
set_option linter.all false
set_option maxRecDepth 100000
set_option maxHeartbeats 1000000
namespace K01
open PySem Dy L2
/-! ### _law_plain -/
theorem ft_law_plain : D.FT "_law_plain" = some d__law_plain := by rfl
@[simp] theorem ev_lam {cl : Clr} {σ : Sl} {S : Sto} (k : Nat) : ev cl (.lam k) σ S = .ok (.ref S.length) (S ++ [.lam k]) := rfl
@[simp] theorem ev_toldV {cl : Clr} {σ : Sl} {S : Sto} (f x : Str) (e : E) : ev cl (.toldV f x e) σ S = (ev cl e σ S).bind fun w S => match w with
    | .ref i => match S[i]? with
      | some (.lam k) => toldW x (cl (lamName k) [] S)
      | _ => .bad
    | _ => .bad := rfl
theorem lam_all (S : Sto) : ∀ k, k < 29 → run D.FT 10 (lamName k) [] S = .exc "DayError" S := by
  intro k h
  have : k = 0 ∨ k = 1 ∨ k = 2 ∨ k = 3 ∨ k = 4 ∨ k = 5 ∨ k = 6 ∨ k = 7 ∨ k = 8 ∨ k = 9 ∨ k = 10 ∨ k = 11 ∨ k = 12 ∨ k = 13 ∨ k = 14 ∨ k = 15 ∨ k = 16 ∨ k = 17 ∨ k = 18 ∨ k = 19 ∨ k = 20 ∨ k = 21 ∨ k = 22 ∨ k = 23 ∨ k = 24 ∨ k = 25 ∨ k = 26 ∨ k = 27 ∨ k = 28 := by omega
  rcases this with rfl | rfl | rfl | rfl | rfl | rfl | rfl | rfl | rfl | rfl | rfl | rfl | rfl | rfl | rfl | rfl | rfl | rfl | rfl | rfl | rfl | rfl | rfl | rfl | rfl | rfl | rfl | rfl | rfl
  · exact lam0 2 S
  · exact lam1 2 S
  · exact lam2 2 S
  · exact lam3 2 S
  · exact lam4 2 S
  · exact lam5 2 S
  · exact lam6 2 S
  · exact lam7 2 S
  · exact lam8 2 S
  · exact lam9 2 S
  · exact lam10 2 S
  · exact lam11 2 S
  · exact lam12 2 S
  · exact lam13 2 S
  · exact lam14 2 S
  · exact lam15 2 S
  · exact lam16 2 S
  · exact lam17 2 S
  · exact lam18 2 S
  · exact lam19 2 S
  · exact lam20 2 S
  · exact lam21 2 S
  · exact lam22 2 S
  · exact lam23 2 S
  · exact lam24 2 S
  · exact lam25 2 S
  · exact lam26 2 S
  · exact lam27 2 S
  · exact lam28 2 S
def badC : E := .cmp .ne (.toldV "_law_told" "DayError" (.var 3)) (.lit (.str "DayError"))
theorem sokDE : SOk "DayError" := by show (_ : Bool) = true; decide +kernel
theorem bad_one (a b c d : Option Wv) (S : Sto) (i k : Nat) (h : S[i]? = some (.lam k)) (hk : k < 29) : lcF (.nm 3) (ev (run D.FT 10) badC) (ev (run D.FT 10) (.lit (.int 1))) [a, b, c, d] (.ref i) S = .ok (.lst []) S := by
  have e := lam_all S k hk
  have q := eq_strs sokDE sokDE
  refine lcF_nm (b := false) (y := .int 1) ?_ (fun z => by cases z)
  simp [badC, h, e, toldW, cmpW, ofB, q]
def refs : List Wv := (List.range 29).map fun i => .ref (1 + i)
def lamS (p : Int × Int × Int) : Sto := dS p ++ (List.range 29).map fun i => .lam (28 - i)
theorem bad_lc (p : Int × Int × Int) (a c d : Option Wv) : ev (run D.FT 10) (.lc (.nm 3) (.var 1) badC (.lit (.int 1)) [("f", 3)]) [a, some (.lst refs), c, d] (lamS p) = .ok (.lst []) (lamS p) := by
  rw [lc_list (items := refs) rfl (by decide) (fun _ => []) (fun x hx => ?_)]
  · simp
  · obtain ⟨i, hi, rfl⟩ := List.mem_map.mp hx
    have hi := List.mem_range.mp hi
    refine bad_one _ _ _ _ _ _ (28 - i) ?_ (by omega)
    show ((SO.lst _ :: (List.range 29).map fun i => SO.lam (28 - i)) : List SO)[1 + i]? = _
    rw [Nat.add_comm, List.getElem?_cons_succ, List.getElem?_map, List.getElem?_range hi]
    rfl
theorem d26 : Date 2026 11 19 := ⟨by decide, by decide, by decide⟩
theorem y26 : (2026 : Int) ∈ Ys := by decide
theorem n26 : dn 2026 11 19 = 739938 := by decide
theorem wd5 (S : Sto) : run D.FT 10 "work_days" [.int 739938, .int 739944, .tup []] S = .ok (.int 5) S := by rfl
theorem ws2 (S : Sto) : run D.FT 10 "work_step" [.int 739938, .int 2, .tup []] S = .ok (.int 739942) S := by rfl
theorem ml28 (S : Sto) : run D.FT 10 "month_long" [.int 2028, .int 2] S = .ok (.int 29) S := by rfl
theorem lp00 (S : Sto) : run D.FT 10 "is_leap" [.int 1900] S = .ok (.bl false) S := by rfl
theorem nth1 : nthW 2026 11 3 4 = .int 739945 := by rfl
theorem nth2 : nthW 2026 2 0 5 = .non := by rfl
theorem tx1 : dayT 2026 2 28 = "2026-02-28" := by decide +kernel
theorem tx2 : dayT 2026 11 26 = "2026-11-26" := by decide +kernel
theorem tx3 : dayT 2026 11 23 = "2026-11-23" := by decide +kernel
theorem tx4 : dayT 2026 11 19 = "2026-11-19" := by decide +kernel
theorem tx5 : dayT 2026 1 31 = "2026-01-31" := by decide +kernel
theorem tx6 : longT 739938 2026 11 19 = "Thu 19 Nov 2026" := by decide +kernel
theorem tx7 : timeT 575 = "09:35" := by decide +kernel
theorem tx8 : stampT 2026 11 19 575 = "2026-11-19 09:35" := by decide +kernel
theorem tx9 : tf 7 = "07" := by decide +kernel
theorem plain_ok (p : Int × Int × Int) : run D.FT 11 "_law_plain" [] (dS p) = .ok (.bl true) (lamS p) := by
  rw [run_at ft_law_plain rfl]
  have z := sizeLine_eq
  have e0 := r_read_day 6 (dS p) y26 d26
  rw [tx4, n26] at e0
  have lc : ∀ c d : Option Wv, ev (run D.FT 10) (.lc (.nm 3) (.var 1) (.cmp .ne (.toldV "_law_told" "DayError" (.var 3)) (.lit (.str "DayError"))) (.lit (.int 1)) [("f", 3)]) [some (.int 739938), some (.lst refs), c, d] (lamS p) = .ok (.lst []) (lamS p) := fun c d => bad_lc p _ c d
  have S2 := lamS p
  have a1 := r_date_of 6 (lamS p) d26
  rw [n26] at a1
  have a2 := r_weekday_of 9 (lamS p) (n := 739938) (by omega)
  have a3 := r_week_of 5 (lamS p) (n := 739938) (by omega) d26 (by rw [n26]; decide)
  have a4 := r_read_day 6 (lamS p) (y := 2026) (m := 1) (d := 31) y26 ⟨by decide, by decide, by decide⟩
  rw [tx5] at a4
  have a5 := r_month_step 5 (lamS p) (y := 2026) (m := 1) (d := 31) (many := 1) ⟨by decide, by decide, by decide⟩ (by omega)
  rw [if_pos (by decide), show dn ((12 * 2026 + 1 - 1 + 1) / 12) ((12 * 2026 + 1 - 1 + 1) % 12 + 1) (min 31 (ml ((12 * 2026 + 1 - 1 + 1) / 12) ((12 * 2026 + 1 - 1 + 1) % 12 + 1))) = dn 2026 2 28 by decide] at a5
  have a6 := r_day_text 5 (lamS p) (y := 2026) (m := 2) (d := 28) y26 ⟨by decide, by decide, by decide⟩
  rw [tx1] at a6
  have a7 := r_nth_weekday 6 (lamS p) (y := 2026) (m := 11) (wd := 3) (many := 4) (by decide) (by decide) (by decide) (by decide)
  rw [nth1] at a7
  have a8 := r_day_text 5 (lamS p) (y := 2026) (m := 11) (d := 26) y26 ⟨by decide, by decide, by decide⟩
  rw [tx2, show dn 2026 11 26 = 739945 by decide] at a8
  have a9 := r_nth_weekday 6 (lamS p) (y := 2026) (m := 2) (wd := 0) (many := 5) (by decide) (by decide) (by decide) (by decide)
  rw [nth2] at a9
  have b1 := r_long_text 5 (lamS p) y26 d26
  rw [n26, tx6] at b1
  have b2 := r_time_text 8 (lamS p) (t := 575) (by omega)
  rw [tx7] at b2
  have b3 := r_read_gen 9 (lamS p) (x := "9:35") (a := "9") (b := "35") (i := 9) (j := 35) (by decide +kernel) (by decide +kernel) (by decide +kernel) (by decide +kernel) (by decide +kernel) (by decide +kernel) (by decide +kernel) (by decide +kernel) (by decide) (by decide)
  have b4 := r_stamp_of 9 (lamS p) (n := 739938) (t := 575) (by omega) (by omega)
  have b5 := r_stamp_text 4 (lamS p) (t := 575) y26 d26 (by omega)
  rw [tx8, n26] at b5
  have b6 := r_read_stamp 5 (lamS p) (t := 575) y26 d26 (by omega)
  rw [tx8, n26] at b6
  have b7 := r_day_text 5 (lamS p) (y := 2026) (m := 11) (d := 23) y26 ⟨by decide, by decide, by decide⟩
  rw [tx3, show dn 2026 11 23 = 739942 by decide] at b7
  have c1 := r_two_figures 9 (lamS p) (i := 7) (by omega)
  rw [tx9] at c1
  have q1 : eqD (.tup [.int 3652058, .int 12, .str "Mon", .str "Dec", .str "07"]) (.tup [.int 3652058, .int 12, .str "Mon", .str "Dec", .str "07"]) = some true := by decide +kernel
  have q2 : eqD (.lst [.int 739938, .tup [.int 2026, .int 11, .int 19], .int 3, .tup [.int 2026, .int 47], .str "2026-02-28", .str "2026-11-26", .non, .str "Thu 19 Nov 2026", .str "09:35", .int 575, .str "2026-11-19 09:35", .bl true, .int 5, .str "2026-11-23", .int 29, .bl false]) (.lst [.int 739938, .tup [.int 2026, .int 11, .int 19], .int 3, .tup [.int 2026, .int 47], .str "2026-02-28", .str "2026-11-26", .non, .str "Thu 19 Nov 2026", .str "09:35", .int 575, .str "2026-11-19 09:35", .bl true, .int 5, .str "2026-11-23", .int 29, .bl false]) = some true := by decide +kernel
  have w47 : (739938 - 739938 % 7 + 3 - y0 2026) / 7 + 1 = 47 := by decide
  rw [w47] at a3
  have hS : dS p ++ ((List.range 29).map fun i => SO.lam (28 - i)) = lamS p := rfl
  simp only [List.range, List.range.loop, List.map_cons, List.map_nil] at hS
  have hR : refs = (List.range 29).map fun i => Wv.ref (1 + i) := rfl
  simp only [List.range, List.range.loop, List.map_cons, List.map_nil] at hR
  have hN : (dS p).length = 1 := rfl
  simp [hR] at lc
  simp at hS
  simp only [Int.reduceMul, Int.reduceAdd] at b3 b4 b5 b6
  simp only [Nat.reduceAdd] at e0 a1 a2 a3 a4 a5 a6 a7 a8 a9 b1 b2 b3 b4 b5 b6 b7 c1
  simp [d__law_plain, startW, e0, hN, z, binW, hS, lc, cmpW, ofB, eq_nil0, c1, q1, idxW, rd, atI, ixN, biW, a1, a2, a3, a4, a5, a6, a7, a8, a9, b1, b2, b3, b4, b5, b6, b7, wd5, ws2, ml28, lp00, q2, eqD_int]
end K01

end
section
set_option Elab.async false
set_option linter.all false
set_option maxRecDepth 100000
set_option maxHeartbeats 400000
namespace K01
open PySem Dy L2
/-! ### the days that are taken -/
theorem val_any (kvs : List (Key × Wv)) (k : Key) : (valW kvs k).isSome = kvs.any fun p => decide (p.1 = k) := by
  unfold valW
  rw [Option.isSome_map]
  induction kvs with
  | nil => rfl
  | cons a r ih =>
    rw [List.find?_cons, List.any_cons]
    by_cases h : a.1 = k
    · simp [h]
    · simp [h, ih]
theorem val_put (kvs : List (Key × Wv)) (k k' : Key) (w : Wv) : (valW (putW kvs k w) k').isSome = ((valW kvs k').isSome || decide (k = k')) := by
  rw [val_any, val_any]
  unfold putW
  by_cases h : (kvs.any fun kv => decide (kv.1 = k)) = true
  · rw [if_pos h]
    have e : ((kvs.map fun kv => if kv.1 = k then (kv.1, w) else kv).any fun p => decide (p.1 = k')) = kvs.any fun p => decide (p.1 = k') := by
      rw [List.any_map]
      congr 1
      funext p
      show decide ((if p.1 = k then (p.1, w) else p).1 = k') = _
      split <;> rfl
    rw [e]
    by_cases hk : k = k'
    · subst hk
      rw [h]; simp
    · simp [hk]
  · rw [if_neg h, List.any_append]
    simp
theorem dc_loop (f : Wv → Sto → Res) (S : Sto) (hf : ∀ i : Int, f (.int i) S = .ok (.lst [.int i, .bl true]) S) : ∀ (off : List Int) (acc : List (Key × Wv)), ∃ kvs, dcLoop f (off.map .int) acc S = .ok (.dct kvs) S ∧ ∀ x : Int, (valW kvs (.inl x)).isSome = ((valW acc (.inl x)).isSome || decide (x ∈ off)) := by
  intro off
  induction off with
  | nil => exact fun acc => ⟨acc, rfl, fun x => by simp⟩
  | cons i r ih =>
    intro acc
    obtain ⟨kvs, h1, h2⟩ := ih (putW acc (.inl i) (.bl true))
    refine ⟨kvs, ?_, fun x => ?_⟩
    · show (match f (.int i) S with
        | .ok (.lst [k, w]) S' => (match keyW k with
          | some k => dcLoop f (r.map .int) (putW acc k w) S'
          | none => .bad)
        | .ok (.lst []) S' => dcLoop f (r.map .int) acc S'
        | _ => .bad) = _
      rw [hf]
      exact h1
    · rw [h2, val_put]
      have e : decide ((Sum.inl i : Key) = .inl x) = decide (x = i) := by
        by_cases h : x = i
        · subst h
          rw [decide_eq_true rfl, decide_eq_true rfl]
        · have h' : ¬ (Sum.inl i : Key) = .inl x := fun z => h (Sum.inl.inj z).symm
          rw [decide_eq_false h, decide_eq_false h']
      rw [e]
      simp [Bool.or_assoc]
theorem ev_dc {cl : Clr} {σ : Sl} {S : Sto} (g : Tg) (it c k e : E) (own : List (Str × Nat)) : ev cl (.dc g it c k e own) σ S = (ev cl it σ S).bind fun x S => match itW x with
    | some items => dcLoop (fun x S => match asg g x (wipeW σ (own.map (·.2))) with
        | some σ' => (ev cl c σ' S).bind fun t S => iteK t ((ev cl k σ' S).bind fun y S => (ev cl e σ' S).bind fun z S => .ok (.lst [y, z]) S) (.ok (.lst []) S)
        | none => .bad) items [] S
    | none => .bad := rfl
theorem dc_taken {cl : Clr} (S : Sto) (a b : Wv) (c d : Option Wv) (off : List Int) (ho : off.length ≤ 100) (x : Str) : ∃ kvs, ev cl (.dc (.nm 4) (.var 2) (.lit (.bl true)) (.var 4) (.lit (.bl true)) [(x, 4)]) [some a, some b, some (.lst (off.map .int)), c, d] S = .ok (.dct kvs) S ∧ ∀ x : Int, (valW kvs (.inl x)).isSome = decide (x ∈ off) := by
  obtain ⟨kvs, h1, h2⟩ := dc_loop (fun x S => match asg (.nm 4) x (wipeW [some a, some b, some (.lst (off.map .int)), c, d] [4]) with
        | some σ' => (ev cl (.lit (.bl true)) σ' S).bind fun t S => iteK t ((ev cl (.var 4) σ' S).bind fun y S => (ev cl (.lit (.bl true)) σ' S).bind fun z S => .ok (.lst [y, z]) S) (.ok (.lst []) S)
        | none => .bad) S (fun i => by simp [wipeW]) off []
  refine ⟨kvs, ?_, fun x => by rw [h2]; rfl⟩
  rw [ev_dc]
  simp only [ev_var, List.getElem?_cons_succ, List.getElem?_cons_zero, bind_ok, itW]
  rw [if_pos (by rw [List.length_map, sizeLine_eq]; omega)]
  exact h1
/-- a working day -/
def wk (off : List Int) (x : Int) : Bool := decide (x % 7 < 5) && !decide (x ∈ off)
theorem mem_dct (kvs : List (Key × Wv)) (x : Int) : memW (.int x) (.dct kvs) = some (valW kvs (.inl x)).isSome := rfl
theorem ft_work_days : D.FT "work_days" = some d_work_days := by rfl
theorem ft_work_step : D.FT "work_step" = some d_work_step := by rfl
theorem r_work_days (k : Nat) (S : Sto) {a b : Int} (off : List Int) (ho : off.length ≤ 100) (h : 0 ≤ b - a ∧ b - a ≤ 10000) (ha : 0 ≤ a ∧ a ≤ 10000000) : run D.FT (k + 1) "work_days" [.int a, .int b, .lst (off.map .int)] S = .ok (.int ((List.range (b + 1 - a).toNat).filter fun i => wk off (a + (i : Nat))).length) S := by
  rw [run_at ft_work_days rfl]
  obtain ⟨kvs, h1, h2⟩ := dc_taken (cl := run D.FT k) S (.int a) (.int b) none none off ho "day"
  have c1 := lc_rng2 (cl := run D.FT k) (g := .nm 4) (a := .var 0) (b := .bin .add (.var 1) (.lit (.int 1))) (c := .and (.cmp .lt (.bin .mod (.var 4) (.lit (.int 7))) (.lit (.int 5))) (.cmp .notin (.var 4) (.var 3))) (e := .lit (.int 1)) (own := [("day", 4)])
    (σ := [some (.int a), some (.int b), some (.lst (off.map .int)), some (.dct kvs), none]) (S := S) (lo := a) (hi := b + 1) rfl rfl (by omega) (by omega) (by omega) (fun x => if wk off x = true then [.int 1] else []) (fun x _ _ => by
      refine lcF_nm (b := wk off x) (y := .int 1) ?_ (fun _ => rfl)
      by_cases h5 : x % 7 < 5 <;> simp [wipeW, w_mod, andK_b, cmpW, rd, mem_dct, h2, ofB, wk, h5])
  have e1 : ∀ l : List Nat, (l.flatMap fun i => if wk off (a + (i : Nat)) = true then [Wv.int 1] else []).length = (l.filter fun i => wk off (a + (i : Nat))).length := fun l => by
    induction l with
    | nil => rfl
    | cons i r ih =>
      rw [List.flatMap_cons, List.length_append, ih, List.filter_cons]
      split <;> simp <;> omega
  have q : a ≤ b := by omega
  have e2 := e1 (List.range (b + 1 - a).toNat)
  generalize ((List.range (b + 1 - a).toNat).flatMap fun i => if wk off (a + (i : Nat)) = true then [Wv.int 1] else []) = L at c1 e2
  rw [← e2]
  simp [d_work_days, startW, andK_b, h, q, h1, c1, biW, rd]
end K01

end
section
set_option Elab.async false
set_option linter.all false
set_option maxRecDepth 100000
set_option maxHeartbeats 400000
namespace K01
open PySem Dy L2
/-! ### work_step -/
def cnt (off : List Int) (a : Int) (j : Nat) : Nat := ((List.range j).filter fun i => wk off (a + (i : Nat))).length
theorem cnt_succ (off : List Int) (a : Int) (j : Nat) : cnt off a (j + 1) = cnt off a j + if wk off (a + (j : Nat)) = true then 1 else 0 := by
  unfold cnt
  rw [List.range_succ, List.filter_append, List.length_append]
  congr 1
  rw [List.filter_cons]
  split <;> rfl
theorem cnt_mono (off : List Int) (a : Int) {i j : Nat} (h : i ≤ j) : cnt off a i ≤ cnt off a j := by
  induction h with
  | refl => exact Nat.le_refl _
  | step _ ih => rw [cnt_succ]; omega
theorem pick (off : List Int) (a : Int) : ∀ (N n : Nat), n < cnt off a N → ∃ J, J < N ∧ wk off (a + (J : Nat)) = true ∧ cnt off a J = n ∧ ((List.range N).filter fun i => wk off (a + (i : Nat)))[n]? = some J := by
  intro N
  induction N with
  | zero => exact fun n h => absurd h (Nat.not_lt_zero _)
  | succ N ih =>
    intro n h
    by_cases h1 : n < cnt off a N
    · obtain ⟨J, q1, q2, q3, q4⟩ := ih n h1
      refine ⟨J, by omega, q2, q3, ?_⟩
      rw [List.range_succ, List.filter_append, List.getElem?_append_left h1]
      exact q4
    · rw [cnt_succ] at h
      split at h
      · rename_i hw
        have e : n = cnt off a N := by omega
        refine ⟨N, by omega, hw, e.symm, ?_⟩
        rw [List.range_succ, List.filter_append, List.getElem?_append_right (by show cnt off a N ≤ n; omega), List.filter_cons, if_pos hw]
        show [N][n - cnt off a N]? = _
        rw [e, Nat.sub_self]
        rfl
      · omega
theorem r_work_step (k : Nat) (S : Sto) {a : Int} {J : Nat} (off : List Int) (ho : off.length ≤ 100) (hJ : J ≤ 1000) (hw : wk off (a + (J : Nat)) = true) (hc : cnt off a J ≤ 1000) : run D.FT (k + 1) "work_step" [.int a, .int (cnt off a J), .lst (off.map .int)] S = .ok (.int (a + (J : Nat))) S := by
  rw [run_at ft_work_step rfl]
  obtain ⟨kvs, h1, h2⟩ := dc_taken (cl := run D.FT k) S (.int a) (.int (cnt off a J)) none none off ho "one"
  have lp := wLoop_inv (ev (run D.FT k) (.or (.cmp .gt (.var 1) (.lit (.int 0))) (.or (.cmp .gt (.bin .mod (.var 0) (.lit (.int 7))) (.lit (.int 4))) (.cmp .isin (.var 0) (.var 3)))))
    (ex (run D.FT k) (.seq (.aug 1 .sub (.ite (.and (.cmp .lt (.bin .mod (.var 0) (.lit (.int 7))) (.lit (.int 5))) (.cmp .notin (.var 0) (.var 3))) (.lit (.int 1)) (.lit (.int 0)))) (.seq (.aug 0 .add (.lit (.int 1))) .nil)))
    (fun m σ S' => S' = S ∧ ∃ j, j + m = J ∧ σ = [some (.int (a + (j : Nat))), some (.int ((cnt off a J : Int) - cnt off a j)), some (.lst (off.map .int)), some (.dct kvs), none]) (by
      rintro σ S' ⟨rfl, j, hj, rfl⟩
      have : j = J := by omega
      subst this
      have hw' := hw
      simp only [wk, Bool.and_eq_true, Bool.not_eq_true', decide_eq_true_eq, decide_eq_false_iff_not] at hw'
      have q : ¬ 4 < (a + (j : Nat)) % 7 := by omega
      simp [orK_b, w_mod, q, cmpW, rd, mem_dct, h2, ofB, hw'.2]) (by
      rintro m σ S' ⟨rfl, j, hj, rfl⟩
      have hm := cnt_mono off a (show j + 1 ≤ J by omega)
      rw [cnt_succ] at hm
      have hx : wk off (a + (j : Nat)) = true → 0 < (cnt off a J : Int) - cnt off a j := fun z => by
        rw [if_pos z] at hm
        omega
      have hs : (cnt off a J : Int) - cnt off a (j + 1) = (cnt off a J : Int) - cnt off a j - (if wk off (a + (j : Nat)) = true then 1 else 0) := by
        rw [cnt_succ]
        split <;> omega
      have ha : a + ((j + 1 : Nat) : Int) = a + (j : Nat) + 1 := by omega
      generalize hd : a + (j : Nat) = dd at *
      generalize hC : (cnt off a J : Int) - cnt off a j = CC at *
      refine ⟨?_, ?_⟩
      · by_cases c1 : 0 < CC
        · simp [orK_b, c1]
        · have hn : wk off dd = false := by
            cases hq : wk off dd with
            | true => exact absurd (hx hq) c1
            | false => rfl
          by_cases c2 : 4 < dd % 7
          · simp [orK_b, c1, w_mod, c2]
          · have c3 : dd % 7 < 5 := by omega
            simp only [wk, c3, decide_true, Bool.true_and, Bool.not_eq_false'] at hn
            simp only [decide_eq_true_eq] at hn
            simp [orK_b, c1, w_mod, c2, cmpW, rd, mem_dct, h2, ofB, hn]
      · refine ⟨_, _, ?_, rfl, j + 1, by omega, rfl⟩
        rw [hs, ha]
        by_cases c3 : dd % 7 < 5 <;> by_cases c4 : dd ∈ off <;> simp [andK_b, w_mod, c3, c4, cmpW, rd, mem_dct, h2, ofB, wk])
  obtain ⟨σ', S', q1, q2, j, q3, q4⟩ := lp J fuelW [some (.int a), some (.int (cnt off a J)), some (.lst (off.map .int)), some (.dct kvs), none] S (by unfold fuelW; omega) ⟨rfl, 0, by omega, by simp [cnt]⟩
  have hj : j = J := by omega
  subst hj
  subst q2
  subst q4
  rw [← ex_whl] at q1
  have z0 : (0 : Int) ≤ cnt off a j := by omega
  have z1 : (cnt off a j : Int) ≤ 1000 := by omega
  simp [d_work_step, startW, andK_b, z0, z1, h1, q1]
end K01

end
section
set_option Elab.async false
set_option linter.all false
set_option maxRecDepth 100000
namespace K01
open PySem Dy L2
/-! The statements of the law's body; printed from K01A by a small program. -/
def b0 : Sm := (.set (.nm 4) (.call "_law_date" (.cons (.var 3) .nil)))
def b1 : Sm := (.set (.tup (.cons (.nm 5) (.cons (.nm 6) (.cons (.nm 7) .nil)))) (.var 4))
def b2 : Sm := (.set (.nm 8) (.call "_law_number" (.cons (.var 5) (.cons (.var 6) (.cons (.var 7) .nil)))))
def b3 : Sm := (.ifs (.or (.cmp .ne (.call "day_of" (.cons (.var 5) (.cons (.var 6) (.cons (.var 7) .nil)))) (.var 8)) (.or (.cmp .ne (.call "date_of" (.cons (.var 8) .nil)) (.var 4)) (.cmp .ne (.call "weekday_of" (.cons (.var 8) .nil)) (.bin .mod (.var 8) (.lit (.int 7))))))     (.seq (.ret (.lit (.bl false)))     .nil)     .nil)
def b4 : Sm := (.ifs (.or (.cmp .ne (.call "month_long" (.cons (.var 5) (.cons (.var 6) .nil))) (.call "_law_long" (.cons (.var 5) (.cons (.var 6) .nil)))) (.cmp .ne (.call "day_text" (.cons (.var 8) .nil)) (.call "_law_text" (.cons (.var 4) .nil))))     (.seq (.ret (.lit (.bl false)))     .nil)     .nil)
def b5 : Sm := (.ifs (.cmp .ne (.call "read_day" (.cons (.call "_law_text" (.cons (.var 4) .nil)) .nil)) (.var 8))     (.seq (.ret (.lit (.bl false)))     .nil)     .nil)
def b6 : Sm := (.ifs (.cmp .lt (.var 8) (.lit (.int 3652058)))     (.seq (.set (.nm 9) (.ite (.cmp .lt (.var 7) (.call "_law_long" (.cons (.var 5) (.cons (.var 6) .nil)))) (.tup (.cons (.var 5) (.cons (.var 6) (.cons (.bin .add (.var 7) (.lit (.int 1))) .nil)))) (.ite (.cmp .lt (.var 6) (.lit (.int 12))) (.tup (.cons (.var 5) (.cons (.bin .add (.var 6) (.lit (.int 1))) (.cons (.lit (.int 1)) .nil)))) (.tup (.cons (.bin .add (.var 5) (.lit (.int 1))) (.cons (.lit (.int 1)) (.cons (.lit (.int 1)) .nil)))))))     (.seq (.ifs (.cmp .ne (.call "date_of" (.cons (.bin .add (.var 8) (.lit (.int 1))) .nil)) (.var 9))     (.seq (.ret (.lit (.bl false)))     .nil)     .nil)     .nil))     .nil)
def b7 : Sm := (.ifs (.cmp .ne (.call "long_text" (.cons (.var 8) .nil)) (.bin .add (.bin .add (.bin .add (.bin .add (.bin .add (.bin .add (.idx (.var 1) (.bin .mod (.var 8) (.lit (.int 7)))) (.lit (.str " "))) (.bi .str (.cons (.var 7) .nil))) (.lit (.str " "))) (.idx (.var 2) (.bin .sub (.var 6) (.lit (.int 1))))) (.lit (.str " "))) (.bi .str (.cons (.var 5) .nil))))     (.seq (.ret (.lit (.bl false)))     .nil)     .nil)
def b8 : Sm := (.set (.nm 10) (.bin .add (.bin .sub (.var 8) (.bin .mod (.var 8) (.lit (.int 7)))) (.lit (.int 3))))
def b9 : Sm := (.ifs (.chain .le .le (.lit (.int 0)) (.var 10) (.lit (.int 3652058)))     (.seq (.set (.nm 11) (.idx (.call "date_of" (.cons (.var 10) .nil)) (.lit (.int 0))))     (.seq (.ifs (.cmp .ne (.call "week_of" (.cons (.var 8) .nil)) (.tup (.cons (.var 11) (.cons (.bin .add (.lit (.int 1)) (.bi .len (.cons (.lc (.nm 28) (.rng2 (.call "_law_number" (.cons (.var 11) (.cons (.lit (.int 1)) (.cons (.lit (.int 1)) .nil)))) (.var 10)) (.cmp .eq (.bin .mod (.var 28) (.lit (.int 7))) (.lit (.int 3))) (.lit (.int 1)) [("one", 28)]) .nil))) .nil))))     (.seq (.ret (.lit (.bl false)))     .nil)     .nil)     .nil))     .nil)
def b10 : Sm := (.set (.nm 12) (.bin .sub (.call "_law_roll" (.cons (.var 3) (.cons (.lit (.int 60)) .nil))) (.lit (.int 30))))
def b11 : Sm := (.set (.nm 13) (.bin .add (.bin .sub (.bin .add (.bin .mul (.var 5) (.lit (.int 12))) (.var 6)) (.lit (.int 1))) (.var 12)))
def b12 : Sm := (.set (.nm 14) (.tup (.cons (.bin .fdiv (.var 13) (.lit (.int 12))) (.cons (.bin .add (.bin .mod (.var 13) (.lit (.int 12))) (.lit (.int 1))) .nil))))
def b13 : Sm := (.set (.nm 15) (.ite (.chain .le .le (.lit (.int 1)) (.idx (.var 14) (.lit (.int 0))) (.lit (.int 9999))) (.call "_law_number" (.cons (.idx (.var 14) (.lit (.int 0))) (.cons (.idx (.var 14) (.lit (.int 1))) (.cons (.bi .min2 (.cons (.var 7) (.cons (.call "_law_long" (.cons (.idx (.var 14) (.lit (.int 0))) (.cons (.idx (.var 14) (.lit (.int 1))) .nil))) .nil))) .nil)))) (.lit (.str "DayError"))))
def b14 : Sm := (.ifs (.cmp .ne (.told "_law_told" "DayError" (.call "month_step" (.cons (.var 8) (.cons (.var 12) .nil)))) (.var 15))     (.seq (.ret (.lit (.bl false)))     .nil)     .nil)
def b15 : Sm := (.set (.tup (.cons (.nm 16) (.cons (.nm 17) .nil))) (.tup (.cons (.call "_law_roll" (.cons (.var 3) (.cons (.lit (.int 7)) .nil))) (.cons (.idx (.lst (.cons (.lit (.int 1)) (.cons (.lit (.int 2)) (.cons (.lit (.int 3)) (.cons (.lit (.int 4)) (.cons (.lit (.int 5)) (.cons (.neg (.lit (.int 1))) (.cons (.neg (.lit (.int 2))) .nil)))))))) (.call "_law_roll" (.cons (.var 3) (.cons (.lit (.int 7)) .nil)))) .nil))))
def b16 : Sm := (.set (.nm 18) (.lc (.nm 28) (.rng2 (.call "_law_number" (.cons (.var 5) (.cons (.var 6) (.cons (.lit (.int 1)) .nil)))) (.bin .add (.call "_law_number" (.cons (.var 5) (.cons (.var 6) (.cons (.lit (.int 1)) .nil)))) (.call "_law_long" (.cons (.var 5) (.cons (.var 6) .nil))))) (.cmp .eq (.bin .mod (.var 28) (.lit (.int 7))) (.var 16)) (.var 28) [("one", 28)]))
def b17 : Sm := (.set (.nm 19) (.ite (.cmp .gt (.var 17) (.lit (.int 0))) (.bin .sub (.var 17) (.lit (.int 1))) (.bin .add (.bi .len (.cons (.var 18) .nil)) (.var 17))))
def b18 : Sm := (.par2 20 21 (.call "_law_roll" (.cons (.var 3) (.cons (.lit (.int 1440)) .nil))) (.call "_law_roll" (.cons (.var 3) (.cons (.lit (.int 10)) .nil))))
def b19 : Sm := (.set (.nm 22) (.bin .add (.bin .add (.sl (.bin .add (.lit (.str "0")) (.bi .str (.cons (.bin .fdiv (.var 20) (.lit (.int 60))) .nil))) (.neg (.lit (.int 2))) (.lit .non)) (.lit (.str ":"))) (.sl (.bin .add (.lit (.str "0")) (.bi .str (.cons (.bin .mod (.var 20) (.lit (.int 60))) .nil))) (.neg (.lit (.int 2))) (.lit .non))))
def b20 : Sm := (.ifs (.cmp .ne (.call "nth_weekday" (.cons (.var 5) (.cons (.var 6) (.cons (.var 16) (.cons (.var 17) .nil))))) (.ite (.chain .le .lt (.lit (.int 0)) (.var 19) (.bi .len (.cons (.var 18) .nil))) (.idx (.var 18) (.var 19)) (.lit .non)))     (.seq (.ret (.lit (.bl false)))     .nil)     .nil)
def b21 : Sm := (.ifs (.or (.cmp .ne (.call "time_text" (.cons (.var 20) .nil)) (.var 22)) (.or (.cmp .ne (.call "read_time" (.cons (.var 22) .nil)) (.var 20)) (.cmp .ne (.call "read_time" (.cons (.bin .add (.bi .str (.cons (.var 21) .nil)) (.lit (.str ":05"))) .nil)) (.bin .add (.bin .mul (.lit (.int 60)) (.var 21)) (.lit (.int 5))))))     (.seq (.ret (.lit (.bl false)))     .nil)     .nil)
def b22 : Sm := (.ifs (.cmp .ne (.call "stamp_of" (.cons (.var 8) (.cons (.var 20) .nil))) (.bin .add (.bin .mul (.lit (.int 1440)) (.var 8)) (.var 20)))     (.seq (.ret (.lit (.bl false)))     .nil)     .nil)
def b23 : Sm := (.ifs (.cmp .ne (.call "stamp_text" (.cons (.bin .add (.bin .mul (.lit (.int 1440)) (.var 8)) (.var 20)) .nil)) (.bin .add (.bin .add (.call "_law_text" (.cons (.var 4) .nil)) (.lit (.str " "))) (.var 22)))     (.seq (.ret (.lit (.bl false)))     .nil)     .nil)
def b24 : Sm := (.ifs (.cmp .ne (.call "read_stamp" (.cons (.bin .add (.bin .add (.call "_law_text" (.cons (.var 4) .nil)) (.lit (.str " "))) (.var 22)) .nil)) (.bin .add (.bin .mul (.lit (.int 1440)) (.var 8)) (.var 20)))     (.seq (.ret (.lit (.bl false)))     .nil)     .nil)
def b25 : Sm := (.set (.tup (.cons (.nm 23) (.cons (.nm 24) (.cons (.nm 25) .nil)))) (.tup (.cons (.bin .add (.lit (.int 700000)) (.call "_law_roll" (.cons (.var 3) (.cons (.lit (.int 400)) .nil)))) (.cons (.call "_law_roll" (.cons (.var 3) (.cons (.lit (.int 40)) .nil))) (.cons (.call "_law_roll" (.cons (.var 3) (.cons (.lit (.int 12)) .nil))) .nil)))))
def b26 : Sm := (.set (.nm 26) (.lc (.nm 29) (.rng1 (.call "_law_roll" (.cons (.var 3) (.cons (.lit (.int 5)) .nil)))) (.lit (.bl true)) (.bin .add (.var 23) (.call "_law_roll" (.cons (.var 3) (.cons (.lit (.int 30)) .nil)))) [("k", 29)]))
def b27 : Sm := (.set (.nm 27) (.lc (.nm 28) (.rng2 (.var 23) (.bin .add (.var 23) (.lit (.int 80)))) (.and (.cmp .lt (.bin .mod (.var 28) (.lit (.int 7))) (.lit (.int 5))) (.cmp .notin (.var 28) (.var 26))) (.var 28) [("one", 28)]))
def b28 : Sm := (.ifs (.cmp .ne (.call "work_days" (.cons (.var 23) (.cons (.bin .add (.var 23) (.var 24)) (.cons (.var 26) .nil)))) (.bi .len (.cons (.lc (.nm 28) (.var 27) (.cmp .le (.var 28) (.bin .add (.var 23) (.var 24))) (.var 28) [("one", 28)]) .nil)))     (.seq (.ret (.lit (.bl false)))     .nil)     .nil)
def b29 : Sm := (.ifs (.cmp .ne (.call "work_step" (.cons (.var 23) (.cons (.var 25) (.cons (.var 26) .nil)))) (.idx (.var 27) (.var 25)))     (.seq (.ret (.lit (.bl false)))     .nil)     .nil)
def turnB : Sm := (.seq b0 (.seq b1 (.seq b2 (.seq b3 (.seq b4 (.seq b5 (.seq b6 (.seq b7 (.seq b8 (.seq b9 (.seq b10 (.seq b11 (.seq b12 (.seq b13 (.seq b14 (.seq b15 (.seq b16 (.seq b17 (.seq b18 (.seq b19 (.seq b20 (.seq b21 (.seq b22 (.seq b23 (.seq b24 (.seq b25 (.seq b26 (.seq b27 (.seq b28 (.seq b29 .nil))))))))))))))))))))))))))))))
theorem law_eq : d_law.body = .seq (.par2 1 2 (.lst (.cons (.lit (.str "Mon")) (.cons (.lit (.str "Tue")) (.cons (.lit (.str "Wed")) (.cons (.lit (.str "Thu")) (.cons (.lit (.str "Fri")) (.cons (.lit (.str "Sat")) (.cons (.lit (.str "Sun")) .nil)))))))) (.lst (.cons (.lit (.str "Jan")) (.cons (.lit (.str "Feb")) (.cons (.lit (.str "Mar")) (.cons (.lit (.str "Apr")) (.cons (.lit (.str "May")) (.cons (.lit (.str "Jun")) (.cons (.lit (.str "Jul")) (.cons (.lit (.str "Aug")) (.cons (.lit (.str "Sep")) (.cons (.lit (.str "Oct")) (.cons (.lit (.str "Nov")) (.cons (.lit (.str "Dec")) .nil)))))))))))))) (.seq (.forr (.nm 3) (.call "_law_rounds" (.cons (.var 0) (.cons (.lit (.int 1)) .nil))) turnB) (.seq (.ret (.call "_law_plain" .nil)) .nil)) := rfl
end K01

end
section
set_option Elab.async false
set_option linter.all false
set_option maxRecDepth 100000
set_option maxHeartbeats 400000
namespace K01
open PySem Dy L2
/-! ### the body, statement by statement -/
theorem eq_t3 (a b c a' b' c' : Int) : eqD (.tup [.int a, .int b, .int c]) (.tup [.int a', .int b', .int c']) = some (decide (a = a') && (decide (b = b') && (decide (c = c') && true))) := by
  show (if SeqAt.shaped (.tuple [.int a, .int b, .int c]) = true ∧ SeqAt.shaped (.tuple [.int a', .int b', .int c']) = true then some (PyData.eqv (.tuple [.int a, .int b, .int c]) (.tuple [.int a', .int b', .int c'])) else none) = _
  rw [if_pos ⟨by rfl, by rfl⟩]
  rfl
theorem eq_t2 (a b a' b' : Int) : eqD (.tup [.int a, .int b]) (.tup [.int a', .int b']) = some (decide (a = a') && (decide (b = b') && true)) := by
  show (if SeqAt.shaped (.tuple [.int a, .int b]) = true ∧ SeqAt.shaped (.tuple [.int a', .int b']) = true then some (PyData.eqv (.tuple [.int a, .int b]) (.tuple [.int a', .int b'])) else none) = _
  rw [if_pos ⟨by rfl, by rfl⟩]
  rfl
section
variable {σ : Sl} {S : Sto} {y m d : Int} (hY : y ∈ Ys) (hD : Date y m d) (h4 : σ[4]? = some (some (.tup [.int y, .int m, .int d]))) (h5 : σ[5]? = some (some (.int y))) (h6 : σ[6]? = some (some (.int m))) (h7 : σ[7]? = some (some (.int d))) (h8 : σ[8]? = some (some (.int (dn y m d))))
include hY hD h4 h5 h6 h7 h8
theorem t3 : ex (run D.FT 11) b3 σ S = .nx σ S := by
  have e1 := r_day_of 8 S y m d hD.hy hD.hm hD.hd
  have e2 := r_date_of 7 S hD
  have e3 := r_weekday_of 10 S (dn_range hD)
  simp only [Nat.reduceAdd] at e1 e2 e3
  simp [b3, h4, h5, h6, h7, h8, e1, e2, e3, orK_b, cmpW, ofB, eqD_int, eq_t3, w_mod]
theorem t4 : ex (run D.FT 11) b4 σ S = .nx σ S := by
  have e1 := r_month_long 9 S y m hD.hy hD.hm
  have e2 := r_law_long 10 S (y := y) hD.hm
  have e3 := r_day_text 6 S hY hD
  have e4 := r_law_text 10 S hY hD
  have e5 := eq_strs (dayT_ok hY hD) (dayT_ok hY hD)
  simp only [Nat.reduceAdd] at e1 e2 e3 e4
  simp [b4, h4, h5, h6, h7, h8, e1, e2, e3, e4, orK_b, cmpW, ofB, eqD_int, e5]
theorem t5 : ex (run D.FT 11) b5 σ S = .nx σ S := by
  have e3 := r_read_day 7 S hY hD
  have e4 := r_law_text 10 S hY hD
  simp only [Nat.reduceAdd] at e3 e4
  simp [b5, h4, h5, h6, h7, h8, e3, e4, cmpW, ofB, eqD_int]
theorem t7 (h1 : σ[1]? = some (some (.lst (WDs.map Wv.str)))) (h2 : σ[2]? = some (some (.lst (MOs.map Wv.str)))) : ex (run D.FT 11) b7 σ S = .nx σ S := by
  have e1 := r_long_text 6 S hY hD
  simp only [Nat.reduceAdd] at e1
  have fy := figY hY
  have hml := ml_28 y m hD.hm
  have fd := fig (i := d) (by have := hD.hd; omega)
  have z := sizeLine_eq
  have w7 : 0 ≤ dn y m d % 7 ∧ dn y m d % 7 < 7 := by omega
  have g1 : idxW (.lst (WDs.map Wv.str)) (.int (dn y m d % 7)) S = .ok (.str (wdN (dn y m d % 7))) S := by
    show (match atI (WDs.map Wv.str) (dn y m d % 7) with | some w => Res.ok w S | none => .bad) = _
    rw [at_wd w7]
  have g2 : idxW (.lst (MOs.map Wv.str)) (.int (m - 1)) S = .ok (.str (moN m)) S := by
    show (match atI (MOs.map Wv.str) (m - 1) with | some w => Res.ok w S | none => .bad) = _
    rw [at_mo hD.hm]
  have l1' := (wd_ok w7).1
  have l2 := (mo_ok hD.hm).1
  have l3 := fd.ls
  have l4 := fy.ls
  have a1 := w_addS (wdN (dn y m d % 7)) " " S (by rw [l1b]; omega)
  have a2 := w_addS (wdN (dn y m d % 7) ++ " ") (sI d) S (by simp only [len_app, l1b]; omega)
  have a3 := w_addS (wdN (dn y m d % 7) ++ " " ++ sI d) " " S (by simp only [len_app, l1b]; omega)
  have a4 := w_addS (wdN (dn y m d % 7) ++ " " ++ sI d ++ " ") (moN m) S (by simp only [len_app, l1b]; omega)
  have a5 := w_addS (wdN (dn y m d % 7) ++ " " ++ sI d ++ " " ++ moN m) " " S (by simp only [len_app, l1b]; omega)
  have a6 := w_addS (wdN (dn y m d % 7) ++ " " ++ sI d ++ " " ++ moN m ++ " ") (sI y) S (by simp only [len_app, l1b]; omega)
  have e5 := eq_strs (longT_ok (dn y m d) hY hD) (longT_ok (dn y m d) hY hD)
  have a7 : wdN (dn y m d % 7) ++ " " ++ sI d ++ " " ++ moN m ++ " " ++ sI y = longT (dn y m d) y m d := rfl
  rw [a7] at a6
  simp [b7, h1, h2, h5, h6, h7, h8, e1, w_mod, g1, g2, w_str _ _ fd.lg, w_str _ _ fy.lg, a1, a2, a3, a4, a5, a6, cmpW, ofB, e5]
end
end K01

end
section
set_option Elab.async false
set_option linter.all false
set_option maxRecDepth 100000
set_option maxHeartbeats 400000
namespace K01
open PySem Dy L2
section
variable {σ : Sl} {S : Sto} {y m d t : Int} (hY : y ∈ Ys) (hD : Date y m d) (ht : 0 ≤ t ∧ t < 1440) (h4 : σ[4]? = some (some (.tup [.int y, .int m, .int d]))) (h8 : σ[8]? = some (some (.int (dn y m d)))) (h20 : σ[20]? = some (some (.int t)))
include hY hD ht h4 h8 h20
theorem t19 : ex (run D.FT 11) b19 σ S = .nx (σ.set 22 (some (.str (timeT t)))) S := by
  have f1 := fig (i := t / 60) (by omega)
  have f2 := fig (i := t % 60) (by omega)
  have z := sizeLine_eq
  have m1 := f1.ls
  have m2 := f2.ls
  have c1 := w_addS "0" (sI (t / 60)) S (by rw [l1, z]; omega)
  have c2 := w_addS "0" (sI (t % 60)) S (by rw [l1, z]; omega)
  have s2 := w_slS ("0" ++ sI (t / 60)) (-2) S (by have := f1.l0; omega)
  have s3 := w_slS ("0" ++ sI (t % 60)) (-2) S (by have := f2.l0; omega)
  rw [f1.ct] at s2
  rw [f2.ct] at s3
  have a2 := w_addS (tf (t / 60)) ":" S (by rw [l1c, z, f1.l2]; omega)
  have a3 := w_addS (tf (t / 60) ++ ":") (tf (t % 60)) S (by rw [len_app, l1c, z, f1.l2, f2.l2]; omega)
  simp [b19, h20, w_fdiv, w_mod, w_str _ _ f1.lg, w_str _ _ f2.lg, c1, c2, s2, s3, a2, a3, intO, noB, timeT]
theorem t22 : ex (run D.FT 11) b22 σ S = .nx σ S := by
  have e1 := r_stamp_of 10 S (dn_range hD) ht
  simp only [Nat.reduceAdd] at e1
  simp [b22, h8, h20, e1, w_mul _ _ (cm_l (j := dn y m d) (i := 1440) (by omega)), cmpW, ofB, eqD_int]
theorem t21 {b : Int} (hb : 0 ≤ b ∧ b < 10) (h21 : σ[21]? = some (some (.int b))) (h22 : σ[22]? = some (some (.str (timeT t)))) : ex (run D.FT 11) b21 σ S = .nx σ S := by
  have e1 := r_time_text 9 S ht
  have e2 := r_read_time 10 S ht
  have e3 := r_read_bare 10 S hb
  have e4 := eq_strs (timeT_ok ht) (timeT_ok ht)
  have fb := fig (i := b) (by omega)
  have z := sizeLine_eq
  have a1 := w_addS (sI b) ":05" S (by have := fb.ls; rw [show (":05" : Str).length = 3 by decide +kernel]; omega)
  simp only [Nat.reduceAdd] at e1 e2 e3
  simp [b21, h20, h21, h22, e1, e2, e3, w_str _ _ fb.lg, a1, orK_b, cmpW, ofB, e4, eqD_int, w_mul _ _ (cm_l (j := b) (i := 60) (by omega))]
theorem t23 (h22 : σ[22]? = some (some (.str (timeT t)))) : ex (run D.FT 11) b23 σ S = .nx σ S := by
  have e1 := r_stamp_text 5 S hY hD ht
  have e2 := r_law_text 10 S hY hD
  have e4 := eq_strs (stampT_ok hY hD ht) (stampT_ok hY hD ht)
  have z := sizeLine_eq
  have a2 := w_addS (dayT y m d) " " S (by rw [l1b, z, dayT_len hY hD]; omega)
  have a3 := w_addS (dayT y m d ++ " ") (timeT t) S (by rw [len_app, l1b, z, dayT_len hY hD, timeT_len ht]; omega)
  have a4 : dayT y m d ++ " " ++ timeT t = stampT y m d t := rfl
  rw [a4] at a3
  simp only [Nat.reduceAdd] at e1 e2
  simp [b23, h4, h8, h20, h22, e1, e2, w_mul _ _ (cm_l (j := dn y m d) (i := 1440) (by omega)), a2, a3, cmpW, ofB, e4]
theorem t24 (h22 : σ[22]? = some (some (.str (timeT t)))) : ex (run D.FT 11) b24 σ S = .nx σ S := by
  have e1 := r_read_stamp 6 S hY hD ht
  have e2 := r_law_text 10 S hY hD
  have z := sizeLine_eq
  have a2 := w_addS (dayT y m d) " " S (by rw [l1b, z, dayT_len hY hD]; omega)
  have a3 := w_addS (dayT y m d ++ " ") (timeT t) S (by rw [len_app, l1b, z, dayT_len hY hD, timeT_len ht]; omega)
  have a4 : dayT y m d ++ " " ++ timeT t = stampT y m d t := rfl
  rw [a4] at a3
  simp only [Nat.reduceAdd] at e1 e2
  simp [b24, h4, h8, h20, h22, e1, e2, w_mul _ _ (cm_l (j := dn y m d) (i := 1440) (by omega)), a2, a3, cmpW, ofB, eqD_int]
end
end K01

end
section
set_option Elab.async false
set_option linter.all false
set_option maxRecDepth 100000
set_option maxHeartbeats 400000
namespace K01
open PySem Dy L2
theorem last_n : dn 9999 12 31 = 3652058 := by decide
theorem dn_d (y m d : Int) : dn y m (d + 1) = dn y m d + 1 := by
  unfold dn
  omega
theorem dn_m {y m : Int} (hm : 1 ≤ m) : dn y (m + 1) 1 = dn y m (ml y m) + 1 := by
  unfold dn
  have e : (m + 1 - 1).toNat = (m - 1).toNat + 1 := by omega
  have e2 : (1 : Int) + ((m - 1).toNat : Nat) = m := by omega
  rw [e]
  show y0 y + 1 - 1 + (cum y (m - 1).toNat + ml y (1 + ((m - 1).toNat : Nat))) = _
  rw [e2]
  omega
theorem dn_y (y : Int) : dn (y + 1) 1 1 = dn y 12 (ml y 12) + 1 := by
  unfold dn
  rw [y0_succ, ← cum12]
  show y0 y + (cum y 11 + ml y (1 + ((11 : Nat) : Int))) + 1 - 1 + 0 = y0 y + ml y 12 - 1 + cum y 11 + 1
  rw [show (1 : Int) + ((11 : Nat) : Int) = 12 by omega]
  omega
section
variable {σ : Sl} {S : Sto} {y m d : Int} (hY : y ∈ Ys) (hD : Date y m d) (h5 : σ[5]? = some (some (.int y))) (h6 : σ[6]? = some (some (.int m))) (h7 : σ[7]? = some (some (.int d))) (h8 : σ[8]? = some (some (.int (dn y m d)))) (hl : σ.length = 30)
include hY hD h5 h6 h7 h8 hl
theorem t6 : ∃ w, ex (run D.FT 11) b6 σ S = .nx (σ.set 9 w) S := by
  have e2 := r_law_long 10 S (y := y) hD.hm
  simp only [Nat.reduceAdd] at e2
  have hml := ml_28 y m hD.hm
  by_cases c : dn y m d < 3652058
  · have s9 : ∀ w : Option Wv, (σ.set 9 w)[9]? = some w := fun w => by rw [List.getElem?_set_self (by omega)]
    have s8 : ∀ w : Option Wv, (σ.set 9 w)[8]? = σ[8]? := fun w => by rw [List.getElem?_set_ne (by decide)]
    by_cases c1 : d < ml y m
    · have e1 := r_date_of 7 S (y := y) (m := m) (d := d + 1) ⟨hD.hy, hD.hm, by have := hD.hd; omega⟩
      rw [dn_d] at e1
      simp only [Nat.reduceAdd] at e1
      exact ⟨some (.tup [.int y, .int m, .int (d + 1)]), by simp [b6, h5, h6, h7, h8, c, e2, c1, s9, s8, e1, cmpW, ofB, eq_t3, sizeLine_eq]⟩
    · have hdm : d = ml y m := by have := hD.hd; omega
      by_cases c2 : m < 12
      · have e1 := r_date_of 7 S (y := y) (m := m + 1) (d := 1) ⟨hD.hy, by have := hD.hm; omega, by have := ml_28 y (m + 1) (by have := hD.hm; omega); omega⟩
        rw [dn_m hD.hm.1, ← hdm] at e1
        simp only [Nat.reduceAdd] at e1
        exact ⟨some (.tup [.int y, .int (m + 1), .int 1]), by simp [b6, h5, h6, h7, h8, c, e2, c1, c2, s9, s8, e1, cmpW, ofB, eq_t3, sizeLine_eq]⟩
      · have hm12 : m = 12 := by have := hD.hm; omega
        have hy9 : y ≠ 9999 := fun z => by
          subst z
          subst hm12
          have : d = 31 := hdm.trans (by decide)
          subst this
          rw [last_n] at c
          omega
        have e1 := r_date_of 7 S (y := y + 1) (m := 1) (d := 1) ⟨by have := hD.hy; omega, by omega, by have := ml_28 (y + 1) 1 (by omega); omega⟩
        subst hm12
        rw [dn_y, ← hdm] at e1
        simp only [Nat.reduceAdd] at e1
        exact ⟨some (.tup [.int (y + 1), .int 1, .int 1]), by simp [b6, h5, h6, h7, h8, c, e2, c1, s9, s8, e1, cmpW, ofB, eq_t3, sizeLine_eq]⟩
  · refine ⟨σ[9]'(by omega), ?_⟩
    rw [List.set_getElem_self]
    simp [b6, h8, c]
end
end K01

end
section
set_option Elab.async false
set_option linter.all false
set_option maxRecDepth 100000
set_option maxHeartbeats 400000
namespace K01
open PySem Dy L2
/-- what month_step should answer -/
def goalW (y m d many : Int) : Wv := if 1 ≤ (12 * y + m - 1 + many) / 12 ∧ (12 * y + m - 1 + many) / 12 ≤ 9999 then .int (dn ((12 * y + m - 1 + many) / 12) ((12 * y + m - 1 + many) % 12 + 1) (min d (ml ((12 * y + m - 1 + many) / 12) ((12 * y + m - 1 + many) % 12 + 1)))) else .str "DayError"
section
variable {σ : Sl} {S : Sto} {y m d many : Int} (hY : y ∈ Ys) (hD : Date y m d) (hm : -30 ≤ many ∧ many < 30) (h5 : σ[5]? = some (some (.int y))) (h6 : σ[6]? = some (some (.int m))) (h7 : σ[7]? = some (some (.int d))) (h8 : σ[8]? = some (some (.int (dn y m d)))) (h12 : σ[12]? = some (some (.int many)))
include hY hD hm h5 h6 h7 h8 h12
theorem t11 : ex (run D.FT 11) b11 σ S = .nx (σ.set 13 (some (.int (12 * y + m - 1 + many)))) S := by
  have e : y * 12 = 12 * y := by omega
  simp [b11, h5, h6, h12, w_mul _ _ (cm_r (i := y) (j := 12) (by omega)), e]
theorem t12 (h13 : σ[13]? = some (some (.int (12 * y + m - 1 + many)))) : ex (run D.FT 11) b12 σ S = .nx (σ.set 14 (some (.tup [.int ((12 * y + m - 1 + many) / 12), .int ((12 * y + m - 1 + many) % 12 + 1)]))) S := by
  simp [b12, h13, w_fdiv, w_mod, sizeLine_eq]
theorem t13 (h14 : σ[14]? = some (some (.tup [.int ((12 * y + m - 1 + many) / 12), .int ((12 * y + m - 1 + many) % 12 + 1)]))) : ex (run D.FT 11) b13 σ S = .nx (σ.set 15 (some (goalW y m d many))) S := by
  have hm1 : 1 ≤ (12 * y + m - 1 + many) % 12 + 1 ∧ (12 * y + m - 1 + many) % 12 + 1 ≤ 12 := by omega
  unfold goalW
  generalize (12 * y + m - 1 + many) / 12 = Y at *
  generalize (12 * y + m - 1 + many) % 12 + 1 = M at *
  have e2 := r_law_long 10 S (y := Y) hm1
  simp only [Nat.reduceAdd] at e2
  have ix : idxW (.tup [.int Y, .int M]) (.int 0) S = .ok (.int Y) S ∧ idxW (.tup [.int Y, .int M]) (.int 1) S = .ok (.int M) S := ⟨rfl, rfl⟩
  by_cases c1 : 1 ≤ Y
  · by_cases c2 : Y ≤ 9999
    · have e3 := r_law_number 9 S (y := Y) (m := M) (d := min d (ml Y M)) ⟨c1, c2⟩ hm1
      simp only [Nat.reduceAdd] at e3
      have e4 : biW .min2 [.int d, .int (ml Y M)] S = .ok (.int (min d (ml Y M))) S := by
        show Res.ok (.int (if ml Y M < d then ml Y M else d)) S = _
        rw [show (if ml Y M < d then ml Y M else d) = min d (ml Y M) by split <;> omega]
      simp [b13, h7, h14, ix, andK_b, c1, c2, e2, e3, e4]
    · simp [b13, h7, h14, ix, andK_b, c1, c2]
  · simp [b13, h7, h14, ix, andK_b, c1]
theorem t14 (h15 : σ[15]? = some (some (goalW y m d many))) : ex (run D.FT 11) b14 σ S = .nx σ S := by
  have e1 := r_month_step 6 S (many := many) hD (by omega)
  simp only [Nat.reduceAdd] at e1
  have q := eq_strs sokDE sokDE
  unfold goalW at h15
  by_cases c : 1 ≤ (12 * y + m - 1 + many) / 12 ∧ (12 * y + m - 1 + many) / 12 ≤ 9999
  · rw [if_pos c] at h15 e1
    simp [b14, h8, h12, h15, e1, toldW, cmpW, ofB, eqD_int]
  · rw [if_neg c] at h15 e1
    simp [b14, h8, h12, h15, e1, toldW, cmpW, ofB, q]
end
end K01

end
section
set_option Elab.async false
set_option linter.all false
set_option maxRecDepth 100000
set_option maxHeartbeats 400000
namespace K01
open PySem Dy L2
theorem mem_ints (off : List Int) (x : Int) : memW (.int x) (.lst (off.map .int)) = some (decide (x ∈ off)) := by
  have h1 : (off.map Wv.int).all flatW = true := by
    rw [List.all_eq_true]
    intro w hw
    obtain ⟨i, _, rfl⟩ := List.mem_map.mp hw
    rfl
  have h2 : inW (.int x) (off.map Wv.int) = decide (x ∈ off) := by
    unfold inW
    induction off with
    | nil => rfl
    | cons a r ih =>
      have h1' : (r.map Wv.int).all flatW = true := by
        rw [List.all_eq_true]
        intro w hw
        obtain ⟨i, _, rfl⟩ := List.mem_map.mp hw
        rfl
      rw [List.map_cons, List.any_cons, ih h1']
      show ((a == x) || _) = _
      by_cases h : a = x
      · subst h; simp
      · have h' : ¬ x = a := fun z => h z.symm
        simp [h, h', beq_eq_false_iff_ne.mpr h]
  show (if flatW (.int x) = true ∧ (off.map Wv.int).all flatW = true then some (inW (.int x) (off.map Wv.int)) else none) = _
  rw [if_pos ⟨rfl, h1⟩, h2]
/-- the law's list of working days -/
def works (off : List Int) (a : Int) : List Int := ((List.range 80).filter fun i => wk off (a + (i : Nat))).map fun i => a + (i : Nat)
theorem works_eq (off : List Int) (a : Int) : ∀ l : List Nat, (l.flatMap fun i => if wk off (a + (i : Nat)) = true then [Wv.int (a + (i : Nat))] else []) = ((l.filter fun i => wk off (a + (i : Nat))).map fun i => a + (i : Nat)).map Wv.int := by
  intro l
  induction l with
  | nil => rfl
  | cons i r ih =>
    rw [List.flatMap_cons, ih, List.filter_cons]
    split <;> rfl
theorem cut_cnt (off : List Int) (a : Int) (L : Nat) : ∀ N : Nat, L ≤ N → ((List.range N).filter fun i => wk off (a + (i : Nat)) && decide (i < L)).length = cnt off a L := by
  intro N h
  induction h with
  | refl =>
    unfold cnt
    congr 1
    refine List.filter_congr fun i hi => ?_
    rw [decide_eq_true (List.mem_range.mp hi), Bool.and_true]
  | step h' ih =>
    rw [List.range_succ, List.filter_append, List.length_append, ih, List.filter_cons, if_neg]
    · rfl
    · rw [Bool.and_eq_true]
      rintro ⟨_, z⟩
      have := of_decide_eq_true z
      have h'' : L ≤ _ := h'
      omega
section
variable {σ : Sl} {S : Sto} {a long step : Int} {off : List Int} (ha : 700000 ≤ a ∧ a ≤ 800000) (hL : 0 ≤ long ∧ long < 40) (ho : off.length ≤ 10) (hl : 28 < σ.length) (h23 : σ[23]? = some (some (.int a))) (h26 : σ[26]? = some (some (.lst (off.map .int))))
include ha hL ho hl h23 h26
theorem t27 : ex (run D.FT 11) b27 σ S = .nx (σ.set 27 (some (.lst ((works off a).map .int)))) S := by
  have c1 := lc_rng2 (cl := run D.FT 11) (g := .nm 28) (a := .var 23) (b := .bin .add (.var 23) (.lit (.int 80))) (c := .and (.cmp .lt (.bin .mod (.var 28) (.lit (.int 7))) (.lit (.int 5))) (.cmp .notin (.var 28) (.var 26))) (e := .var 28) (own := [("one", 28)])
    (σ := σ) (S := S) (lo := a) (hi := a + 80) (by simp [h23]) (by simp [h23]) (by omega) (by omega) (by omega) (fun x => if wk off x = true then [.int x] else []) (fun x _ _ => by
      refine lcF_nm (b := wk off x) (y := .int x) ?_ (fun _ => by simp [wipeW, hl])
      by_cases h5 : x % 7 < 5 <;> simp [wipeW, hl, h26, w_mod, andK_b, cmpW, rd, mem_ints, ofB, wk, h5])
  rw [works_eq, show (a + 80 - a).toNat = 80 by omega] at c1
  simp only [b27, ex_set]
  rw [c1]
  rfl
end
end K01

end
section
set_option Elab.async false
set_option linter.all false
set_option maxRecDepth 100000
set_option maxHeartbeats 400000
namespace K01
open PySem Dy L2
theorem works_cut (off : List Int) (a long : Int) (hL : 0 ≤ long ∧ long < 40) : ((works off a).filter fun i => decide (i ≤ a + long)).length = cnt off a (long + 1).toNat := by
  unfold works
  rw [List.filter_map, List.length_map, List.filter_filter, ← cut_cnt off a (long + 1).toNat 80 (by omega)]
  congr 1
  refine List.filter_congr fun i _ => ?_
  rw [Bool.and_comm]
  congr 1
  show decide (a + (i : Nat) ≤ a + long) = decide (i < (long + 1).toNat)
  apply decide_eq_decide.mpr
  omega
theorem off_le (a : Int) : ∀ (off : List Int) (N : Nat), ((List.range N).filter fun i => decide (a + (i : Nat) ∈ off)).length ≤ off.length
  | [], N => by simp
  | b :: r, N => by
    have h1 : ∀ l : List Nat, (l.filter fun i => decide (a + (i : Nat) ∈ b :: r)).length ≤ (l.filter fun i : Nat => decide ((i : Int) = b - a)).length + (l.filter fun i => decide (a + (i : Nat) ∈ r)).length := fun l => by
      induction l with
      | nil => exact Nat.zero_le _
      | cons i l ih =>
        rw [List.filter_cons, List.filter_cons, List.filter_cons]
        by_cases c1 : (i : Int) = b - a
        · have c2 : a + (i : Nat) ∈ b :: r := by
            rw [show a + (i : Nat) = b by omega]
            exact List.mem_cons_self ..
          rw [if_pos (decide_eq_true c2), if_pos (decide_eq_true c1)]
          split <;> simp only [List.length_cons] <;> omega
        · by_cases c2 : a + (i : Nat) ∈ r
          · rw [if_pos (decide_eq_true (List.mem_cons_of_mem _ c2)), if_pos (decide_eq_true c2), if_neg (by simpa using c1)]
            simp only [List.length_cons]; omega
          · have c3 : ¬ a + (i : Nat) ∈ b :: r := fun z => by
              rcases List.mem_cons.mp z with z | z
              · exact c1 (by omega)
              · exact c2 z
            rw [if_neg (by simpa using c3), if_neg (by simpa using c1), if_neg (by simpa using c2)]
            exact ih
    have h2 : ∀ N : Nat, ((List.range N).filter fun i : Nat => decide ((i : Int) = b - a)).length ≤ (if b - a < N then 1 else 0) := fun N => by
      induction N with
      | zero => exact Nat.zero_le _
      | succ N ih =>
        rw [List.range_succ, List.filter_append, List.length_append, List.filter_cons]
        by_cases c : ((N : Nat) : Int) = b - a
        · rw [if_pos (decide_eq_true c)]
          rw [if_neg (by omega)] at ih
          rw [if_pos (by omega)]
          simp only [List.filter_nil, List.length_cons, List.length_nil]
          omega
        · rw [if_neg (by simpa using c)]
          simp only [List.filter_nil, List.length_nil]
          split at ih <;> split <;> omega
    have h3 := h2 N
    have h4 := off_le a r N
    have h5 := h1 (List.range N)
    rw [List.length_cons]
    split at h3 <;> omega
theorem wd_le (off : List Int) (a : Int) (l : List Nat) : (l.filter fun i => decide ((a + (i : Nat)) % 7 < 5)).length ≤ (l.filter fun i => wk off (a + (i : Nat))).length + (l.filter fun i => decide (a + (i : Nat) ∈ off)).length := by
  induction l with
  | nil => exact Nat.zero_le _
  | cons i l ih =>
    rw [List.filter_cons, List.filter_cons, List.filter_cons]
    by_cases c1 : (a + (i : Nat)) % 7 < 5 <;> by_cases c2 : a + (i : Nat) ∈ off <;> simp [c1, c2, wk] <;> simp [wk] at ih <;> omega
theorem wd80 (a : Int) : 56 ≤ ((List.range 80).filter fun i => decide ((a + (i : Nat)) % 7 < 5)).length := by
  have e : ((List.range 80).filter fun i => decide ((a + (i : Nat)) % 7 < 5)) = (List.range 80).filter fun i => decide ((a % 7 + (i : Nat)) % 7 < 5) := List.filter_congr fun i _ => by
    apply decide_eq_decide.mpr
    omega
  rw [e]
  have : a % 7 = 0 ∨ a % 7 = 1 ∨ a % 7 = 2 ∨ a % 7 = 3 ∨ a % 7 = 4 ∨ a % 7 = 5 ∨ a % 7 = 6 := by omega
  rcases this with h | h | h | h | h | h | h <;> rw [h] <;> decide +kernel
theorem cnt80 (off : List Int) (a : Int) (ho : off.length ≤ 10) : 46 ≤ cnt off a 80 := by
  have h1 := wd80 a
  have h2 := wd_le off a (List.range 80)
  have h3 := off_le a off 80
  have : cnt off a 80 = ((List.range 80).filter fun i => wk off (a + (i : Nat))).length := rfl
  omega
end K01

end
section
set_option Elab.async false
set_option linter.all false
set_option maxRecDepth 100000
set_option maxHeartbeats 400000
namespace K01
open PySem Dy L2
theorem works_at (off : List Int) (a : Int) (n J : Nat) (h : ((List.range 80).filter fun i => wk off (a + (i : Nat)))[n]? = some J) (S : Sto) : idxW (.lst ((works off a).map .int)) (.int n) S = .ok (.int (a + (J : Nat))) S := by
  have hlt : n < ((List.range 80).filter fun i => wk off (a + (i : Nat))).length := (List.getElem?_eq_some_iff.mp h).1
  have h2 : ((works off a).map Wv.int)[n]? = some (.int (a + (J : Nat))) := by
    unfold works
    rw [List.getElem?_map, List.getElem?_map, h]
    rfl
  have hl : ((works off a).map Wv.int).length = ((List.range 80).filter fun i => wk off (a + (i : Nat))).length := by
    unfold works
    rw [List.length_map, List.length_map]
  have h3 : atI ((works off a).map Wv.int) (n : Int) = some (.int (a + (J : Nat))) := by
    unfold atI ixN
    have h5 : (works off a)[n]? = some (a + (J : Nat)) := by
      unfold works
      rw [List.getElem?_map, h]
      rfl
    simp only [hl]
    simp [hlt, h2, hl, h5]
  show (match atI ((works off a).map Wv.int) (n : Int) with | some w => Res.ok w S | none => .bad) = _
  rw [h3]
section
variable {σ : Sl} {S : Sto} {a long : Int} {step : Nat} {off : List Int} (ha : 700000 ≤ a ∧ a ≤ 800000) (hL : 0 ≤ long ∧ long < 40) (hs : step < 12) (ho : off.length ≤ 10) (hl : 28 < σ.length) (h23 : σ[23]? = some (some (.int a))) (h24 : σ[24]? = some (some (.int long))) (h25 : σ[25]? = some (some (.int step))) (h26 : σ[26]? = some (some (.lst (off.map .int)))) (h27 : σ[27]? = some (some (.lst ((works off a).map .int))))
include ha hL hs ho hl h23 h24 h25 h26 h27
theorem t28 : ex (run D.FT 11) b28 σ S = .nx σ S := by
  have e1 := r_work_days 10 S (a := a) (b := a + long) off (by omega) (by omega) (by omega)
  simp only [Nat.reduceAdd] at e1
  have hw : (works off a).length ≤ 80 := by
    unfold works
    rw [List.length_map]
    exact Nat.le_trans (List.length_filter_le _ _) (by rw [List.length_range]; exact Nat.le_refl _)
  have c1 := lc_list (cl := run D.FT 11) (g := .nm 28) (it := .var 27) (c := .cmp .le (.var 28) (.bin .add (.var 23) (.var 24))) (e := .var 28) (own := [("one", 28)])
    (σ := σ) (S := S) (items := (works off a).map .int) (by simp [h27]) (by rw [List.length_map]; omega) (fun w => match w with | .int i => if i ≤ a + long then [.int i] else [] | _ => []) (fun x hx => by
      obtain ⟨i, _, rfl⟩ := List.mem_map.mp hx
      have := lcF_nm (j := 28) (fc := ev (run D.FT 11) (.cmp .le (.var 28) (.bin .add (.var 23) (.var 24)))) (fe := ev (run D.FT 11) (.var 28)) (σw := wipeW σ ([((("one" : Str), 28) : Str × Nat)].map (·.2))) (x := .int i) (S := S) (b := decide (i ≤ a + long)) (y := .int i) (by simp [wipeW, hl, h23, h24]) (fun _ => by simp [wipeW, hl])
      rw [this]
      simp)
  have e2 : ∀ l : List Int, ((l.map Wv.int).flatMap fun w => match w with | .int i => if i ≤ a + long then [Wv.int i] else [] | _ => []).length = (l.filter fun i => decide (i ≤ a + long)).length := fun l => by
    induction l with
    | nil => rfl
    | cons i r ih =>
      rw [List.map_cons, List.flatMap_cons, List.length_append, ih, List.filter_cons]
      show (if i ≤ a + long then [Wv.int i] else []).length + _ = _
      by_cases c : i ≤ a + long
      · rw [if_pos c, if_pos (decide_eq_true c)]; simp only [List.length_cons, List.length_nil]; omega
      · rw [if_neg c, if_neg (by simpa using c)]; simp
  have e3 := e2 (works off a)
  rw [works_cut off a long hL] at e3
  have e4 : (a + long + 1 - a).toNat = (long + 1).toNat := by omega
  rw [e4] at e1
  have e5 : ((List.range (long + 1).toNat).filter fun i => wk off (a + (i : Nat))).length = cnt off a (long + 1).toNat := rfl
  rw [e5] at e1
  generalize (((works off a).map Wv.int).flatMap fun w => match w with | .int i => if i ≤ a + long then [Wv.int i] else [] | _ => []) = L at c1 e3
  rw [← e3] at e1
  simp [b28, h23, h24, h26, e1, c1, biW, rd, cmpW, ofB, eqD_int]
theorem t29 : ex (run D.FT 11) b29 σ S = .nx σ S := by
  obtain ⟨J, q1, q2, q3, q4⟩ := pick off a 80 step (by have := cnt80 off a ho; omega)
  have e1 := r_work_step 10 S (a := a) (J := J) off (by omega) (by omega) q2 (by omega)
  rw [q3] at e1
  simp only [Nat.reduceAdd] at e1
  have e2 := works_at off a step J q4 S
  simp [b29, h23, h25, h26, h27, e1, e2, cmpW, ofB, eqD_int]
end
end K01

end
section
set_option Elab.async false
set_option linter.all false
set_option maxRecDepth 100000
set_option maxHeartbeats 400000
namespace K01
open PySem Dy L2
/-! ### the rolls of the body -/
abbrev P3 := Int × Int × Int
theorem roll (p : P3) {many : Int} (h : 1 ≤ many ∧ many ≤ 100000000) : ∃ (r : Int) (p' : P3), (0 ≤ r ∧ r < many) ∧ run D.FT 11 "_law_roll" [.ref 0, .int many] (dS p) = .ok (.int r) (dS p') := r_roll 10 p h
theorem at7 {r : Int} (h : 0 ≤ r ∧ r < 7) (S : Sto) : ∃ mn : Int, (mn ≠ 0 ∧ -2 ≤ mn ∧ mn ≤ 5) ∧ idxW (.lst [.int 1, .int 2, .int 3, .int 4, .int 5, .int (-1), .int (-2)]) (.int r) S = .ok (.int mn) S := by
  have : r = 0 ∨ r = 1 ∨ r = 2 ∨ r = 3 ∨ r = 4 ∨ r = 5 ∨ r = 6 := by omega
  rcases this with rfl | rfl | rfl | rfl | rfl | rfl | rfl
  · exact ⟨1, by decide, rfl⟩
  · exact ⟨2, by decide, rfl⟩
  · exact ⟨3, by decide, rfl⟩
  · exact ⟨4, by decide, rfl⟩
  · exact ⟨5, by decide, rfl⟩
  · exact ⟨-1, by decide, rfl⟩
  · exact ⟨-2, by decide, rfl⟩
section
variable {σ : Sl} (p : P3) (h3 : σ[3]? = some (some (.ref 0)))
include h3
theorem t0 : ∃ (y m d : Int) (p' : P3), y ∈ Ys ∧ Date y m d ∧ ex (run D.FT 11) b0 σ (dS p) = .nx (σ.set 4 (some (.tup [.int y, .int m, .int d]))) (dS p') := by
  obtain ⟨y, m, d, p', h1, h2, e⟩ := r_law_date 9 p
  simp only [Nat.reduceAdd] at e
  exact ⟨y, m, d, p', h1, h2, by simp [b0, h3, e]⟩
theorem t10 : ∃ (many : Int) (p' : P3), (-30 ≤ many ∧ many < 30) ∧ ex (run D.FT 11) b10 σ (dS p) = .nx (σ.set 12 (some (.int many))) (dS p') := by
  obtain ⟨r, p', h, e⟩ := roll p (many := 60) (by omega)
  exact ⟨r - 30, p', by omega, by simp [b10, h3, e]⟩
theorem t15 : ∃ (wd mn : Int) (p' : P3), (0 ≤ wd ∧ wd ≤ 6) ∧ (mn ≠ 0 ∧ -2 ≤ mn ∧ mn ≤ 5) ∧ ex (run D.FT 11) b15 σ (dS p) = .nx ((σ.set 16 (some (.int wd))).set 17 (some (.int mn))) (dS p') := by
  obtain ⟨r, p1, h, e⟩ := roll p (many := 7) (by omega)
  obtain ⟨r2, p2, h2, e2⟩ := roll p1 (many := 7) (by omega)
  obtain ⟨mn, hm, e5⟩ := at7 h2 (dS p2)
  exact ⟨r, mn, p2, by omega, hm, by simp [b15, h3, e, e2, e5, sizeLine_eq]⟩
theorem t18 : ∃ (t b : Int) (p' : P3), (0 ≤ t ∧ t < 1440) ∧ (0 ≤ b ∧ b < 10) ∧ ex (run D.FT 11) b18 σ (dS p) = .nx ((σ.set 20 (some (.int t))).set 21 (some (.int b))) (dS p') := by
  obtain ⟨r, p1, h, e⟩ := roll p (many := 1440) (by omega)
  obtain ⟨r2, p2, h2, e2⟩ := roll p1 (many := 10) (by omega)
  exact ⟨r, r2, p2, h, h2, by simp [b18, h3, e, e2]⟩
theorem t25 : ∃ (a long : Int) (step : Nat) (p' : P3), (700000 ≤ a ∧ a ≤ 800000) ∧ (0 ≤ long ∧ long < 40) ∧ step < 12 ∧ ex (run D.FT 11) b25 σ (dS p) = .nx (((σ.set 23 (some (.int a))).set 24 (some (.int long))).set 25 (some (.int step))) (dS p') := by
  obtain ⟨r, p1, h, e⟩ := roll p (many := 400) (by omega)
  obtain ⟨r2, p2, h2, e2⟩ := roll p1 (many := 40) (by omega)
  obtain ⟨r3, p3, h3', e3⟩ := roll p2 (many := 12) (by omega)
  obtain ⟨n, rfl⟩ := Int.eq_ofNat_of_zero_le h3'.1
  exact ⟨700000 + r, r2, n, p3, by omega, h2, by omega, by simp [b25, h3, e, e2, e3, sizeLine_eq]⟩
theorem offs (a : Int) (h23 : σ[23]? = some (some (.int a))) (hl : 29 < σ.length) : ∀ (items : List Nat) (acc : List Int) (p : P3), ∃ (off : List Int) (p' : P3), off.length = acc.length + items.length ∧
    lcLoop (lcF (.nm 29) (ev (run D.FT 11) (.lit (.bl true))) (ev (run D.FT 11) (.bin .add (.var 23) (.call "_law_roll" (.cons (.var 3) (.cons (.lit (.int 30)) .nil))))) (wipeW σ [29])) (items.map fun i => Wv.int (0 + (i : Nat))) (acc.map Wv.int) (dS p) = .ok (.lst (off.map Wv.int)) (dS p')
  | [], acc, p => ⟨acc, p, by simp, rfl⟩
  | i :: r, acc, p => by
    obtain ⟨z, p1, h, e⟩ := roll p (many := 30) (by omega)
    obtain ⟨off, p', q1, q2⟩ := offs a h23 hl r (acc ++ [a + z]) p1
    refine ⟨off, p', by rw [q1]; simp; omega, ?_⟩
    have e1 : lcF (.nm 29) (ev (run D.FT 11) (.lit (.bl true))) (ev (run D.FT 11) (.bin .add (.var 23) (.call "_law_roll" (.cons (.var 3) (.cons (.lit (.int 30)) .nil))))) (wipeW σ [29]) (.int (0 + (i : Nat))) (dS p) = .ok (.lst [.int (a + z)]) (dS p1) := by
      simp [lcF, wipeW, h23, h3, e]
    rw [List.map_cons]
    show (match lcF _ _ _ _ _ _ with
      | .ok (.lst ys) S' => lcLoop _ _ (acc.map Wv.int ++ ys) S'
      | _ => .bad) = _
    rw [e1]
    rw [List.map_append] at q2
    exact q2
theorem t26 {a : Int} (h23 : σ[23]? = some (some (.int a))) (hl : 29 < σ.length) : ∃ (off : List Int) (p' : P3), off.length ≤ 10 ∧ ex (run D.FT 11) b26 σ (dS p) = .nx (σ.set 26 (some (.lst (off.map Wv.int)))) (dS p') := by
  obtain ⟨r, p1, h, e⟩ := roll p (many := 5) (by omega)
  obtain ⟨off, p', q1, q2⟩ := offs h3 a h23 hl (List.range r.toNat) [] p1
  refine ⟨off, p', by rw [q1]; simp; omega, ?_⟩
  have e1 : rng1W (.int r) (dS p1) = .ok (.lst ((List.range r.toNat).map fun i => .int (0 + (i : Nat)))) (dS p1) := if_pos (by omega)
  have e2 : ev (run D.FT 11) (.lc (.nm 29) (.rng1 (.call "_law_roll" (.cons (.var 3) (.cons (.lit (.int 5)) .nil)))) (.lit (.bl true)) (.bin .add (.var 23) (.call "_law_roll" (.cons (.var 3) (.cons (.lit (.int 30)) .nil)))) [("k", 29)]) σ (dS p) = .ok (.lst (off.map Wv.int)) (dS p') := by
    rw [ev_lc]
    simp only [ev_rng1, ev_call, ev_cons, ev_nil, ev_var, ev_lit, h3, bind_ok, e, e1, itW]
    rw [if_pos (by rw [List.length_map, List.length_range, sizeLine_eq]; omega)]
    exact q2
  simp only [b26, ex_set]
  rw [e2]
  rfl
end
end K01

end
section
set_option Elab.async false
set_option linter.all false
set_option maxRecDepth 100000
set_option maxHeartbeats 400000
namespace K01
open PySem Dy L2
/-! ### weeks: how many days of a kind in a run of days -/
/-- the days x in [f, f+N) with x % 7 = w -/
def same (f w : Int) (N : Nat) : List Nat := (List.range N).filter fun i => decide ((f + (i : Nat)) % 7 = w)
theorem same_eq (f w : Int) (hw : 0 ≤ w ∧ w ≤ 6) : ∀ N : Nat, same f w N = (List.range (((N : Int) - (w - f) % 7 + 6) / 7).toNat).map fun j => ((w - f) % 7).toNat + 7 * j := by
  intro N
  induction N with
  | zero =>
    rw [show (((0 : Nat) : Int) - (w - f) % 7 + 6) / 7 = 0 by omega]
    rfl
  | succ N ih =>
    unfold same at ih ⊢
    rw [List.range_succ, List.filter_append, ih, List.filter_cons]
    by_cases c : (f + (N : Nat)) % 7 = w
    · rw [if_pos (decide_eq_true c)]
      have e : ((((N + 1 : Nat) : Int) - (w - f) % 7 + 6) / 7).toNat = (((N : Int) - (w - f) % 7 + 6) / 7).toNat + 1 := by omega
      rw [e, List.range_succ, List.map_append]
      congr 1
      show [N] = [_]
      congr 1
      show N = ((w - f) % 7).toNat + 7 * (((N : Int) - (w - f) % 7 + 6) / 7).toNat
      omega
    · rw [if_neg (by simpa using c)]
      have e : ((((N + 1 : Nat) : Int) - (w - f) % 7 + 6) / 7).toNat = (((N : Int) - (w - f) % 7 + 6) / 7).toNat := by omega
      rw [e, List.filter_nil, List.append_nil]
theorem same_len (f w : Int) (hw : 0 ≤ w ∧ w ≤ 6) (N : Nat) : (same f w N).length = (((N : Int) - (w - f) % 7 + 6) / 7).toNat := by
  rw [same_eq f w hw, List.length_map, List.length_range]
theorem flat_same (f w : Int) (N : Nat) (g : Int → Wv) : ((List.range N).flatMap fun i => if (decide ((f + (i : Nat)) % 7 = w)) = true then [g (f + (i : Nat))] else []) = (same f w N).map fun i => g (f + (i : Nat)) := by
  unfold same
  induction (List.range N) with
  | nil => rfl
  | cons i r ih =>
    rw [List.flatMap_cons, ih, List.filter_cons]
    split <;> rfl
end K01

end
section
set_option Elab.async false
set_option linter.all false
set_option maxRecDepth 100000
set_option maxHeartbeats 400000
namespace K01
open PySem Dy L2
def daysL (y m wd : Int) : List Wv := (same (dn y m 1) wd (ml y m).toNat).map fun i => .int (dn y m 1 + (i : Nat))
def cntL (y m wd : Int) : Int := (ml y m - (wd - dn y m 1) % 7 + 6) / 7
theorem daysL_len (y m wd : Int) (hm : 1 ≤ m ∧ m ≤ 12) (hw : 0 ≤ wd ∧ wd ≤ 6) : ((daysL y m wd).length : Int) = cntL y m wd := by
  have hml := ml_28 y m hm
  unfold daysL cntL
  rw [List.length_map, same_len _ _ hw]
  omega
def placeL (y m wd mn : Int) : Int := if 0 < mn then mn - 1 else cntL y m wd + mn
section
variable {σ : Sl} {S : Sto} {y m d wd mn : Int} (hD : Date y m d) (hw : 0 ≤ wd ∧ wd ≤ 6) (hmn : mn ≠ 0 ∧ -2 ≤ mn ∧ mn ≤ 5) (hl : 28 < σ.length) (h5 : σ[5]? = some (some (.int y))) (h6 : σ[6]? = some (some (.int m))) (h16 : σ[16]? = some (some (.int wd))) (h17 : σ[17]? = some (some (.int mn)))
include hD hw hmn hl h5 h6 h16 h17
theorem t16 : ex (run D.FT 11) b16 σ S = .nx (σ.set 18 (some (.lst (daysL y m wd)))) S := by
  have hml := ml_28 y m hD.hm
  have e1 := r_law_number 9 S (y := y) (m := m) (d := 1) hD.hy hD.hm
  have e2 := r_law_long 10 S (y := y) hD.hm
  simp only [Nat.reduceAdd] at e1 e2
  have hr := dn_range (y := y) (m := m) (d := 1) ⟨hD.hy, hD.hm, by omega⟩
  have c1 := lc_rng2 (cl := run D.FT 11) (g := .nm 28) (a := .call "_law_number" (.cons (.var 5) (.cons (.var 6) (.cons (.lit (.int 1)) .nil)))) (b := .bin .add (.call "_law_number" (.cons (.var 5) (.cons (.var 6) (.cons (.lit (.int 1)) .nil)))) (.call "_law_long" (.cons (.var 5) (.cons (.var 6) .nil)))) (c := .cmp .eq (.bin .mod (.var 28) (.lit (.int 7))) (.var 16)) (e := .var 28) (own := [("one", 28)])
    (σ := σ) (S := S) (lo := dn y m 1) (hi := dn y m 1 + ml y m) (by simp [h5, h6, e1]) (by simp [h5, h6, e1, e2]) (by omega) (by omega) (by omega) (fun x => if decide (x % 7 = wd) = true then [.int x] else []) (fun x _ _ => by
      refine lcF_nm (b := decide (x % 7 = wd)) (y := .int x) ?_ (fun _ => by simp [wipeW, hl])
      simp [wipeW, hl, h16, w_mod, cmpW, ofB, eqD_int])
  rw [flat_same (dn y m 1) wd _ Wv.int, show (dn y m 1 + ml y m - dn y m 1).toNat = (ml y m).toNat by omega] at c1
  simp only [b16, ex_set]
  rw [c1]
  rfl
theorem t17 (h18 : σ[18]? = some (some (.lst (daysL y m wd)))) : ex (run D.FT 11) b17 σ S = .nx (σ.set 19 (some (.int (placeL y m wd mn)))) S := by
  have e := daysL_len y m wd hD.hm hw
  unfold placeL
  by_cases c : 0 < mn <;> simp [b17, h17, h18, c, biW, rd, e]
theorem days_at (j : Nat) (hj : (j : Int) < cntL y m wd) : idxW (.lst (daysL y m wd)) (.int j) S = .ok (.int (dn y m 1 + (wd - dn y m 1) % 7 + 7 * (j : Int))) S := by
  have e := daysL_len y m wd hD.hm hw
  have hlt : j < (daysL y m wd).length := by omega
  have hml := ml_28 y m hD.hm
  have h2 : (daysL y m wd)[j]? = some (.int (dn y m 1 + (wd - dn y m 1) % 7 + 7 * (j : Int))) := by
    unfold daysL at hlt ⊢
    rw [List.length_map, same_len _ _ hw] at hlt
    rw [List.getElem?_map, same_eq _ _ hw, List.getElem?_map, List.getElem?_range hlt]
    show some (Wv.int (dn y m 1 + ((((wd - dn y m 1) % 7).toNat + 7 * j : Nat) : Int))) = some (Wv.int _)
    congr 2
    omega
  have h3 : atI (daysL y m wd) (j : Int) = some (.int (dn y m 1 + (wd - dn y m 1) % 7 + 7 * (j : Int))) := by
    unfold atI ixN
    simp [hlt]
    exact (List.getElem?_eq_some_iff.mp h2).2
  show (match atI (daysL y m wd) (j : Int) with | some w => Res.ok w S | none => .bad) = _
  rw [h3]
theorem t20 (h18 : σ[18]? = some (some (.lst (daysL y m wd)))) (h19 : σ[19]? = some (some (.int (placeL y m wd mn)))) : ex (run D.FT 11) b20 σ S = .nx σ S := by
  have e := daysL_len y m wd hD.hm hw
  have e1 := r_nth_weekday 7 S (y := y) (m := m) (wd := wd) (many := mn) hD.hy hD.hm hw hmn.1
  simp only [Nat.reduceAdd] at e1
  have e2 : nthW y m wd mn = if 0 ≤ placeL y m wd mn ∧ placeL y m wd mn < cntL y m wd then .int (dn y m 1 + (wd - dn y m 1) % 7 + 7 * placeL y m wd mn) else .non := rfl
  rw [e2] at e1
  have nn : eqD .non .non = some true := by rfl
  generalize placeL y m wd mn = q at *
  by_cases c1 : 0 ≤ q
  · obtain ⟨j, rfl⟩ := Int.eq_ofNat_of_zero_le c1
    by_cases c2 : (j : Int) < cntL y m wd
    · rw [if_pos ⟨c1, c2⟩] at e1
      have e3 := days_at (S := S) hD hw hmn hl h5 h6 h16 h17 j c2
      simp [b20, h5, h6, h16, h17, h18, h19, e1, andK_b, biW, rd, e, c2, e3, cmpW, ofB, eqD_int]
    · rw [if_neg (fun z => c2 z.2)] at e1
      simp [b20, h5, h6, h16, h17, h18, h19, e1, andK_b, biW, rd, e, c2, cmpW, ofB, nn]
  · rw [if_neg (fun z => c1 z.1)] at e1
    simp [b20, h5, h6, h16, h17, h18, h19, e1, andK_b, biW, rd, e, c1, cmpW, ofB, nn]
end
end K01

end
section
set_option Elab.async false
set_option linter.all false
set_option maxRecDepth 100000
set_option maxHeartbeats 400000
namespace K01
open PySem Dy L2
section
variable {σ : Sl} {S : Sto} {y m d : Int} (hD : Date y m d) (hl : σ.length = 30) (h8 : σ[8]? = some (some (.int (dn y m d))))
include hD h8
theorem t8 : ex (run D.FT 11) b8 σ S = .nx (σ.set 10 (some (.int (dn y m d - dn y m d % 7 + 3)))) S := by
  simp [b8, h8, w_mod]
include hl
theorem t9 (h10 : σ[10]? = some (some (.int (dn y m d - dn y m d % 7 + 3)))) : ∃ w, ex (run D.FT 11) b9 σ S = .nx (σ.set 11 w) S := by
  have hn := dn_range hD
  by_cases c : dn y m d - dn y m d % 7 + 3 ≤ 3652058
  · have c0 : 0 ≤ dn y m d - dn y m d % 7 + 3 := by omega
    obtain ⟨Y, M, E, hT, hTn⟩ := date_at (n := dn y m d - dn y m d % 7 + 3) ⟨c0, c⟩
    have e1 := r_date_of 7 S hT
    have e2 := r_week_of 6 S (n := dn y m d) hn hT hTn
    have e3 := r_law_number 9 S (y := Y) (m := 1) (d := 1) hT.hy (by omega)
    simp only [Nat.reduceAdd] at e1 e2 e3
    rw [hTn] at e1
    have hin := dn_in hT
    have hY1 : dn Y 1 1 = y0 Y := by
      unfold dn
      show y0 Y + 1 - 1 + 0 = _
      omega
    rw [hY1] at e3
    have y0n : 0 ≤ y0 Y := by have := hT.hy; unfold y0; omega
    have hl28 : 28 < σ.length := by omega
    have hl11 : 11 < σ.length := by omega
    generalize hth : dn y m d - dn y m d % 7 + 3 = T at *
    clear hl
    have g8 : (σ.set 11 (some (.int Y)))[8]? = some (some (.int (dn y m d))) := by rw [List.getElem?_set_ne (by decide), h8]
    have g10 : (σ.set 11 (some (.int Y)))[10]? = some (some (.int T)) := by rw [List.getElem?_set_ne (by decide), h10]
    have g11 : (σ.set 11 (some (.int Y)))[11]? = some (some (.int Y)) := by rw [List.getElem?_set_self hl11]
    have hl' : 28 < (σ.set 11 (some (.int Y))).length := by rw [List.length_set]; exact hl28
    have ix : idxW (.tup [.int Y, .int M, .int E]) (.int 0) S = .ok (.int Y) S := rfl
    refine ⟨some (.int Y), ?_⟩
    generalize hσ : σ.set 11 (some (.int Y)) = τ at *
    have c1 := lc_rng2 (cl := run D.FT 11) (g := .nm 28) (a := .call "_law_number" (.cons (.var 11) (.cons (.lit (.int 1)) (.cons (.lit (.int 1)) .nil)))) (b := .var 10) (c := .cmp .eq (.bin .mod (.var 28) (.lit (.int 7))) (.lit (.int 3))) (e := .lit (.int 1)) (own := [("one", 28)])
      (σ := τ) (S := S) (lo := y0 Y) (hi := T) (by simp [g11, e3]) (by simp [g10]) (by omega) (by omega) (by omega) (fun x => if decide (x % 7 = 3) = true then [.int 1] else []) (fun x _ _ => by
        refine lcF_nm (b := decide (x % 7 = 3)) (y := .int 1) ?_ (fun _ => rfl)
        simp [wipeW, hl', w_mod])
    rw [flat_same (y0 Y) 3 _ (fun _ => Wv.int 1)] at c1
    have e4 : (((same (y0 Y) 3 (T - y0 Y).toNat).map fun i : Nat => Wv.int 1).length : Int) = (T - y0 Y) / 7 := by
      rw [List.length_map, same_len _ _ (by omega)]
      have : T % 7 = 3 := by omega
      omega
    generalize ((same (y0 Y) 3 (T - y0 Y).toNat).map fun i : Nat => Wv.int 1) = L at c1 e4
    have e5 : 1 + (T - y0 Y) / 7 = (T - y0 Y) / 7 + 1 := by omega
    simp [b9, h10, c0, c, e1, ix, hσ, g8, g10, g11, e2, c1, biW, rd, e4, e5, sizeLine_eq, cmpW, ofB, eq_t2]
  · refine ⟨σ[11]'(by omega), ?_⟩
    rw [List.set_getElem_self]
    clear hl
    have c0 : 0 ≤ dn y m d - dn y m d % 7 + 3 := by omega
    simp [b9, h10, c, c0]
end
end K01

end
section
set_option Elab.async false
set_option linter.all false
set_option maxRecDepth 100000
set_option maxHeartbeats 1000000
namespace K01
open PySem Dy L2
theorem go {cl : Clr} {a b : Sm} {σ σ1 : Sl} {S S1 : Sto} (h : ex cl a σ S = .nx σ1 S1) (k : ∃ σ' p', ex cl b σ1 S1 = .nx σ' (dS p')) : ∃ σ' p', ex cl (.seq a b) σ S = .nx σ' (dS p') := by
  obtain ⟨σ', p', e⟩ := k
  exact ⟨σ', p', by rw [ex_seq', h]; exact e⟩
theorem turn_ok (ns : List Int) (p : P3) : ∃ σ' p', ex (run D.FT 11) turnB [some (.arg ns), some (.lst (WDs.map Wv.str)), some (.lst (MOs.map Wv.str)), some (.ref 0), none, none, none, none, none, none, none, none, none, none, none, none, none, none, none, none, none, none, none, none, none, none, none, none, none, none] (dS p) = .nx σ' (dS p') := by
  unfold turnB
  obtain ⟨y, m, d, p1, hY, hD, e0⟩ := t0 (σ := [some (.arg ns), some (.lst (WDs.map Wv.str)), some (.lst (MOs.map Wv.str)), some (.ref 0), none, none, none, none, none, none, none, none, none, none, none, none, none, none, none, none, none, none, none, none, none, none, none, none, none, none]) p rfl
  refine go (σ1 := [some (.arg ns), some (.lst (WDs.map Wv.str)), some (.lst (MOs.map Wv.str)), some (.ref 0), some (.tup [.int y, .int m, .int d]), none, none, none, none, none, none, none, none, none, none, none, none, none, none, none, none, none, none, none, none, none, none, none, none, none]) e0 ?_
  refine go (σ1 := [some (.arg ns), some (.lst (WDs.map Wv.str)), some (.lst (MOs.map Wv.str)), some (.ref 0), some (.tup [.int y, .int m, .int d]), some (.int y), some (.int m), some (.int d), none, none, none, none, none, none, none, none, none, none, none, none, none, none, none, none, none, none, none, none, none, none]) (S1 := dS p1) rfl ?_
  have en := r_law_number 9 (dS p1) (y := y) (m := m) (d := d) hD.hy hD.hm
  have e2 : ex (run D.FT 11) b2 [some (.arg ns), some (.lst (WDs.map Wv.str)), some (.lst (MOs.map Wv.str)), some (.ref 0), some (.tup [.int y, .int m, .int d]), some (.int y), some (.int m), some (.int d), none, none, none, none, none, none, none, none, none, none, none, none, none, none, none, none, none, none, none, none, none, none] (dS p1) = .nx [some (.arg ns), some (.lst (WDs.map Wv.str)), some (.lst (MOs.map Wv.str)), some (.ref 0), some (.tup [.int y, .int m, .int d]), some (.int y), some (.int m), some (.int d), some (.int (dn y m d)), none, none, none, none, none, none, none, none, none, none, none, none, none, none, none, none, none, none, none, none, none] (dS p1) := by
    simp only [Nat.reduceAdd] at en
    simp [b2, en]
  refine go e2 ?_
  refine go (σ1 := [some (.arg ns), some (.lst (WDs.map Wv.str)), some (.lst (MOs.map Wv.str)), some (.ref 0), some (.tup [.int y, .int m, .int d]), some (.int y), some (.int m), some (.int d), some (.int (dn y m d)), none, none, none, none, none, none, none, none, none, none, none, none, none, none, none, none, none, none, none, none, none]) (t3 hY hD rfl rfl rfl rfl rfl) ?_
  refine go (σ1 := [some (.arg ns), some (.lst (WDs.map Wv.str)), some (.lst (MOs.map Wv.str)), some (.ref 0), some (.tup [.int y, .int m, .int d]), some (.int y), some (.int m), some (.int d), some (.int (dn y m d)), none, none, none, none, none, none, none, none, none, none, none, none, none, none, none, none, none, none, none, none, none]) (t4 hY hD rfl rfl rfl rfl rfl) ?_
  refine go (σ1 := [some (.arg ns), some (.lst (WDs.map Wv.str)), some (.lst (MOs.map Wv.str)), some (.ref 0), some (.tup [.int y, .int m, .int d]), some (.int y), some (.int m), some (.int d), some (.int (dn y m d)), none, none, none, none, none, none, none, none, none, none, none, none, none, none, none, none, none, none, none, none, none]) (t5 hY hD rfl rfl rfl rfl rfl) ?_
  obtain ⟨w9, e6⟩ := t6 (σ := [some (.arg ns), some (.lst (WDs.map Wv.str)), some (.lst (MOs.map Wv.str)), some (.ref 0), some (.tup [.int y, .int m, .int d]), some (.int y), some (.int m), some (.int d), some (.int (dn y m d)), none, none, none, none, none, none, none, none, none, none, none, none, none, none, none, none, none, none, none, none, none]) (S := dS p1) hY hD rfl rfl rfl rfl rfl
  refine go (σ1 := [some (.arg ns), some (.lst (WDs.map Wv.str)), some (.lst (MOs.map Wv.str)), some (.ref 0), some (.tup [.int y, .int m, .int d]), some (.int y), some (.int m), some (.int d), some (.int (dn y m d)), w9, none, none, none, none, none, none, none, none, none, none, none, none, none, none, none, none, none, none, none, none]) e6 ?_
  refine go (σ1 := [some (.arg ns), some (.lst (WDs.map Wv.str)), some (.lst (MOs.map Wv.str)), some (.ref 0), some (.tup [.int y, .int m, .int d]), some (.int y), some (.int m), some (.int d), some (.int (dn y m d)), w9, none, none, none, none, none, none, none, none, none, none, none, none, none, none, none, none, none, none, none, none]) (t7 hY hD rfl rfl rfl rfl rfl rfl rfl) ?_
  refine go (σ1 := [some (.arg ns), some (.lst (WDs.map Wv.str)), some (.lst (MOs.map Wv.str)), some (.ref 0), some (.tup [.int y, .int m, .int d]), some (.int y), some (.int m), some (.int d), some (.int (dn y m d)), w9, some (.int (dn y m d - dn y m d % 7 + 3)), none, none, none, none, none, none, none, none, none, none, none, none, none, none, none, none, none, none, none]) (t8 hD rfl) ?_
  obtain ⟨w11, e9⟩ := t9 (σ := [some (.arg ns), some (.lst (WDs.map Wv.str)), some (.lst (MOs.map Wv.str)), some (.ref 0), some (.tup [.int y, .int m, .int d]), some (.int y), some (.int m), some (.int d), some (.int (dn y m d)), w9, some (.int (dn y m d - dn y m d % 7 + 3)), none, none, none, none, none, none, none, none, none, none, none, none, none, none, none, none, none, none, none]) (S := dS p1) hD rfl rfl rfl
  refine go (σ1 := [some (.arg ns), some (.lst (WDs.map Wv.str)), some (.lst (MOs.map Wv.str)), some (.ref 0), some (.tup [.int y, .int m, .int d]), some (.int y), some (.int m), some (.int d), some (.int (dn y m d)), w9, some (.int (dn y m d - dn y m d % 7 + 3)), w11, none, none, none, none, none, none, none, none, none, none, none, none, none, none, none, none, none, none]) e9 ?_
  obtain ⟨many, p2, hm, e10⟩ := t10 (σ := [some (.arg ns), some (.lst (WDs.map Wv.str)), some (.lst (MOs.map Wv.str)), some (.ref 0), some (.tup [.int y, .int m, .int d]), some (.int y), some (.int m), some (.int d), some (.int (dn y m d)), w9, some (.int (dn y m d - dn y m d % 7 + 3)), w11, none, none, none, none, none, none, none, none, none, none, none, none, none, none, none, none, none, none]) p1 rfl
  refine go (σ1 := [some (.arg ns), some (.lst (WDs.map Wv.str)), some (.lst (MOs.map Wv.str)), some (.ref 0), some (.tup [.int y, .int m, .int d]), some (.int y), some (.int m), some (.int d), some (.int (dn y m d)), w9, some (.int (dn y m d - dn y m d % 7 + 3)), w11, some (.int many), none, none, none, none, none, none, none, none, none, none, none, none, none, none, none, none, none]) e10 ?_
  refine go (σ1 := [some (.arg ns), some (.lst (WDs.map Wv.str)), some (.lst (MOs.map Wv.str)), some (.ref 0), some (.tup [.int y, .int m, .int d]), some (.int y), some (.int m), some (.int d), some (.int (dn y m d)), w9, some (.int (dn y m d - dn y m d % 7 + 3)), w11, some (.int many), some (.int (12 * y + m - 1 + many)), none, none, none, none, none, none, none, none, none, none, none, none, none, none, none, none]) (t11 hY hD hm rfl rfl rfl rfl rfl) ?_
  refine go (σ1 := [some (.arg ns), some (.lst (WDs.map Wv.str)), some (.lst (MOs.map Wv.str)), some (.ref 0), some (.tup [.int y, .int m, .int d]), some (.int y), some (.int m), some (.int d), some (.int (dn y m d)), w9, some (.int (dn y m d - dn y m d % 7 + 3)), w11, some (.int many), some (.int (12 * y + m - 1 + many)), some (.tup [.int ((12 * y + m - 1 + many) / 12), .int ((12 * y + m - 1 + many) % 12 + 1)]), none, none, none, none, none, none, none, none, none, none, none, none, none, none, none]) (t12 hY hD hm rfl rfl rfl rfl rfl rfl) ?_
  refine go (σ1 := [some (.arg ns), some (.lst (WDs.map Wv.str)), some (.lst (MOs.map Wv.str)), some (.ref 0), some (.tup [.int y, .int m, .int d]), some (.int y), some (.int m), some (.int d), some (.int (dn y m d)), w9, some (.int (dn y m d - dn y m d % 7 + 3)), w11, some (.int many), some (.int (12 * y + m - 1 + many)), some (.tup [.int ((12 * y + m - 1 + many) / 12), .int ((12 * y + m - 1 + many) % 12 + 1)]), some (goalW y m d many), none, none, none, none, none, none, none, none, none, none, none, none, none, none]) (t13 hY hD hm rfl rfl rfl rfl rfl rfl) ?_
  refine go (σ1 := [some (.arg ns), some (.lst (WDs.map Wv.str)), some (.lst (MOs.map Wv.str)), some (.ref 0), some (.tup [.int y, .int m, .int d]), some (.int y), some (.int m), some (.int d), some (.int (dn y m d)), w9, some (.int (dn y m d - dn y m d % 7 + 3)), w11, some (.int many), some (.int (12 * y + m - 1 + many)), some (.tup [.int ((12 * y + m - 1 + many) / 12), .int ((12 * y + m - 1 + many) % 12 + 1)]), some (goalW y m d many), none, none, none, none, none, none, none, none, none, none, none, none, none, none]) (t14 hY hD hm rfl rfl rfl rfl rfl rfl) ?_
  obtain ⟨wd, mn, p3, hw, hmn, e15⟩ := t15 (σ := [some (.arg ns), some (.lst (WDs.map Wv.str)), some (.lst (MOs.map Wv.str)), some (.ref 0), some (.tup [.int y, .int m, .int d]), some (.int y), some (.int m), some (.int d), some (.int (dn y m d)), w9, some (.int (dn y m d - dn y m d % 7 + 3)), w11, some (.int many), some (.int (12 * y + m - 1 + many)), some (.tup [.int ((12 * y + m - 1 + many) / 12), .int ((12 * y + m - 1 + many) % 12 + 1)]), some (goalW y m d many), none, none, none, none, none, none, none, none, none, none, none, none, none, none]) p2 rfl
  refine go (σ1 := [some (.arg ns), some (.lst (WDs.map Wv.str)), some (.lst (MOs.map Wv.str)), some (.ref 0), some (.tup [.int y, .int m, .int d]), some (.int y), some (.int m), some (.int d), some (.int (dn y m d)), w9, some (.int (dn y m d - dn y m d % 7 + 3)), w11, some (.int many), some (.int (12 * y + m - 1 + many)), some (.tup [.int ((12 * y + m - 1 + many) / 12), .int ((12 * y + m - 1 + many) % 12 + 1)]), some (goalW y m d many), some (.int wd), some (.int mn), none, none, none, none, none, none, none, none, none, none, none, none]) e15 ?_
  refine go (σ1 := [some (.arg ns), some (.lst (WDs.map Wv.str)), some (.lst (MOs.map Wv.str)), some (.ref 0), some (.tup [.int y, .int m, .int d]), some (.int y), some (.int m), some (.int d), some (.int (dn y m d)), w9, some (.int (dn y m d - dn y m d % 7 + 3)), w11, some (.int many), some (.int (12 * y + m - 1 + many)), some (.tup [.int ((12 * y + m - 1 + many) / 12), .int ((12 * y + m - 1 + many) % 12 + 1)]), some (goalW y m d many), some (.int wd), some (.int mn), some (.lst (daysL y m wd)), none, none, none, none, none, none, none, none, none, none, none]) (t16 hD hw hmn (by simp) rfl rfl rfl rfl) ?_
  refine go (σ1 := [some (.arg ns), some (.lst (WDs.map Wv.str)), some (.lst (MOs.map Wv.str)), some (.ref 0), some (.tup [.int y, .int m, .int d]), some (.int y), some (.int m), some (.int d), some (.int (dn y m d)), w9, some (.int (dn y m d - dn y m d % 7 + 3)), w11, some (.int many), some (.int (12 * y + m - 1 + many)), some (.tup [.int ((12 * y + m - 1 + many) / 12), .int ((12 * y + m - 1 + many) % 12 + 1)]), some (goalW y m d many), some (.int wd), some (.int mn), some (.lst (daysL y m wd)), some (.int (placeL y m wd mn)), none, none, none, none, none, none, none, none, none, none]) (t17 hD hw hmn (by simp) rfl rfl rfl rfl rfl) ?_
  obtain ⟨t, b, p4, ht, hb, e18⟩ := t18 (σ := [some (.arg ns), some (.lst (WDs.map Wv.str)), some (.lst (MOs.map Wv.str)), some (.ref 0), some (.tup [.int y, .int m, .int d]), some (.int y), some (.int m), some (.int d), some (.int (dn y m d)), w9, some (.int (dn y m d - dn y m d % 7 + 3)), w11, some (.int many), some (.int (12 * y + m - 1 + many)), some (.tup [.int ((12 * y + m - 1 + many) / 12), .int ((12 * y + m - 1 + many) % 12 + 1)]), some (goalW y m d many), some (.int wd), some (.int mn), some (.lst (daysL y m wd)), some (.int (placeL y m wd mn)), none, none, none, none, none, none, none, none, none, none]) p3 rfl
  refine go (σ1 := [some (.arg ns), some (.lst (WDs.map Wv.str)), some (.lst (MOs.map Wv.str)), some (.ref 0), some (.tup [.int y, .int m, .int d]), some (.int y), some (.int m), some (.int d), some (.int (dn y m d)), w9, some (.int (dn y m d - dn y m d % 7 + 3)), w11, some (.int many), some (.int (12 * y + m - 1 + many)), some (.tup [.int ((12 * y + m - 1 + many) / 12), .int ((12 * y + m - 1 + many) % 12 + 1)]), some (goalW y m d many), some (.int wd), some (.int mn), some (.lst (daysL y m wd)), some (.int (placeL y m wd mn)), some (.int t), some (.int b), none, none, none, none, none, none, none, none]) e18 ?_
  refine go (σ1 := [some (.arg ns), some (.lst (WDs.map Wv.str)), some (.lst (MOs.map Wv.str)), some (.ref 0), some (.tup [.int y, .int m, .int d]), some (.int y), some (.int m), some (.int d), some (.int (dn y m d)), w9, some (.int (dn y m d - dn y m d % 7 + 3)), w11, some (.int many), some (.int (12 * y + m - 1 + many)), some (.tup [.int ((12 * y + m - 1 + many) / 12), .int ((12 * y + m - 1 + many) % 12 + 1)]), some (goalW y m d many), some (.int wd), some (.int mn), some (.lst (daysL y m wd)), some (.int (placeL y m wd mn)), some (.int t), some (.int b), some (.str (timeT t)), none, none, none, none, none, none, none]) (t19 hY hD ht rfl rfl rfl) ?_
  refine go (σ1 := [some (.arg ns), some (.lst (WDs.map Wv.str)), some (.lst (MOs.map Wv.str)), some (.ref 0), some (.tup [.int y, .int m, .int d]), some (.int y), some (.int m), some (.int d), some (.int (dn y m d)), w9, some (.int (dn y m d - dn y m d % 7 + 3)), w11, some (.int many), some (.int (12 * y + m - 1 + many)), some (.tup [.int ((12 * y + m - 1 + many) / 12), .int ((12 * y + m - 1 + many) % 12 + 1)]), some (goalW y m d many), some (.int wd), some (.int mn), some (.lst (daysL y m wd)), some (.int (placeL y m wd mn)), some (.int t), some (.int b), some (.str (timeT t)), none, none, none, none, none, none, none]) (t20 hD hw hmn (by simp) rfl rfl rfl rfl rfl rfl) ?_
  refine go (σ1 := [some (.arg ns), some (.lst (WDs.map Wv.str)), some (.lst (MOs.map Wv.str)), some (.ref 0), some (.tup [.int y, .int m, .int d]), some (.int y), some (.int m), some (.int d), some (.int (dn y m d)), w9, some (.int (dn y m d - dn y m d % 7 + 3)), w11, some (.int many), some (.int (12 * y + m - 1 + many)), some (.tup [.int ((12 * y + m - 1 + many) / 12), .int ((12 * y + m - 1 + many) % 12 + 1)]), some (goalW y m d many), some (.int wd), some (.int mn), some (.lst (daysL y m wd)), some (.int (placeL y m wd mn)), some (.int t), some (.int b), some (.str (timeT t)), none, none, none, none, none, none, none]) (t21 hY hD ht rfl rfl rfl hb rfl rfl) ?_
  refine go (σ1 := [some (.arg ns), some (.lst (WDs.map Wv.str)), some (.lst (MOs.map Wv.str)), some (.ref 0), some (.tup [.int y, .int m, .int d]), some (.int y), some (.int m), some (.int d), some (.int (dn y m d)), w9, some (.int (dn y m d - dn y m d % 7 + 3)), w11, some (.int many), some (.int (12 * y + m - 1 + many)), some (.tup [.int ((12 * y + m - 1 + many) / 12), .int ((12 * y + m - 1 + many) % 12 + 1)]), some (goalW y m d many), some (.int wd), some (.int mn), some (.lst (daysL y m wd)), some (.int (placeL y m wd mn)), some (.int t), some (.int b), some (.str (timeT t)), none, none, none, none, none, none, none]) (t22 hY hD ht rfl rfl rfl) ?_
  refine go (σ1 := [some (.arg ns), some (.lst (WDs.map Wv.str)), some (.lst (MOs.map Wv.str)), some (.ref 0), some (.tup [.int y, .int m, .int d]), some (.int y), some (.int m), some (.int d), some (.int (dn y m d)), w9, some (.int (dn y m d - dn y m d % 7 + 3)), w11, some (.int many), some (.int (12 * y + m - 1 + many)), some (.tup [.int ((12 * y + m - 1 + many) / 12), .int ((12 * y + m - 1 + many) % 12 + 1)]), some (goalW y m d many), some (.int wd), some (.int mn), some (.lst (daysL y m wd)), some (.int (placeL y m wd mn)), some (.int t), some (.int b), some (.str (timeT t)), none, none, none, none, none, none, none]) (t23 hY hD ht rfl rfl rfl rfl) ?_
  refine go (σ1 := [some (.arg ns), some (.lst (WDs.map Wv.str)), some (.lst (MOs.map Wv.str)), some (.ref 0), some (.tup [.int y, .int m, .int d]), some (.int y), some (.int m), some (.int d), some (.int (dn y m d)), w9, some (.int (dn y m d - dn y m d % 7 + 3)), w11, some (.int many), some (.int (12 * y + m - 1 + many)), some (.tup [.int ((12 * y + m - 1 + many) / 12), .int ((12 * y + m - 1 + many) % 12 + 1)]), some (goalW y m d many), some (.int wd), some (.int mn), some (.lst (daysL y m wd)), some (.int (placeL y m wd mn)), some (.int t), some (.int b), some (.str (timeT t)), none, none, none, none, none, none, none]) (t24 hY hD ht rfl rfl rfl rfl) ?_
  obtain ⟨a, long, st, p5, ha, hL, hs, e25⟩ := t25 (σ := [some (.arg ns), some (.lst (WDs.map Wv.str)), some (.lst (MOs.map Wv.str)), some (.ref 0), some (.tup [.int y, .int m, .int d]), some (.int y), some (.int m), some (.int d), some (.int (dn y m d)), w9, some (.int (dn y m d - dn y m d % 7 + 3)), w11, some (.int many), some (.int (12 * y + m - 1 + many)), some (.tup [.int ((12 * y + m - 1 + many) / 12), .int ((12 * y + m - 1 + many) % 12 + 1)]), some (goalW y m d many), some (.int wd), some (.int mn), some (.lst (daysL y m wd)), some (.int (placeL y m wd mn)), some (.int t), some (.int b), some (.str (timeT t)), none, none, none, none, none, none, none]) p4 rfl
  refine go (σ1 := [some (.arg ns), some (.lst (WDs.map Wv.str)), some (.lst (MOs.map Wv.str)), some (.ref 0), some (.tup [.int y, .int m, .int d]), some (.int y), some (.int m), some (.int d), some (.int (dn y m d)), w9, some (.int (dn y m d - dn y m d % 7 + 3)), w11, some (.int many), some (.int (12 * y + m - 1 + many)), some (.tup [.int ((12 * y + m - 1 + many) / 12), .int ((12 * y + m - 1 + many) % 12 + 1)]), some (goalW y m d many), some (.int wd), some (.int mn), some (.lst (daysL y m wd)), some (.int (placeL y m wd mn)), some (.int t), some (.int b), some (.str (timeT t)), some (.int a), some (.int long), some (.int st), none, none, none, none]) e25 ?_
  obtain ⟨off, p6, ho, e26⟩ := t26 (σ := [some (.arg ns), some (.lst (WDs.map Wv.str)), some (.lst (MOs.map Wv.str)), some (.ref 0), some (.tup [.int y, .int m, .int d]), some (.int y), some (.int m), some (.int d), some (.int (dn y m d)), w9, some (.int (dn y m d - dn y m d % 7 + 3)), w11, some (.int many), some (.int (12 * y + m - 1 + many)), some (.tup [.int ((12 * y + m - 1 + many) / 12), .int ((12 * y + m - 1 + many) % 12 + 1)]), some (goalW y m d many), some (.int wd), some (.int mn), some (.lst (daysL y m wd)), some (.int (placeL y m wd mn)), some (.int t), some (.int b), some (.str (timeT t)), some (.int a), some (.int long), some (.int st), none, none, none, none]) p5 rfl (a := a) rfl (by simp)
  refine go (σ1 := [some (.arg ns), some (.lst (WDs.map Wv.str)), some (.lst (MOs.map Wv.str)), some (.ref 0), some (.tup [.int y, .int m, .int d]), some (.int y), some (.int m), some (.int d), some (.int (dn y m d)), w9, some (.int (dn y m d - dn y m d % 7 + 3)), w11, some (.int many), some (.int (12 * y + m - 1 + many)), some (.tup [.int ((12 * y + m - 1 + many) / 12), .int ((12 * y + m - 1 + many) % 12 + 1)]), some (goalW y m d many), some (.int wd), some (.int mn), some (.lst (daysL y m wd)), some (.int (placeL y m wd mn)), some (.int t), some (.int b), some (.str (timeT t)), some (.int a), some (.int long), some (.int st), some (.lst (off.map .int)), none, none, none]) e26 ?_
  refine go (σ1 := [some (.arg ns), some (.lst (WDs.map Wv.str)), some (.lst (MOs.map Wv.str)), some (.ref 0), some (.tup [.int y, .int m, .int d]), some (.int y), some (.int m), some (.int d), some (.int (dn y m d)), w9, some (.int (dn y m d - dn y m d % 7 + 3)), w11, some (.int many), some (.int (12 * y + m - 1 + many)), some (.tup [.int ((12 * y + m - 1 + many) / 12), .int ((12 * y + m - 1 + many) % 12 + 1)]), some (goalW y m d many), some (.int wd), some (.int mn), some (.lst (daysL y m wd)), some (.int (placeL y m wd mn)), some (.int t), some (.int b), some (.str (timeT t)), some (.int a), some (.int long), some (.int st), some (.lst (off.map .int)), some (.lst ((works off a).map .int)), none, none]) (t27 ha hL ho (by simp) rfl rfl) ?_
  refine go (σ1 := [some (.arg ns), some (.lst (WDs.map Wv.str)), some (.lst (MOs.map Wv.str)), some (.ref 0), some (.tup [.int y, .int m, .int d]), some (.int y), some (.int m), some (.int d), some (.int (dn y m d)), w9, some (.int (dn y m d - dn y m d % 7 + 3)), w11, some (.int many), some (.int (12 * y + m - 1 + many)), some (.tup [.int ((12 * y + m - 1 + many) / 12), .int ((12 * y + m - 1 + many) % 12 + 1)]), some (goalW y m d many), some (.int wd), some (.int mn), some (.lst (daysL y m wd)), some (.int (placeL y m wd mn)), some (.int t), some (.int b), some (.str (timeT t)), some (.int a), some (.int long), some (.int st), some (.lst (off.map .int)), some (.lst ((works off a).map .int)), none, none]) (t28 ha hL hs ho (by simp) rfl rfl rfl rfl rfl) ?_
  refine go (σ1 := [some (.arg ns), some (.lst (WDs.map Wv.str)), some (.lst (MOs.map Wv.str)), some (.ref 0), some (.tup [.int y, .int m, .int d]), some (.int y), some (.int m), some (.int d), some (.int (dn y m d)), w9, some (.int (dn y m d - dn y m d % 7 + 3)), w11, some (.int many), some (.int (12 * y + m - 1 + many)), some (.tup [.int ((12 * y + m - 1 + many) / 12), .int ((12 * y + m - 1 + many) % 12 + 1)]), some (goalW y m d many), some (.int wd), some (.int mn), some (.lst (daysL y m wd)), some (.int (placeL y m wd mn)), some (.int t), some (.int b), some (.str (timeT t)), some (.int a), some (.int long), some (.int st), some (.lst (off.map .int)), some (.lst ((works off a).map .int)), none, none]) (t29 ha hL hs ho (by simp) rfl rfl rfl rfl rfl) ?_
  exact ⟨_, p6, rfl⟩
end K01

end
section
set_option Elab.async false
set_option linter.all false
set_option maxRecDepth 100000
set_option maxHeartbeats 1000000
namespace K01
open PySem Dy L2
theorem ft_law : D.FT "law" = some d_law := by rfl
theorem plain : Plain := by
  intro ns _ _
  obtain ⟨p, e1⟩ := r_rounds 9 ns
  simp only [Nat.reduceAdd] at e1
  obtain ⟨σ', p', e2⟩ := turn_ok ns p
  have e3 := plain_ok p'
  refine ⟨lamS p', ?_⟩
  show run D.FT 12 "law" [.arg ns] [] = _
  rw [run_at ft_law rfl, law_eq]
  have hf : ex (run D.FT 11) (.forr (.nm 3) (.call "_law_rounds" (.cons (.var 0) (.cons (.lit (.int 1)) .nil))) turnB) [some (.arg ns), some (.lst (WDs.map Wv.str)), some (.lst (MOs.map Wv.str)), none, none, none, none, none, none, none, none, none, none, none, none, none, none, none, none, none, none, none, none, none, none, none, none, none, none, none] [] = .nx σ' (dS p') := by
    rw [ex_forr]
    have h : ev (run D.FT 11) (.call "_law_rounds" (.cons (.var 0) (.cons (.lit (.int 1)) .nil))) [some (.arg ns), some (.lst (WDs.map Wv.str)), some (.lst (MOs.map Wv.str)), none, none, none, none, none, none, none, none, none, none, none, none, none, none, none, none, none, none, none, none, none, none, none, none, none, none, none] [] = .ok (.lst [.ref 0]) (dS p) := by simp [e1]
    rw [h]
    simp only [bs_ok, itW]
    rw [if_pos (by rw [sizeLine_eq]; simp)]
    simp only [fLoop, asg_nm]
    show (match ex (run D.FT 11) turnB _ (dS p) with
      | .nx σ S => SR.nx σ S
      | .ct σ S => .nx σ S
      | .bk σ S => .nx σ S
      | r => r) = _
    simp only [List.set]
    rw [e2]
  simp only [ex_seq']
  have h0 : ∀ (a b : E) (σ1 : Sl), ex (run D.FT 11) (.par2 1 2 a b) (startW d_law.ns [.arg ns]) [] = .nx σ1 [] → ex (run D.FT 11) (.par2 1 2 a b) (startW d_law.ns [.arg ns]) [] = .nx σ1 [] := fun _ _ _ h => h
  rw [h0 _ _ [some (.arg ns), some (.lst (WDs.map Wv.str)), some (.lst (MOs.map Wv.str)), none, none, none, none, none, none, none, none, none, none, none, none, none, none, none, none, none, none, none, none, none, none, none, none, none, none, none] (by simp [sizeLine_eq, startW, d_law, WDs, MOs]), then_nx, hf, then_nx]
  simp [e3]
theorem law_holds : PySem.Challenge.rw_diarystack_k01_days_and_dates.Holds := holds plain
end K01

end
theorem PySem.Challenge.cw_diarystack_k01_days_and_dates_holds : PySem.Challenge.rw_diarystack_k01_days_and_dates.Holds :=
  K01.law_holds
