import PyProof.Rows.All
import Wide.All
import OpenK.AllK
import Wide.FinOn
import HandS.ForMost
import HandS.ForExc
import HandS.AnyAll
import HandS.Style
import HandS.Flow
import HandS.Wide
import HandS.TupAny
import HandS.TupMul
import HandS.Deep
import HandS.TupLe
import HandS.IsInst
import KE.DataEq
import KE.DataCmp
import KE.DataMinMax
import KE.DataAny
import KE.DataFind
import KE.SortData
import HandS.Conv
import HandS.Walk
import HandS.Zip
import HandS.Rev
import HandS.RevRange
import HandS.WordsExc
import HandS.ExcOwn
import HandS.TryOnly
import HandS.EndTab
import PySem.Challenge.RW_allsounded_k33_phrases_told_three_times
set_option Elab.async false
set_option linter.all false
set_option maxRecDepth 100000
set_option maxHeartbeats 4000000
/-! Dl: a program logic on pure data over the hand layer. -/
namespace Dl
open PySem PySem.Spec PyProof.Rows L2
abbrev D := PyData

/-! ### data in the heap -/
mutual
inductive Rp (K : PySem.W.Frag) (I : Hp) : V → D → Prop
  | non : Rp K I .non .none
  | bl (b : Bool) : Rp K I (.bl b) (.bool b)
  | int (i : Int) : Rp K I (.int i) (.int i)
  | str (x : Str) : Rp K I (.str x) (.str x)
  | lst {a : Addr} {xs : List V} {ds : List D} : I a = some (.lst xs) → RpA K I xs ds → Rp K I (.ref a) (.list ds)
  | tup {a : Addr} {xs : List V} {ds : List D} : SqT K I a xs → RpA K I xs ds → Rp K I (.ref a) (.tuple ds)
inductive RpA (K : PySem.W.Frag) (I : Hp) : List V → List D → Prop
  | nil : RpA K I [] []
  | cons {v : V} {vs : List V} {d : D} {ds : List D} : Rp K I v d → RpA K I vs ds → RpA K I (v :: vs) (d :: ds)
end
theorem same_rd {H H' : Hp} {a : Addr} {u : HO} (e : Same H H') (h : Rd H a u) : Rd H' a u := by
  rcases h with h | ⟨o, h⟩
  · exact .inl (e _ _ h)
  · exact .inr ⟨o, e _ _ h⟩
theorem same_t {K : PySem.W.Frag} {H H' : Hp} {a : Addr} {xs : List V} (e : Same H H') (h : SqT K H a xs) : SqT K H' a xs := by
  rcases h with h | h
  · exact .inl (same_rd e h)
  · exact .inr h
section
variable {K : PySem.W.Frag} {I I' : Hp}
mutual
theorem Rp.mono0 (e : Same I I') : ∀ (d : D) {v : V}, Rp K I v d → Rp K I' v d
  | .none, _, h => by cases h; exact .non
  | .bool b, _, h => by cases h; exact .bl b
  | .int i, _, h => by cases h; exact .int i
  | .str x, _, h => by cases h; exact .str x
  | .list ds, _, h => by
    cases h with
    | lst h1 h2 => exact .lst (e _ _ h1) (RpA.mono0 e ds h2)
  | .tuple ds, _, h => by
    cases h with
    | tup h1 h2 => exact .tup (same_t e h1) (RpA.mono0 e ds h2)
  | .dict _, _, h => by cases h
theorem RpA.mono0 (e : Same I I') : ∀ (ds : List D) {vs : List V}, RpA K I vs ds → RpA K I' vs ds
  | [], _, h => by cases h; exact .nil
  | d :: ds, _, h => by
    cases h with
    | cons h1 h2 => exact .cons (Rp.mono0 e d h1) (RpA.mono0 e ds h2)
end
theorem Rp.mono {d : D} {v : V} (h : Rp K I v d) (e : Same I I') : Rp K I' v d := Rp.mono0 e d h
theorem RpA.mono {ds : List D} {vs : List V} (h : RpA K I vs ds) (e : Same I I') : RpA K I' vs ds := RpA.mono0 e ds h
theorem RpA.length : ∀ {vs : List V} {ds : List D}, RpA K I vs ds → vs.length = ds.length
  | _, [], h => by cases h; rfl
  | _, _ :: ds, h => by
    cases h with
    | cons h1 h2 => simp [RpA.length h2]
theorem RpA.get : ∀ {vs : List V} {ds : List D} {i : Nat} {v : V}, RpA K I vs ds → vs[i]? = some v → ∃ d, ds[i]? = some d ∧ Rp K I v d
  | _, [], _, _, h, e => by cases h; simp at e
  | _, d :: ds, 0, _, h, e => by
    cases h with
    | cons h1 h2 =>
      simp at e
      subst e
      exact ⟨d, rfl, h1⟩
  | _, d :: ds, i + 1, v, h, e => by
    cases h with
    | cons h1 h2 =>
      obtain ⟨x, e1, e2⟩ := RpA.get (i := i) (v := v) h2 (by simpa using e)
      exact ⟨x, by simpa using e1, e2⟩
theorem RpA.get' : ∀ {vs : List V} {ds : List D} {i : Nat} {d : D}, RpA K I vs ds → ds[i]? = some d → ∃ v, vs[i]? = some v ∧ Rp K I v d
  | _, [], _, _, h, e => by simp at e
  | _, d :: ds, 0, _, h, e => by
    cases h with
    | cons h1 h2 =>
      simp at e
      subst e
      exact ⟨_, rfl, h1⟩
  | _, d :: ds, i + 1, v, h, e => by
    cases h with
    | cons h1 h2 =>
      obtain ⟨x, e1, e2⟩ := RpA.get' (i := i) (d := v) h2 (by simpa using e)
      exact ⟨x, by simpa using e1, e2⟩
theorem RpA.append : ∀ {vs vs' : List V} {ds ds' : List D}, RpA K I vs ds → RpA K I vs' ds' → RpA K I (vs ++ vs') (ds ++ ds')
  | _, _, [], _, h, h' => by cases h; exact h'
  | _, _, _ :: ds, _, h, h' => by
    cases h with
    | cons h1 h2 => exact .cons h1 (RpA.append h2 h')
theorem RpA.drop : ∀ {vs : List V} {ds : List D} (n : Nat), RpA K I vs ds → RpA K I (vs.drop n) (ds.drop n)
  | _, _, 0, h => h
  | _, [], _ + 1, h => by cases h; exact .nil
  | _, _ :: ds, n + 1, h => by
    cases h with
    | cons h1 h2 => exact RpA.drop n h2
theorem RpA.take : ∀ {vs : List V} {ds : List D} (n : Nat), RpA K I vs ds → RpA K I (vs.take n) (ds.take n)
  | _, _, 0, h => .nil
  | _, [], _ + 1, h => by cases h; exact .nil
  | _, _ :: ds, n + 1, h => by
    cases h with
    | cons h1 h2 => exact .cons h1 (RpA.take n h2)
theorem RpA.set : ∀ {vs : List V} {ds : List D} {v : V} {d : D} (n : Nat), RpA K I vs ds → Rp K I v d → RpA K I (vs.set n v) (ds.set n d)
  | _, [], _, _, _, h, _ => by cases h; exact .nil
  | _, _ :: ds, _, _, 0, h, r => by
    cases h with
    | cons h1 h2 => exact .cons r h2
  | _, _ :: ds, _, _, n + 1, h, r => by
    cases h with
    | cons h1 h2 => exact .cons h1 (RpA.set n h2 r)
theorem RpA.replicate {v : V} {d : D} (h : Rp K I v d) : ∀ n, RpA K I (List.replicate n v) (List.replicate n d)
  | 0 => .nil
  | n + 1 => .cons h (RpA.replicate h n)
theorem RpA.flatten {vs : List V} {ds : List D} (h : RpA K I vs ds) : ∀ n, RpA K I (List.replicate n vs).flatten (List.replicate n ds).flatten
  | 0 => .nil
  | n + 1 => RpA.append h (RpA.flatten h n)
theorem RpA.reverse : ∀ {vs : List V} {ds : List D}, RpA K I vs ds → RpA K I vs.reverse ds.reverse
  | _, [], h => by cases h; exact .nil
  | _, _ :: ds, h => by
    cases h with
    | cons h1 h2 =>
      rw [List.reverse_cons, List.reverse_cons]
      exact RpA.append (RpA.reverse h2) (.cons h1 .nil)
theorem RpA.ints : ∀ {ns : List Int} {vs : List V}, RpA K I vs (ns.map PyData.int) → vs = ns.map V.int
  | [], _, h => by cases h; rfl
  | n :: ns, _, h => by
    cases h with
    | cons h1 h2 =>
      cases h1
      rw [RpA.ints h2]
      rfl
theorem RpA.ofInts : ∀ (ns : List Int), RpA K I (ns.map V.int) (ns.map PyData.int)
  | [] => .nil
  | n :: ns => .cons (.int n) (RpA.ofInts ns)
theorem RpA.bools : ∀ {ns : List Bool} {vs : List V}, RpA K I vs (ns.map PyData.bool) → vs = ns.map V.bl
  | [], _, h => by cases h; rfl
  | n :: ns, _, h => by
    cases h with
    | cons h1 h2 =>
      cases h1
      rw [RpA.bools h2]
      rfl
theorem RpA.strs : ∀ {ns : List Str} {vs : List V}, RpA K I vs (ns.map PyData.str) → vs = ns.map V.str
  | [], _, h => by cases h; rfl
  | n :: ns, _, h => by
    cases h with
    | cons h1 h2 =>
      cases h1
      rw [RpA.strs h2]
      rfl
mutual
theorem Rp.dp0 : ∀ (d : D) {v : V}, Rp K I v d → Dp K I v d
  | .none, _, h => by cases h; exact .non
  | .bool b, _, h => by cases h; exact .bl b
  | .int i, _, h => by cases h; exact .int i
  | .str x, _, h => by cases h; exact .str x
  | .list ds, _, h => by
    cases h with
    | lst h1 h2 => exact .lst (SqL.of h1) (RpA.dp0 ds h2)
  | .tuple ds, _, h => by
    cases h with
    | tup h1 h2 => exact .tup h1 (RpA.dp0 ds h2)
  | .dict _, _, h => by cases h
theorem RpA.dp0 : ∀ (ds : List D) {vs : List V}, RpA K I vs ds → DpAll K I vs ds
  | [], _, h => by cases h; exact .nil
  | d :: ds, _, h => by
    cases h with
    | cons h1 h2 => exact .cons (Rp.dp0 d h1) (RpA.dp0 ds h2)
end
theorem Rp.dp {d : D} {v : V} (h : Rp K I v d) : Dp K I v d := Rp.dp0 d h
end

/-! ### worlds -/
/-- I: what is settled and never changes; H: all that is tracked -/
structure Wd where
  I : Hp
  H : Hp
/-- tables of code objects may have grown -/
def Ext (H H' : Hp) : Prop := ∀ a o, H a = some o → (∀ ps, o ≠ .tbl ps) → H' a = some o
theorem Ext.refl (H : Hp) : Ext H H := fun _ _ h _ => h
theorem Ext.trans {H H1 H2 : Hp} (a : Ext H H1) (b : Ext H1 H2) : Ext H H2 := fun x o h n => b x o (a x o h n) n
theorem same_ext {H H' : Hp} (a : Same H H') : Ext H H' := fun x o h _ => a x o h
theorem same_new {H : Hp} {p : Addr} {o : HO} (h : H p = none) : Same H (upd H p o) := fun a u e => by
  rw [upd_ne (ne_of_none e h)]
  exact e
structure WOk (tabs : List Addr) (W : Wd) : Prop where
  im : Same W.I W.H
  nt : ∀ a ps, W.I a ≠ some (.tbl ps)
  tb : ∀ P ∈ tabs, GxR.TabG W.H P
structure Le (W W' : Wd) : Prop where
  im : Same W.I W'.I
  gr : ∀ p, W'.H p = none → W.H p = none
  fr : ∀ p, W'.I p ≠ none → W.I p ≠ none ∨ W.H p = none
theorem Le.refl (W : Wd) : Le W W := ⟨Same.refl _, fun _ h => h, fun _ h => .inl h⟩
theorem Le.trans {W W1 W2 : Wd} (a : Le W W1) (b : Le W1 W2) : Le W W2 where
  im := a.im.trans b.im
  gr := fun p h => a.gr p (b.gr p h)
  fr := fun p h => by
    rcases b.fr p h with h | h
    · exact a.fr p h
    · exact .inr (a.gr p h)
/-- not settled before, known before: not settled now -/
theorem Le.keep {W W' : Wd} (a : Le W W') {p : Addr} (h : W.I p = none) (h' : W.H p ≠ none) : W'.I p = none := by
  cases e : W'.I p with
  | none => rfl
  | some o =>
    rcases a.fr p (by rw [e]; simp) with z | z
    · exact absurd h z
    · exact absurd z h'

/-! ### slots -/
inductive SV where
  | any
  | imm (d : D)
  | own (ds : List D)
  | st (ns : List Int)
/-- the draws' list -/
def StAt (K : PySem.W.Frag) (W : Wd) (p : Addr) (ns : List Int) : Prop :=
  W.I p = none ∧ ∃ (a b c : Int) (q : V) (xs : List Int), W.H p = some (.lst [.int a, .int b, q, .int c]) ∧ Rp K W.I q (.list (xs.map PyData.int)) ∧ 0 ≤ b ∧ ns = xs
/-- what goes through a body: B what stays as it is, J what was settled, W0 the entry, s the draws' list -/
structure Fr where
  B : Hp
  J : Hp
  W0 : Wd
  s : Option Addr
  l : List Int := []
def SlotOk (K : PySem.W.Frag) (F : Fr) (W : Wd) (o : Option V) : SV → Prop
  | .any => True
  | .imm d => ∃ v, o = some v ∧ Rp K W.I v d
  | .own ds => ∃ p vs, o = some (.ref p) ∧ W.I p = none ∧ W.H p = some (.lst vs) ∧ RpA K W.I vs ds ∧ F.W0.H p = none ∧ F.B p = none ∧ F.s ≠ some p
  | .st ns => ∃ p, o = some (.ref p) ∧ F.s = some p ∧ F.l = ns
def ownAt (Γ : List SV) (σ : L2.St) (i : Nat) (p : Addr) : Prop := ∃ ds, Γ[i]? = some (.own ds) ∧ σ[i]? = some (some (.ref p))

/-- what is one for the whole law -/
structure Gb where
  P : Program
  w : World
  K : PySem.W.Frag
  mg : Str → Option Value
  base : Heap
  tabs : List Addr
structure Cfg extends Gb where
  N : List Str
  sc : Scope
  k : Nat
  cd : Value
  hot : Bool
  fnc : Str → Bool

structure RetOk (C : Cfg) (F : Fr) (W : Wd) : Prop where
  ok : WOk C.tabs W
  up : Le F.W0 W
  bs : Ext F.B W.H
  bh : ∀ p, W.H p = none → F.B p = none
  js : Same F.J W.I
  sb : ∀ p, F.s = some p → F.B p = none ∧ StAt C.K W p F.l
structure Sto (C : Cfg) (F : Fr) (W : Wd) (σ : L2.St) (Γ : List SV) : Prop extends RetOk C F W where
  len : σ.length = Γ.length
  sl : ∀ (i : Nat) (x : SV), Γ[i]? = some x → ∃ o, σ[i]? = some o ∧ SlotOk C.K F W o x
  od : ∀ (i j : Nat) (p : Addr), ownAt Γ σ i p → ownAt Γ σ j p → i = j

/-! ### where the code stands -/
structure OkX (C : Cfg) (X : Cx) : Prop where
  prog : X.prog = C.P
  w : X.w = C.w
  K : X.K = C.K
  mg : X.mg = C.mg
  base : X.base = C.base
  N : X.N = C.N
  sc : X.env.scope = C.sc
  cd : X.env.code = C.cd
  nd : X.N.Nodup
  fn : ∀ x, C.fnc x = true → X.fn x = true
  calm : C.hot = false → X.calm = true ∧ Room C.k X.A
/-- a def's body, not a comprehension's block -/
structure Body (X : Cx) : Prop where
  hs : X.stack = X.env :: X.outer
  hf : X.env.frame = some X.env.locals
  ex : X.ex = []

def tE (C : Cfg) (e : Expr) : TE := fun σ H Q => ∀ X, OkX C X → ∀ pins s, Inv X pins σ H s → wpAny (model X.prog X.w) X.A (eval e X.env) (EP X pins σ Q) X.xe s
def tT (C : Cfg) (e : Expr) : TT := fun σ H Q => ∀ X, OkX C X → ∀ pins s, Inv X pins σ H s → wpAny (model X.prog X.w) X.A (isTrue e X.env (eval e X.env)) (TP X pins σ Q) X.xe s
def tW (C : Cfg) (e : Expr) : TT := fun σ H Q => ∀ X, OkX C X → ∀ wh pins s, Inv X pins σ H s → wpAny (model X.prog X.w) X.A (isTrue e X.env wh) (TP X pins σ Q) X.xe s
def tA (C : Cfg) (es : List Expr) : TA := fun σ H Q => ∀ X, OkX C X → ∀ (pos : Pos) pins s, Inv X pins σ H s → wpAny (model X.prog X.w) X.A (spliced (backTo pos (starEach es X.env))) (AP X pins σ Q) X.xe s
section
variable {C : Cfg} {X : Cx} {e : Expr} {es : List Expr} {σ : L2.St} {H : Hp}
theorem pe_t (ok : OkX C X) : PE X e (tE C e) := ⟨fun pins s _ _ _ I h => h X ok pins s I⟩
theorem pt_t (ok : OkX C X) : PT X e (tT C e) := ⟨fun pins s _ _ _ I h => h X ok pins s I⟩
theorem pw_t (ok : OkX C X) : PW X e (tW C e) := ⟨fun wh pins s _ _ _ I h => h X ok wh pins s I⟩
theorem pa_t (ok : OkX C X) : PA X es (tA C es) := ⟨fun pos pins s _ _ _ I h => h X ok pos pins s I⟩
theorem tE_of {t : Cx → TE} {Q : VK} (h : ∀ X, OkX C X → PE X e (t X)) (q : ∀ X, OkX C X → t X σ H Q) : tE C e σ H Q := fun X ok pins s I => (h X ok).run pins s σ H Q I (q X ok)
theorem tT_of {t : Cx → TT} {Q : Bool → Hp → Prop} (h : ∀ X, OkX C X → PT X e (t X)) (q : ∀ X, OkX C X → t X σ H Q) : tT C e σ H Q := fun X ok pins s I => (h X ok).run pins s σ H Q I (q X ok)
theorem tW_of {t : Cx → TT} {Q : Bool → Hp → Prop} (h : ∀ X, OkX C X → PW X e (t X)) (q : ∀ X, OkX C X → t X σ H Q) : tW C e σ H Q := fun X ok wh pins s I => (h X ok).run wh pins s σ H Q I (q X ok)
theorem tA_of {t : Cx → TA} {Q : List V → Hp → Prop} (h : ∀ X, OkX C X → PA X es (t X)) (q : ∀ X, OkX C X → t X σ H Q) : tA C es σ H Q := fun X ok pos pins s I => (h X ok).run pos pins s σ H Q I (q X ok)
end

/-! ### the judgements of expressions -/
/-- e ends in a value of which Post holds; what is stored stays stored -/
def Ev (C : Cfg) (Γ : List SV) (e : Expr) (Post : D → Prop) : Prop :=
  ∀ (F : Fr) (W : Wd) (σ : L2.St), Sto C F W σ Γ → ∀ Q : VK, (∀ W' v d, Sto C F W' σ Γ → Le W W' → Rp C.K W'.I v d → Post d → Q v W'.H) → tE C e σ W.H Q
/-- e is a new list that none else has -/
def EvL (C : Cfg) (Γ : List SV) (e : Expr) (Post : List D → Prop) : Prop :=
  ∀ (F : Fr) (W : Wd) (σ : L2.St), Sto C F W σ Γ → ∀ Q : VK, (∀ W' p vs ds, Sto C F W' σ Γ → Le W W' → W.H p = none → W'.I p = none → W'.H p = some (.lst vs) → RpA C.K W'.I vs ds → Post ds → Q (.ref p) W'.H) → tE C e σ W.H Q
def EvT (C : Cfg) (Γ : List SV) (e : Expr) (Post : Bool → Prop) : Prop :=
  ∀ (F : Fr) (W : Wd) (σ : L2.St), Sto C F W σ Γ → ∀ Q : Bool → Hp → Prop, (∀ W' b, Sto C F W' σ Γ → Le W W' → Post b → Q b W'.H) → tT C e σ W.H Q
def EvW (C : Cfg) (Γ : List SV) (e : Expr) (Post : Bool → Prop) : Prop :=
  ∀ (F : Fr) (W : Wd) (σ : L2.St), Sto C F W σ Γ → ∀ Q : Bool → Hp → Prop, (∀ W' b, Sto C F W' σ Γ → Le W W' → Post b → Q b W'.H) → tW C e σ W.H Q
def EvA (C : Cfg) (Γ : List SV) (es : List Expr) (Post : List D → Prop) : Prop :=
  ∀ (F : Fr) (W : Wd) (σ : L2.St), Sto C F W σ Γ → ∀ Q : List V → Hp → Prop, (∀ W' vs ds, Sto C F W' σ Γ → Le W W' → RpA C.K W'.I vs ds → Post ds → Q vs W'.H) → tA C es σ W.H Q
/-- a value that may be read here: settled, or a slot's own list -/
def Rdo (C : Cfg) (Γ : List SV) (σ : L2.St) (W : Wd) (v : V) (d : D) : Prop :=
  Rp C.K W.I v d ∨ ∃ (ds : List D) (i : Nat) (p : Addr), d = .list ds ∧ v = .ref p ∧ Γ[i]? = some (.own ds) ∧ σ[i]? = some (some (.ref p))
/-- what it is at the moment -/
def Now (K : PySem.W.Frag) (W : Wd) (v : V) (d : D) : Prop :=
  Rp K W.I v d ∨ ∃ (ds : List D) (p : Addr) (vs : List V), d = .list ds ∧ v = .ref p ∧ W.H p = some (.lst vs) ∧ RpA K W.I vs ds
inductive NowA (K : PySem.W.Frag) (W : Wd) : List V → List D → Prop
  | nil : NowA K W [] []
  | cons {v : V} {vs : List V} {d : D} {ds : List D} : Now K W v d → NowA K W vs ds → NowA K W (v :: vs) (d :: ds)
inductive RdoA (C : Cfg) (Γ : List SV) (σ : L2.St) (W : Wd) : List V → List D → Prop
  | nil : RdoA C Γ σ W [] []
  | cons {v : V} {vs : List V} {d : D} {ds : List D} : Rdo C Γ σ W v d → RdoA C Γ σ W vs ds → RdoA C Γ σ W (v :: vs) (d :: ds)
def EvO (C : Cfg) (Γ : List SV) (e : Expr) (Post : D → Prop) : Prop :=
  ∀ (F : Fr) (W : Wd) (σ : L2.St), Sto C F W σ Γ → ∀ Q : VK, (∀ W' v d, Sto C F W' σ Γ → Le W W' → Rdo C Γ σ W' v d → Post d → Q v W'.H) → tE C e σ W.H Q
def EvAO (C : Cfg) (Γ : List SV) (es : List Expr) (Post : List D → Prop) : Prop :=
  ∀ (F : Fr) (W : Wd) (σ : L2.St), Sto C F W σ Γ → ∀ Q : List V → Hp → Prop, (∀ W' vs ds, Sto C F W' σ Γ → Le W W' → RdoA C Γ σ W' vs ds → Post ds → Q vs W'.H) → tA C es σ W.H Q

section
variable {C : Cfg} {Γ : List SV} {e : Expr} {es : List Expr} {F : Fr} {W W' : Wd} {σ : L2.St}
theorem Ev.imp {P Q : D → Prop} (h : Ev C Γ e P) (hi : ∀ d, P d → Q d) : Ev C Γ e Q := fun F W σ S K k => h F W σ S K fun W' v d a b c p => k W' v d a b c (hi d p)
theorem EvL.imp {P Q : List D → Prop} (h : EvL C Γ e P) (hi : ∀ d, P d → Q d) : EvL C Γ e Q := fun F W σ S K k => h F W σ S K fun W' p vs ds a b c d f g p => k W' _ vs ds a b c d f g (hi ds p)
theorem EvT.imp {P Q : Bool → Prop} (h : EvT C Γ e P) (hi : ∀ d, P d → Q d) : EvT C Γ e Q := fun F W σ S K k => h F W σ S K fun W' b a c p => k W' b a c (hi b p)
theorem EvW.imp {P Q : Bool → Prop} (h : EvW C Γ e P) (hi : ∀ d, P d → Q d) : EvW C Γ e Q := fun F W σ S K k => h F W σ S K fun W' b a c p => k W' b a c (hi b p)
theorem EvA.imp {P Q : List D → Prop} (h : EvA C Γ es P) (hi : ∀ d, P d → Q d) : EvA C Γ es Q := fun F W σ S K k => h F W σ S K fun W' v d a b c p => k W' v d a b c (hi d p)
theorem EvO.imp {P Q : D → Prop} (h : EvO C Γ e P) (hi : ∀ d, P d → Q d) : EvO C Γ e Q := fun F W σ S K k => h F W σ S K fun W' v d a b c p => k W' v d a b c (hi d p)
theorem EvAO.imp {P Q : List D → Prop} (h : EvAO C Γ es P) (hi : ∀ d, P d → Q d) : EvAO C Γ es Q := fun F W σ S K k => h F W σ S K fun W' v d a b c p => k W' v d a b c (hi d p)
theorem Ev.o {P : D → Prop} (h : Ev C Γ e P) : EvO C Γ e P := fun F W σ S K k => h F W σ S K fun W' v d a b c p => k W' v d a b (.inl c) p
theorem EvW.t {P : Bool → Prop} (h : EvW C Γ e P) : EvT C Γ e P := fun F W σ S K k X ok pins s I => h F W σ S K k X ok _ pins s I

/-! ### new objects -/
theorem WOk.free {tabs : List Addr} (k : WOk tabs W) {p : Addr} (h : W.H p = none) : W.I p = none := by
  cases e : W.I p with
  | none => rfl
  | some o => rw [k.im p o e] at h; cases h
/-- a new object, settled at once -/
theorem Le.new {tabs : List Addr} (k : WOk tabs W) {p : Addr} {o : HO} (h : W.H p = none) : Le W ⟨upd W.I p o, upd W.H p o⟩ where
  im := same_new (k.free h)
  gr := fun a (e : upd W.H p o a = none) => by
    by_cases z : a = p
    · subst z; rw [upd_same] at e; cases e
    · rw [upd_ne z] at e; exact e
  fr := fun a (e : upd W.I p o a ≠ none) => by
    by_cases z : a = p
    · subst z; exact .inr h
    · rw [upd_ne z] at e; exact .inl e
/-- a new object, not settled -/
theorem Le.newH {p : Addr} {o : HO} : Le W ⟨W.I, upd W.H p o⟩ where
  im := Same.refl _
  gr := fun a (e : upd W.H p o a = none) => by
    by_cases z : a = p
    · subst z; rw [upd_same] at e; cases e
    · rw [upd_ne z] at e; exact e
  fr := fun a e => .inl e
theorem tabG_upd {H : Hp} {p P : Addr} {o : HO} (h : GxR.TabG H P) (n : P ≠ p) : GxR.TabG (upd H p o) P := by
  obtain ⟨ps, e, t⟩ := h
  exact ⟨ps, by rw [upd_ne n]; exact e, t⟩
theorem tabG_some {H : Hp} {P : Addr} (h : GxR.TabG H P) : H P ≠ none := by
  obtain ⟨ps, e, t⟩ := h
  rw [e]; simp
theorem WOk.new {tabs : List Addr} (k : WOk tabs W) {p : Addr} {o : HO} (h : W.H p = none) (ho : ∀ ps, o ≠ .tbl ps) : WOk tabs ⟨upd W.I p o, upd W.H p o⟩ where
  im := fun a u (e : upd W.I p o a = some u) => by
    by_cases z : a = p
    · subst z; rw [upd_same] at e; cases e; exact upd_same
    · rw [upd_ne z] at e
      exact (upd_ne z).trans (k.im a u e)
  nt := fun a ps (e : upd W.I p o a = some (.tbl ps)) => by
    by_cases z : a = p
    · subst z; rw [upd_same] at e; exact ho ps (Option.some.inj e)
    · rw [upd_ne z] at e
      exact k.nt a ps e
  tb := fun P hP => tabG_upd (k.tb P hP) fun z => tabG_some (k.tb P hP) (z ▸ h)
theorem WOk.newH {tabs : List Addr} (k : WOk tabs W) {p : Addr} {o : HO} (h : W.H p = none) : WOk tabs ⟨W.I, upd W.H p o⟩ where
  im := k.im.trans (same_new h)
  nt := k.nt
  tb := fun P hP => tabG_upd (k.tb P hP) fun z => tabG_some (k.tb P hP) (z ▸ h)
theorem StAt.le {K : PySem.W.Frag} {p : Addr} {ns : List Int} (h : StAt K W p ns) (l : Le W W') (e : ∀ o, W.H p = some o → (∀ ps, o ≠ .tbl ps) → W'.H p = some o) : StAt K W' p ns := by
  obtain ⟨h1, a, b, c, q, xs, h2, h3, h4⟩ := h
  exact ⟨l.keep h1 (by rw [h2]; simp), a, b, c, q, xs, e _ h2 (fun _ z => nomatch z), h3.mono l.im, h4⟩
theorem SlotOk.le {K : PySem.W.Frag} {x : SV} {o : Option V} (h : SlotOk K F W o x) (l : Le W W') (e : ∀ p ds, x = .own ds → o = some (.ref p) → ∀ vs, W.H p = some (.lst vs) → W'.H p = some (.lst vs)) : SlotOk K F W' o x := by
  cases x with
  | any => trivial
  | imm d =>
    obtain ⟨v, h1, h2⟩ := h
    exact ⟨v, h1, h2.mono l.im⟩
  | own ds =>
    obtain ⟨p, vs, h1, h2, h3, h4, h5, h6, h7⟩ := h
    exact ⟨p, vs, h1, l.keep h2 (by rw [h3]; simp), e p ds rfl h1 vs h3, h4.mono l.im, h5, h6, h7⟩
  | st => exact h
theorem RetOk.step {C : Cfg} (S : RetOk C F W) (k : WOk C.tabs W') (l : Le W W') (e : Ext W.H W'.H) : RetOk C F W' where
  ok := k
  up := S.up.trans l
  bs := S.bs.trans e
  bh := fun p h => S.bh p (l.gr p h)
  js := S.js.trans l.im
  sb := fun p hp => ⟨(S.sb p hp).1, (S.sb p hp).2.le l fun o h n => e p o h n⟩
/-- the heap has grown and no more -/
theorem Sto.step (S : Sto C F W σ Γ) (k : WOk C.tabs W') (l : Le W W') (e : Ext W.H W'.H) : Sto C F W' σ Γ where
  toRetOk := S.toRetOk.step k l e
  len := S.len
  sl := fun i x h => by
    obtain ⟨o, h1, h2⟩ := S.sl i x h
    exact ⟨o, h1, h2.le l fun p ds _ _ vs h3 => e p _ h3 fun _ z => nomatch z⟩
  od := S.od
theorem Sto.new (S : Sto C F W σ Γ) {p : Addr} {o : HO} (h : W.H p = none) (ho : ∀ ps, o ≠ .tbl ps) : Sto C F ⟨upd W.I p o, upd W.H p o⟩ σ Γ :=
  S.step (S.ok.new h ho) (Le.new S.ok h) (same_ext (same_new h))
theorem Sto.newH (S : Sto C F W σ Γ) {p : Addr} {o : HO} (h : W.H p = none) : Sto C F ⟨W.I, upd W.H p o⟩ σ Γ :=
  S.step (S.ok.newH h) Le.newH (same_ext (same_new h))
/-- what must stay may be made stronger while no other's is changed -/
theorem Sto.base (S : Sto C F W σ Γ) {B' J' : Hp} (hB : Ext B' W.H) (hb : ∀ p, W.H p = none → B' p = none) (hJ : Same J' W.I) (hf : ∀ p, F.B p = none → W.H p ≠ none → W.I p = none → (∃ i, ownAt Γ σ i p) ∨ F.s = some p → B' p = none) : Sto C { F with B := B', J := J' } W σ Γ where
  ok := S.ok
  up := S.up
  bs := hB
  bh := hb
  js := hJ
  sb := fun p hp => by
    obtain ⟨h1, h2⟩ := S.sb p hp
    refine ⟨hf p h1 ?_ h2.1 (.inr hp), h2⟩
    obtain ⟨_, a, b, c, q, xs, h3, _⟩ := h2
    rw [h3]; simp
  len := S.len
  sl := fun i x h => by
    obtain ⟨o, h1, h2⟩ := S.sl i x h
    refine ⟨o, h1, ?_⟩
    cases x with
    | any => trivial
    | imm d => exact h2
    | own ds =>
      obtain ⟨p, vs, h3, h4, h5, h6, h7, h8, h9⟩ := h2
      exact ⟨p, vs, h3, h4, h5, h6, h7, hf p h8 (by rw [h5]; simp) h4 (.inl ⟨i, ds, h, by rw [h1, h3]⟩), h9⟩
    | st => exact h2
  od := S.od
/-- settle an own result -/
theorem Sto.settle (S : Sto C F W σ Γ) {p : Addr} {vs : List V} (h : W.H p = some (.lst vs)) (hI : W.I p = none) (no : ∀ i, ¬ ownAt Γ σ i p) (ns : F.s ≠ some p) (h0 : F.W0.H p = none) : Sto C F ⟨upd W.I p (.lst vs), W.H⟩ σ Γ where
  ok :=
    { im := fun a u (e : upd W.I p (.lst vs) a = some u) => by
        by_cases z : a = p
        · subst z; rw [upd_same] at e; cases e; exact h
        · rw [upd_ne z] at e; exact S.ok.im a u e
      nt := fun a ps (e : upd W.I p (.lst vs) a = some (.tbl ps)) => by
        by_cases z : a = p
        · subst z; rw [upd_same] at e; cases e
        · rw [upd_ne z] at e; exact S.ok.nt a ps e
      tb := S.ok.tb }
  up :=
    { im := S.up.im.trans (same_new hI)
      gr := S.up.gr
      fr := fun a (e : upd W.I p (.lst vs) a ≠ none) => by
        by_cases z : a = p
        · subst z; exact .inr h0
        · rw [upd_ne z] at e; exact S.up.fr a e }
  bs := S.bs
  bh := S.bh
  js := S.js.trans (same_new hI)
  sb := fun q hq => by
    obtain ⟨h1, h2, a, b, c, v, xs, h3, h4, h5⟩ := S.sb q hq
    refine ⟨h1, ?_, a, b, c, v, xs, h3, h4.mono (same_new hI), h5⟩
    show upd W.I p (.lst vs) q = none
    rw [upd_ne (fun z => ns (by rw [← z]; exact hq))]
    exact h2
  len := S.len
  sl := fun i x hx => by
    obtain ⟨o, h1, h2⟩ := S.sl i x hx
    refine ⟨o, h1, ?_⟩
    cases x with
    | any => trivial
    | imm d =>
      obtain ⟨v, h3, h4⟩ := h2
      exact ⟨v, h3, h4.mono (same_new hI)⟩
    | own ds =>
      obtain ⟨q, us, h3, h4, h5, h6, h7⟩ := h2
      refine ⟨q, us, h3, ?_, h5, h6.mono (same_new hI), h7⟩
      show upd W.I p (.lst vs) q = none
      rw [upd_ne (fun z => no i ⟨ds, hx, by rw [h1, h3, z]⟩)]
      exact h4
    | st => exact h2
  od := S.od
theorem Sto.notOwn (S : Sto C F W σ Γ) {p : Addr} (h : W.H p = none) : (∀ i, ¬ ownAt Γ σ i p) ∧ F.s ≠ some p := by
  refine ⟨fun i ⟨ds, h1, h2⟩ => ?_, fun z => ?_⟩
  · obtain ⟨o, h3, q, us, h4, _, h5, _⟩ := S.sl i _ h1
    rw [h2] at h3
    cases h3
    cases h4
    rw [h] at h5
    cases h5
  · obtain ⟨_, _, a, b, c, v, xs, h3, _⟩ := S.sb p z
    rw [h] at h3
    cases h3
/-- a new own list is a value -/
theorem EvL.ev {P : List D → Prop} (h : EvL C Γ e P) : Ev C Γ e (fun d => ∃ ds, d = .list ds ∧ P ds) := fun F W σ S K k => h F W σ S K fun W' p vs ds S' L h1 h2 h3 h4 h5 => by
  have h0 : F.W0.H p = none := S.up.gr p h1
  obtain ⟨n1, n2⟩ := S.notOwn h1
  refine k ⟨upd W'.I p (.lst vs), W'.H⟩ (.ref p) (.list ds) (S'.settle h3 h2 n1 n2 h0) ?_ (.lst upd_same (h4.mono (same_new h2))) ⟨ds, rfl, h5⟩
  exact ⟨L.im.trans (same_new h2), L.gr, fun a (z : upd W'.I p (.lst vs) a ≠ none) => by
    by_cases q : a = p
    · subst q; exact .inr h1
    · rw [upd_ne q] at z; exact L.fr a z⟩
theorem EvL.o {P : List D → Prop} (h : EvL C Γ e P) : EvO C Γ e (fun d => ∃ ds, d = .list ds ∧ P ds) := h.ev.o
theorem Rdo.now {v : V} {d : D} (r : Rdo C Γ σ W v d) (S : Sto C F W σ Γ) : Now C.K W v d := by
  rcases r with r | ⟨ds, i, p, h0, h1, h2, h3⟩
  · exact .inl r
  · obtain ⟨o, h4, q, us, h5, h6, h7, h8, _⟩ := S.sl i _ h2
    rw [h3] at h4
    cases h4
    cases h5
    exact .inr ⟨ds, p, us, h0, h1, h7, h8⟩
theorem Rdo.le {v : V} {d : D} (r : Rdo C Γ σ W v d) (l : Le W W') : Rdo C Γ σ W' v d := by
  rcases r with r | r
  · exact .inl (r.mono l.im)
  · exact .inr r
theorem RdoA.le {vs : List V} {ds : List D} (r : RdoA C Γ σ W vs ds) (l : Le W W') : RdoA C Γ σ W' vs ds := by
  induction r with
  | nil => exact .nil
  | cons a b ih => exact .cons (a.le l) ih
theorem RdoA.now {vs : List V} {ds : List D} (r : RdoA C Γ σ W vs ds) (S : Sto C F W σ Γ) : NowA C.K W vs ds := by
  induction r with
  | nil => exact .nil
  | cons a b ih => exact .cons (a.now S) ih
theorem RpA.rdo {vs : List V} {ds : List D} : ∀ {vs : List V} {ds : List D}, RpA C.K W.I vs ds → RdoA C Γ σ W vs ds
  | _, [], h => by cases h; exact .nil
  | _, _ :: _, h => by cases h with | cons a b => exact .cons (.inl a) (RpA.rdo (vs := vs) (ds := ds) b)
section
variable {K : PySem.W.Frag} {v : V} {d : D}
theorem Now.int {i : Int} (h : Now K W v (.int i)) : v = .int i := by
  rcases h with h | ⟨_, _, _, e, _⟩
  · cases h; rfl
  · cases e
theorem Now.bool {i : Bool} (h : Now K W v (.bool i)) : v = .bl i := by
  rcases h with h | ⟨_, _, _, e, _⟩
  · cases h; rfl
  · cases e
theorem Now.str {i : Str} (h : Now K W v (.str i)) : v = .str i := by
  rcases h with h | ⟨_, _, _, e, _⟩
  · cases h; rfl
  · cases e
theorem Now.non (h : Now K W v .none) : v = .non := by
  rcases h with h | ⟨_, _, _, e, _⟩
  · cases h; rfl
  · cases e
theorem Now.list {tabs : List Addr} {ds : List D} (h : Now K W v (.list ds)) (k : WOk tabs W) : ∃ p vs, v = .ref p ∧ W.H p = some (.lst vs) ∧ RpA K W.I vs ds := by
  rcases h with h | ⟨ds', p, vs, e, h1, h2, h3⟩
  · cases h with
    | lst h1 h2 => exact ⟨_, _, rfl, k.im _ _ h1, h2⟩
  · cases e
    exact ⟨p, vs, h1, h2, h3⟩
theorem Now.tuple {tabs : List Addr} {ds : List D} (h : Now K W v (.tuple ds)) (k : WOk tabs W) : ∃ p vs, v = .ref p ∧ SqT K W.H p vs ∧ RpA K W.I vs ds := by
  rcases h with h | ⟨_, _, _, e, _⟩
  · cases h with
    | tup h1 h2 => exact ⟨_, _, rfl, same_t k.im h1, h2⟩
  · cases e
theorem Now.dp {tabs : List Addr} (h : Now K W v d) (k : WOk tabs W) : Dp K W.H v d := by
  rcases h with h | ⟨ds, p, vs, e, h1, h2, h3⟩
  · exact (h.mono k.im).dp
  · subst e
    subst h1
    have hp : Rp K (upd W.I p (.lst vs)) (.ref p) (.list ds) → True := fun _ => trivial
    exact .lst (SqL.of h2) (RpA.dp0 ds (h3.mono k.im))
end
end
end Dl

/-! Dl: expressions. -/
namespace Dl
open PySem PySem.Spec PyProof.Rows L2
/-! ### names of a scope -/
def nameC (N : List Str) (sc : Scope) (i : Nat) (x : Str) : Bool :=
  decide (N[i]? = some x) && (decide (sc.names.lookup x = some .local) || decide (sc.names.lookup x = some .cell) || decide (sc.names.lookup x = some .free)) && !(x == ("__debug__" : Str)) && !(x == ("__classdict__" : Str))
structure NameOk (N : List Str) (sc : Scope) (i : Nat) (x : Str) : Prop where
  ix : N[i]? = some x
  vis : Vis sc x
  d1 : (x == ("__debug__" : Str)) = false
  d2 : (x == ("__classdict__" : Str)) = false
theorem nameOk {N : List Str} {sc : Scope} {i : Nat} {x : Str} (h : nameC N sc i x = true) : NameOk N sc i x := by
  unfold nameC at h
  simp only [Bool.and_eq_true, Bool.or_eq_true, decide_eq_true_eq, Bool.not_eq_true'] at h
  obtain ⟨⟨⟨h1, h2⟩, h3⟩, h4⟩ := h
  refine ⟨h1, ?_, h3, h4⟩
  rcases h2 with (h2 | h2) | h2
  · exact .inl h2
  · exact .inr (.inl h2)
  · exact .inr (.inr h2)
def globC (sc : Scope) (x : Str) : Bool := decide (sc.names.lookup x = some .globalImplicit) && !(x == ("__debug__" : Str)) && !(decide (x = ("__name__" : Str)))
structure GlobOk (sc : Scope) (x : Str) : Prop where
  g : sc.names.lookup x = some .globalImplicit
  d1 : (x == ("__debug__" : Str)) = false
  d2 : x ≠ ("__name__" : Str)
theorem globOk {sc : Scope} {x : Str} (h : globC sc x = true) : GlobOk sc x := by
  unfold globC at h
  simp only [Bool.and_eq_true, decide_eq_true_eq, Bool.not_eq_true', decide_eq_false_iff_not] at h
  exact ⟨h.1.1, h.1.2, h.2⟩
theorem GlobOk.gl {C : Cfg} {X : Cx} {x : Str} (g : GlobOk C.sc x) (ok : OkX C X) : Gl X x := by
  show X.env.scope.names.lookup x = _
  rw [ok.sc]
  exact g.g

section
variable {C : Cfg} {Γ : List SV} {a b c e : Expr} {es : List Expr} {F : Fr} {W W' : Wd} {σ : L2.St} {pos : Pos} {P : D → Prop}
/-! ### names, constants -/
theorem ev_var {i : Nat} {x : Str} {d : D} (n : NameOk C.N C.sc i x) (h : Γ[i]? = some (.imm d)) (p : P d) : Ev C Γ (.Name x pos) P := fun F W σ S Q k => by
  obtain ⟨o, h1, v, h2, h3⟩ := S.sl i _ h
  subst h2
  exact tE_of (t := fun _ => tVar i) (fun X ok => pe_var (by rw [ok.N]; exact n.ix) (by rw [ok.sc]; exact n.vis) n.d1 n.d2) fun X ok => ⟨v, h1, k W v d S (Le.refl W) h3 p⟩
/-- a slot's own list, read -/
theorem evo_own {i : Nat} {x : Str} {ds : List D} (n : NameOk C.N C.sc i x) (h : Γ[i]? = some (.own ds)) (p : P (.list ds)) : EvO C Γ (.Name x pos) P := fun F W σ S Q k => by
  obtain ⟨o, h1, q, vs, h2, h3⟩ := S.sl i _ h
  subst h2
  exact tE_of (t := fun _ => tVar i) (fun X ok => pe_var (by rw [ok.N]; exact n.ix) (by rw [ok.sc]; exact n.vis) n.d1 n.d2) fun X ok => ⟨.ref q, h1, k W _ (.list ds) S (Le.refl W) (.inr ⟨ds, i, q, rfl, rfl, h, h1⟩) p⟩
theorem ev_const {v : V} {d : D} (h : ∀ X, OkX C X → PE X e (tC v)) (r : ∀ I, Rp C.K I v d) (p : P d) : Ev C Γ e P := fun F W σ S Q k => tE_of (t := fun _ => tC v) h fun X ok => k W v d S (Le.refl W) (r _) p
theorem ev_int {i : Int} {j : Nat} (p : P (.int i)) : Ev C Γ (.Constant (.int i) j pos) P := ev_const (fun _ _ => pe_int) (fun _ => .int i) p
theorem ev_bool {i : Bool} {j : Nat} (p : P (.bool i)) : Ev C Γ (.Constant (.bool i) j pos) P := ev_const (fun _ _ => pe_bl) (fun _ => .bl i) p
theorem ev_non {j : Nat} (p : P .none) : Ev C Γ (.Constant .none j pos) P := ev_const (fun _ _ => pe_non) (fun _ => .non) p
theorem ev_str {i : Str} {j : Nat} (p : P (.str i)) : Ev C Γ (.Constant (.str i) j pos) P := ev_const (fun _ _ => pe_str) (fun _ => .str i) p
/-- a constant of the module -/
theorem ev_glob {x : Str} {v : V} {u : Value} {d : D} (g : GlobOk C.sc x) (hm : C.mg x = some u) (r : RelV v u) (rp : ∀ I, Rp C.K I v d) (p : P d) : Ev C Γ (.Name x pos) P :=
  ev_const (v := v) (fun X ok => pe_glob (g.gl ok) (by rw [ok.mg]; exact hm) r g.d1) rp p

/-! ### operators by values -/
def Op2 (C : Cfg) (r : Cx → R2) (x y : D) (P : D → Prop) : Prop := ∀ X, OkX C X → ∀ (W : Wd) (v u : V), WOk C.tabs W → Now C.K W v x → Now C.K W u y → ∀ Q : VK,
  (∀ W' z d, WOk C.tabs W' → Le W W' → Ext W.H W'.H → Rp C.K W'.I z d → P d → Q z W'.H) → r X v u W.H Q
/-- .. that make a new list -/
def Op2L (C : Cfg) (r : Cx → R2) (x y : D) (P : List D → Prop) : Prop := ∀ X, OkX C X → ∀ (W : Wd) (v u : V), WOk C.tabs W → Now C.K W v x → Now C.K W u y → ∀ Q : VK,
  (∀ p vs ds, W.H p = none → RpA C.K W.I vs ds → P ds → Q (.ref p) (upd W.H p (.lst vs))) → r X v u W.H Q
theorem Op2.flat {r : Cx → R2} {x y d : D} {z : V} (h : ∀ X, OkX C X → ∀ (W : Wd) (v u : V), WOk C.tabs W → Now C.K W v x → Now C.K W u y → ∀ Q : VK, Q z W.H → r X v u W.H Q) (rz : ∀ I, Rp C.K I z d) (p : P d) : Op2 C r x y P :=
  fun X ok W v u k hv hu Q q => h X ok W v u k hv hu Q (q W z d k (Le.refl W) (Ext.refl _) (rz _) p)
theorem op2_I {r : Int → Int → Prop} {g : Int → Int → Int} {i j : Int} (h : r i j) (p : P (.int (g i j))) : Op2 C (fun _ => rI r fun i j => .int (g i j)) (.int i) (.int j) P :=
  Op2.flat (z := .int (g i j)) (fun X ok W v u k hv hu Q q => ⟨i, j, hv.int, hu.int, h, q⟩) (fun _ => .int _) p
theorem op2_I0 {g : Int → Int → Int} {i j : Int} (p : P (.int (g i j))) : Op2 C (fun _ => rI0 fun i j => .int (g i j)) (.int i) (.int j) P :=
  Op2.flat (z := .int (g i j)) (fun X ok W v u k hv hu Q q => ⟨i, j, hv.int, hu.int, q⟩) (fun _ => .int _) p
theorem op2_B0 {g : Int → Int → Bool} {i j : Int} (p : P (.bool (g i j))) : Op2 C (fun _ => rI0 fun i j => .bl (g i j)) (.int i) (.int j) P :=
  Op2.flat (z := .bl (g i j)) (fun X ok W v u k hv hu Q q => ⟨i, j, hv.int, hu.int, q⟩) (fun _ => .bl _) p
theorem ev_bin {op : Operator} {r : Cx → R2} (ho : ∀ X, OkX C X → OpR X (binaryOp op) (r X)) (ha : EvO C Γ a fun x => EvO C Γ b fun y => Op2 C r x y P) : Ev C Γ (.BinOp a op b pos) P :=
  fun F W σ S Q k => tE_of (t := fun X => tOp (r X) (tE C a) (tE C b)) (fun X ok => pe_op (ho X ok) (pe_t ok) (pe_t ok)) fun X ok => ha F W σ S _ fun W1 v x S1 L1 r1 h1 => h1 F W1 σ S1 _ fun W2 u y S2 L2 r2 h2 =>
    h2 X ok W2 v u S2.ok ((r1.le L2).now S2) (r2.now S2) Q fun W3 z d k3 L3 e3 r3 p3 => k W3 z d (S2.step k3 L3 e3) ((L1.trans L2).trans L3) r3 p3
theorem evl_bin {op : Operator} {r : Cx → R2} {P : List D → Prop} (ho : ∀ X, OkX C X → OpR X (binaryOp op) (r X)) (ha : EvO C Γ a fun x => EvO C Γ b fun y => Op2L C r x y P) : EvL C Γ (.BinOp a op b pos) P :=
  fun F W σ S Q k => tE_of (t := fun X => tOp (r X) (tE C a) (tE C b)) (fun X ok => pe_op (ho X ok) (pe_t ok) (pe_t ok)) fun X ok => ha F W σ S _ fun W1 v x S1 L1 r1 h1 => h1 F W1 σ S1 _ fun W2 u y S2 L2 r2 h2 =>
    h2 X ok W2 v u S2.ok ((r1.le L2).now S2) (r2.now S2) Q fun p vs ds h3 h4 h5 => k ⟨W2.I, upd W2.H p (.lst vs)⟩ p vs ds (S2.newH h3) ((L1.trans L2).trans Le.newH) ((L1.trans L2).gr p h3) (S2.ok.free h3) upd_same h4 h5
def Ia (C : Cfg) (Γ : List SV) (e : Expr) (P : Int → Prop) : Prop := EvO C Γ e fun x => ∃ i, x = .int i ∧ P i
theorem ev_int2 {op : Operator} {r : Int → Int → Prop} {g : Int → Int → Int} (ho : ∀ X, OkX C X → OpR X (binaryOp op) (rI r fun i j => .int (g i j))) (ha : EvO C Γ a fun x => ∃ i, x = .int i ∧ EvO C Γ b fun y => ∃ j, y = .int j ∧ r i j ∧ P (.int (g i j))) : Ev C Γ (.BinOp a op b pos) P :=
  ev_bin ho (ha.imp fun x ⟨i, hx, hb⟩ => hb.imp fun y ⟨j, hy, hr, p⟩ => by subst hx; subst hy; exact op2_I hr p)
theorem ev_add (ha : EvO C Γ a fun x => ∃ i, x = .int i ∧ EvO C Γ b fun y => ∃ j, y = .int j ∧ P (.int (i + j))) : Ev C Γ (.BinOp a .Add b pos) P :=
  ev_bin (fun _ _ => op_add) (ha.imp fun x ⟨i, hx, hb⟩ => hb.imp fun y ⟨j, hy, p⟩ => by subst hx; subst hy; exact op2_I0 (g := fun i j => i + j) p)
theorem ev_sub (ha : EvO C Γ a fun x => ∃ i, x = .int i ∧ EvO C Γ b fun y => ∃ j, y = .int j ∧ P (.int (i - j))) : Ev C Γ (.BinOp a .Sub b pos) P :=
  ev_bin (fun _ _ => op_sub) (ha.imp fun x ⟨i, hx, hb⟩ => hb.imp fun y ⟨j, hy, p⟩ => by subst hx; subst hy; exact op2_I0 (g := fun i j => i - j) p)
theorem ev_mul (ha : EvO C Γ a fun x => ∃ i, x = .int i ∧ EvO C Γ b fun y => ∃ j, y = .int j ∧ CMul i j ∧ P (.int (i * j))) : Ev C Γ (.BinOp a .Mult b pos) P := ev_int2 (fun _ _ => op_mul) ha
theorem ev_mulW (ha : EvO C Γ a fun x => ∃ i, x = .int i ∧ EvO C Γ b fun y => ∃ j, y = .int j ∧ L2.CMulW i j ∧ P (.int (i * j))) : Ev C Γ (.BinOp a .Mult b pos) P := ev_int2 (fun _ _ => L2.op_mulW) ha
theorem ev_fdiv (ha : EvO C Γ a fun x => ∃ i, x = .int i ∧ EvO C Γ b fun y => ∃ j, y = .int j ∧ CDiv i j ∧ P (.int (i / j))) : Ev C Γ (.BinOp a .FloorDiv b pos) P := ev_int2 (fun _ _ => op_fdiv) ha
theorem ev_mod (ha : EvO C Γ a fun x => ∃ i, x = .int i ∧ EvO C Γ b fun y => ∃ j, y = .int j ∧ 0 < j ∧ P (.int (i % j))) : Ev C Γ (.BinOp a .Mod b pos) P := ev_int2 (r := fun _ j => 0 < j) (fun _ _ => op_mod) ha
theorem ev_pow (ha : EvO C Γ a fun x => ∃ i, x = .int i ∧ EvO C Γ b fun y => ∃ j, y = .int j ∧ CPow i j ∧ P (.int (i ^ j.toNat))) : Ev C Γ (.BinOp a .Pow b pos) P := ev_int2 (fun _ _ => op_pow) ha
theorem ev_fdivW (ha : EvO C Γ a fun x => ∃ i, x = .int i ∧ EvO C Γ b fun y => ∃ j, y = .int j ∧ L2.CDivW i j ∧ P (.int (i / j))) : Ev C Γ (.BinOp a .FloorDiv b pos) P := ev_int2 (fun _ _ => L2.op_fdivW) ha
theorem ev_neg (ha : EvO C Γ a fun x => ∃ i, x = .int i ∧ P (.int (-i))) : Ev C Γ (.UnaryOp .USub a pos) P :=
  fun F W σ S Q k => tE_of (t := fun X => tUn (rU fun i => .int (-i)) (tE C a)) (fun X ok => pe_un un_neg (pe_t ok)) fun X ok => ha F W σ S _ fun W1 v x S1 L1 r1 ⟨i, hx, p⟩ => by
    subst hx
    exact ⟨i, (r1.now S1).int, k W1 (.int (-i)) (.int (-i)) S1 L1 (.int _) p⟩
/-- texts -/
theorem ev_addS (ha : EvO C Γ a fun x => ∃ i, x = .str i ∧ EvO C Γ b fun y => ∃ j, y = .str j ∧ i.length + j.length ≤ sizeLine ∧ P (.str (i ++ j))) : Ev C Γ (.BinOp a .Add b pos) P :=
  ev_bin (fun _ _ => op_add_str) (ha.imp fun x ⟨i, hx, hb⟩ => hb.imp fun y ⟨j, hy, hl, p⟩ => by
    subst hx; subst hy
    exact Op2.flat (z := .str (i ++ j)) (fun X ok W v u k hv hu Q q => ⟨i, j, hv.str, hu.str, hl, q⟩) (fun _ => .str _) p)
/-- tuples -/
theorem ev_addT (ha : EvO C Γ a fun x => ∃ xs, x = .tuple xs ∧ EvO C Γ b fun y => ∃ ys, y = .tuple ys ∧ xs.length + ys.length ≤ sizeLine ∧ P (.tuple (xs ++ ys))) : Ev C Γ (.BinOp a .Add b pos) P :=
  ev_bin (r := fun X => rCatA X.K) (fun _ _ => op_catA) (ha.imp fun x ⟨xs, hx, hb⟩ => hb.imp fun y ⟨ys, hy, hl, p⟩ => by
    subst hx; subst hy
    intro X ok W v u k hv hu Q q
    have hK := ok.K
    obtain ⟨pa, va, e1, h1, r1⟩ := hv.tuple k
    obtain ⟨pb, vb, e2, h2, r2⟩ := hu.tuple k
    refine ⟨pa, pb, va, vb, e1, e2, by rw [hK]; exact h1, by rw [hK]; exact h2, by rw [r1.length, r2.length]; exact hl, fun e => ?_, fun _ e => ?_, fun n1 n2 t ht => ?_⟩
    · subst e
      cases r1
      subst e2
      rcases hu with hu | ⟨_, _, _, z, _⟩
      · exact q W (.ref pb) (.tuple ys) k (Le.refl W) (Ext.refl _) hu p
      · cases z
    · subst e
      cases r2
      subst e1
      rcases hv with hv | ⟨_, _, _, z, _⟩
      · rw [List.append_nil] at p
        exact q W (.ref pa) (.tuple xs) k (Le.refl W) (Ext.refl _) hv p
      · cases z
    · exact q ⟨upd W.I t (.tup (va ++ vb)), upd W.H t (.tup (va ++ vb))⟩ (.ref t) _ (k.new ht fun _ z => nomatch z) (Le.new k ht) (same_ext (same_new ht)) (.tup (SqT.of upd_same) ((r1.append r2).mono (same_new (k.free ht)))) p)
/-- lists: a new one -/
theorem evl_add {P : List D → Prop} (ha : EvO C Γ a fun x => ∃ xs, x = .list xs ∧ EvO C Γ b fun y => ∃ ys, y = .list ys ∧ xs.length + ys.length ≤ sizeLine ∧ P (xs ++ ys)) : EvL C Γ (.BinOp a .Add b pos) P :=
  evl_bin (r := fun X => rCat) (fun _ _ => op_cat) (ha.imp fun x ⟨xs, hx, hb⟩ => hb.imp fun y ⟨ys, hy, hl, p⟩ => by
    subst hx; subst hy
    intro X ok W v u k hv hu Q q
    obtain ⟨pa, va, e1, h1, r1⟩ := hv.list k
    obtain ⟨pb, vb, e2, h2, r2⟩ := hu.list k
    exact ⟨pa, pb, va, vb, e1, e2, h1, h2, by rw [r1.length, r2.length]; exact hl, fun t ht => q t _ _ ht (r1.append r2) p⟩)
theorem evl_rep {P : List D → Prop} (ha : EvO C Γ a fun x => ∃ xs, x = .list xs ∧ EvO C Γ b fun y => ∃ j : Int, y = .int j ∧ -(2 ^ 63) ≤ j ∧ j < 2 ^ 63 ∧ xs.length * j.toNat ≤ sizeLine ∧ P (List.replicate j.toNat xs).flatten) : EvL C Γ (.BinOp a .Mult b pos) P :=
  evl_bin (r := fun X => rRep) (fun _ _ => op_rep) (ha.imp fun x ⟨xs, hx, hb⟩ => hb.imp fun y ⟨j, hy, h1, h2, hl, p⟩ => by
    subst hx; subst hy
    intro X ok W v u k hv hu Q q
    obtain ⟨pa, va, e1, h3, r1⟩ := hv.list k
    exact ⟨pa, j, va, e1, hu.int, h3, h1, h2, by rw [r1.length]; exact hl, fun t ht => q t _ _ ht (r1.flatten _) p⟩)

/-! ### comparisons -/
theorem ev_cmp {op : CmpOp} {r : Cx → R2} (ho : ∀ X, OkX C X → OpR X (compareOp op) (r X)) (ha : EvO C Γ a fun x => EvO C Γ b fun y => Op2 C r x y P) (hm : behindInMarks op b = false) : Ev C Γ (.Compare a [op] [b] pos) P :=
  fun F W σ S Q k => tE_of (t := fun X => tOp (r X) (tE C a) (tE C b)) (fun X ok => pe_cmpR (ho X ok) (pe_t ok) (pe_t ok) hm) fun X ok => ha F W σ S _ fun W1 v x S1 L1 r1 h1 => h1 F W1 σ S1 _ fun W2 u y S2 L2 r2 h2 =>
    h2 X ok W2 v u S2.ok ((r1.le L2).now S2) (r2.now S2) Q fun W3 z d k3 L3 e3 r3 p3 => k W3 z d (S2.step k3 L3 e3) ((L1.trans L2).trans L3) r3 p3
def BP (P : Bool → Prop) : D → Prop := fun d => ∃ c, d = .bool c ∧ P c
theorem evt_cmp {op : CmpOp} {r : Cx → R2} {P : Bool → Prop} (ho : ∀ X, OkX C X → OpR X (compareOp op) (r X)) (ha : EvO C Γ a fun x => EvO C Γ b fun y => Op2 C r x y (BP P)) (hm : behindInMarks op b = false) : EvT C Γ (.Compare a [op] [b] pos) P :=
  fun F W σ S Q k => tT_of (t := fun X => tTest (tOp (r X) (tE C a) (tE C b))) (fun X ok => pt_cmpR (ho X ok) (pe_t ok) (pe_t ok) hm) fun X ok => ha F W σ S _ fun W1 v x S1 L1 r1 h1 => h1 F W1 σ S1 _ fun W2 u y S2 L2 r2 h2 =>
    h2 X ok W2 v u S2.ok ((r1.le L2).now S2) (r2.now S2) _ fun W3 z d k3 L3 e3 r3 p3 => by
      obtain ⟨c, e, p⟩ := p3
      subst e
      cases r3
      exact ⟨c, rfl, k W3 c (S2.step k3 L3 e3) ((L1.trans L2).trans L3) p⟩
/-- the comparison op of x and y is c -/
def Cmp (C : Cfg) (op : CmpOp) (x y : D) (c : Bool) : Prop := ∃ r : Cx → R2, (∀ X, OkX C X → OpR X (compareOp op) (r X)) ∧ ∀ X, OkX C X → ∀ (W : Wd) (v u : V), WOk C.tabs W → Now C.K W v x → Now C.K W u y → ∀ Q : VK, Q (.bl c) W.H → r X v u W.H Q
/-- by a rule that serves all values of a kind -/
structure CmpK (C : Cfg) (op : CmpOp) (R : D → D → Bool → Prop) where
  r : Cx → R2
  ho : ∀ X, OkX C X → OpR X (compareOp op) (r X)
  run : ∀ x y c, R x y c → ∀ X, OkX C X → ∀ (W : Wd) (v u : V), WOk C.tabs W → Now C.K W v x → Now C.K W u y → ∀ Q : VK, Q (.bl c) W.H → r X v u W.H Q
theorem CmpK.ev {op : CmpOp} {R : D → D → Bool → Prop} (K : CmpK C op R) (ha : EvO C Γ a fun x => EvO C Γ b fun y => ∃ c, R x y c ∧ P (.bool c)) (hm : behindInMarks op b = false) : Ev C Γ (.Compare a [op] [b] pos) P :=
  ev_cmp K.ho (ha.imp fun x h => h.imp fun y ⟨c, h, p⟩ => Op2.flat (z := .bl c) (K.run x y c h) (fun _ => .bl _) p) hm
theorem CmpK.t {op : CmpOp} {R : D → D → Bool → Prop} {P : Bool → Prop} (K : CmpK C op R) (ha : EvO C Γ a fun x => EvO C Γ b fun y => ∃ c, R x y c ∧ P c) (hm : behindInMarks op b = false) : EvT C Γ (.Compare a [op] [b] pos) P :=
  evt_cmp K.ho (ha.imp fun x h => h.imp fun y ⟨c, h, p⟩ => Op2.flat (z := .bl c) (K.run x y c h) (fun _ => .bl _) ⟨c, rfl, p⟩) hm
def RI (g : Int → Int → Bool) : D → D → Bool → Prop := fun x y c => ∃ i j, x = .int i ∧ y = .int j ∧ c = g i j
def kI {op : CmpOp} {g : Int → Int → Bool} (ho : ∀ X, OkX C X → OpR X (compareOp op) (rI0 fun i j => .bl (g i j))) : CmpK C op (RI g) :=
  ⟨fun _ => rI0 fun i j => .bl (g i j), ho, fun x y c h X ok W v u k hv hu Q q => by
    obtain ⟨i, j, rfl, rfl, rfl⟩ := h
    exact ⟨i, j, hv.int, hu.int, q⟩⟩
def kLt : CmpK C .Lt (RI fun i j => decide (i < j)) := kI fun _ _ => op_lt
def kLe : CmpK C .LtE (RI fun i j => decide (i ≤ j)) := kI fun _ _ => op_le
def kGt : CmpK C .Gt (RI fun i j => decide (j < i)) := kI fun _ _ => op_gt
def kGe : CmpK C .GtE (RI fun i j => decide (j ≤ i)) := kI fun _ _ => op_ge
/-- data without a dict, not deep -/
def Pl (d : D) : Prop := d.plain = true ∧ d.depth ≤ 50
def PlA (ds : List D) : Prop := PyData.plainAll ds = true ∧ PyData.depthAll ds ≤ 49
theorem pl_list {ds : List D} (h : PlA ds) : Pl (.list ds) := ⟨by simpa only [PyData.plain] using h.1, by have := h.2; simp only [PyData.depth]; omega⟩
theorem pl_tuple {ds : List D} (h : PlA ds) : Pl (.tuple ds) := ⟨by simpa only [PyData.plain] using h.1, by have := h.2; simp only [PyData.depth]; omega⟩
theorem op_eqP {X : Cx} {k : Nat} (hr : Room k X.A) : OpR X (compareOp .Eq) (fun x y H Q => ∃ d e, Dp X.K H x d ∧ Dp X.K H y e ∧ Pl d ∧ Pl e ∧ Q (.bl (PyData.eqv d e)) H) := by
  intro pins s σ H x y v u Q I rx ry h
  obtain ⟨d, e, hd, he, sd, se, q⟩ := h
  obtain ⟨as, r1⟩ := Dp.reads I d x v hd rx
  obtain ⟨bs, r2⟩ := Dp.reads I e y u he ry
  have h1 := hr.un
  have h2 := sd.2
  have h3 : min d.depth e.depth ≤ d.depth := Nat.min_le_left _ _
  exact PySem.SeqAt.eq_plain r1 r2 sd.1 se.1 (by omega) ⟨.bl _, H, I, rfl, q⟩
theorem op_neP {X : Cx} {k : Nat} (hr : Room k X.A) : OpR X (compareOp .NotEq) (fun x y H Q => ∃ d e, Dp X.K H x d ∧ Dp X.K H y e ∧ Pl d ∧ Pl e ∧ Q (.bl (!PyData.eqv d e)) H) := by
  intro pins s σ H x y v u Q I rx ry h
  obtain ⟨d, e, hd, he, sd, se, q⟩ := h
  obtain ⟨as, r1⟩ := Dp.reads I d x v hd rx
  obtain ⟨bs, r2⟩ := Dp.reads I e y u he ry
  have h1 := hr.un
  have h2 := sd.2
  have h3 : min d.depth e.depth ≤ d.depth := Nat.min_le_left _ _
  exact PySem.SeqAt.ne_plain r1 r2 sd.1 se.1 (by omega) ⟨.bl _, H, I, rfl, q⟩
def REq : D → D → Bool → Prop := fun x y c => Pl x ∧ Pl y ∧ c = PyData.eqv x y
def RNe : D → D → Bool → Prop := fun x y c => Pl x ∧ Pl y ∧ c = !PyData.eqv x y
def kEq (hc : C.hot = false) : CmpK C .Eq REq :=
  ⟨fun X => _, fun X ok => op_eqP (ok.calm hc).2, fun x y c h X ok W v u k hv hu Q q => by
    obtain ⟨h1, h2, rfl⟩ := h
    have hK := ok.K
    exact ⟨x, y, by rw [hK]; exact hv.dp k, by rw [hK]; exact hu.dp k, h1, h2, q⟩⟩
def kNe (hc : C.hot = false) : CmpK C .NotEq RNe :=
  ⟨fun X => _, fun X ok => op_neP (ok.calm hc).2, fun x y c h X ok W v u k hv hu Q q => by
    obtain ⟨h1, h2, rfl⟩ := h
    have hK := ok.K
    exact ⟨x, y, by rw [hK]; exact hv.dp k, by rw [hK]; exact hu.dp k, h1, h2, q⟩⟩
/-- the order of alike data -/
def Ak (x y : D) : Prop := PySem.W.alike x y = true ∧ x ≠ .none ∧ x.depth ≤ 50
theorem op_ltP {X : Cx} {k : Nat} (hr : Room k X.A) : OpR X (compareOp .Lt) (fun x y H Q => ∃ d e, Dp X.K H x d ∧ Dp X.K H y e ∧ Ak d e ∧ Q (.bl (PySem.W.dataLt d e)) H) := by
  intro pins s σ H x y v u Q I rx ry h
  obtain ⟨d, e, hd, he, sd, q⟩ := h
  obtain ⟨as, r1⟩ := Dp.reads I d x v hd rx
  obtain ⟨bs, r2⟩ := Dp.reads I e y u he ry
  have h1 := hr.un
  have h2 := sd.2.2
  have h3 : min d.depth e.depth ≤ d.depth := Nat.min_le_left _ _
  exact PySem.W.lt_data r1 r2 sd.1 sd.2.1 (by omega) ⟨.bl _, H, I, rfl, q⟩
def RLtD : D → D → Bool → Prop := fun x y c => Ak x y ∧ c = PySem.W.dataLt x y
def kLtD (hc : C.hot = false) : CmpK C .Lt RLtD :=
  ⟨fun X => _, fun X ok => op_ltP (ok.calm hc).2, fun x y c h X ok W v u k hv hu Q q => by
    obtain ⟨h1, rfl⟩ := h
    have hK := ok.K
    exact ⟨x, y, by rw [hK]; exact hv.dp k, by rw [hK]; exact hu.dp k, h1, q⟩⟩
def isNon : D → Bool
  | .none => true
  | _ => false
theorem now_non {K : PySem.W.Frag} {v : V} {d : D} (h : Now K W v d) : decide (v = .non) = isNon d := by
  rcases h with h | ⟨_, _, _, e, e2, _⟩
  · cases h <;> rfl
  · subst e; subst e2; rfl
def RIsN : D → D → Bool → Prop := fun x y c => y = .none ∧ c = isNon x
def RNotN : D → D → Bool → Prop := fun x y c => y = .none ∧ c = !isNon x
def kIsN : CmpK C .Is RIsN :=
  ⟨fun X => fun x y H Q => y = .non ∧ Q (.bl (decide (x = .non))) H, fun X ok => op_isN, fun x y c h X ok W v u k hv hu Q q => by
    obtain ⟨rfl, rfl⟩ := h
    exact ⟨hu.non, by rw [now_non hv]; exact q⟩⟩
def kNotN : CmpK C .IsNot RNotN :=
  ⟨fun X => fun x y H Q => y = .non ∧ Q (.bl (!decide (x = .non))) H, fun X ok => op_notN, fun x y c h X ok W v u k hv hu Q q => by
    obtain ⟨rfl, rfl⟩ := h
    exact ⟨hu.non, by rw [now_non hv]; exact q⟩⟩
def RIsB : D → D → Bool → Prop := fun x y c => ∃ a b, x = .bool a ∧ y = .bool b ∧ c = decide (a = b)
def RNotB : D → D → Bool → Prop := fun x y c => ∃ a b, x = .bool a ∧ y = .bool b ∧ c = !decide (a = b)
def kIsB : CmpK C .Is RIsB :=
  ⟨fun X => fun x y H Q => ∃ a b, x = .bl a ∧ y = .bl b ∧ Q (.bl (decide (a = b))) H, fun X ok => op_is_bl, fun x y c h X ok W v u k hv hu Q q => by
    obtain ⟨a, b, rfl, rfl, rfl⟩ := h
    exact ⟨a, b, hv.bool, hu.bool, q⟩⟩
def kNotB : CmpK C .IsNot RNotB :=
  ⟨fun X => fun x y H Q => ∃ a b, x = .bl a ∧ y = .bl b ∧ Q (.bl (!decide (a = b))) H, fun X ok => op_isnot_bl, fun x y c h X ok W v u k hv hu Q q => by
    obtain ⟨a, b, rfl, rfl, rfl⟩ := h
    exact ⟨a, b, hv.bool, hu.bool, q⟩⟩
/-- in, not in: a list or a tuple of data of any depth -/
theorem op_inP {X : Cx} {k : Nat} (hr : Room k X.A) : OpR X (compareOp .In) (fun x y H Q => ∃ d ds, Dp X.K H x d ∧ (Dp X.K H y (.tuple ds) ∨ Dp X.K H y (.list ds)) ∧ Pl d ∧ PyData.plainAll ds = true ∧ Q (.bl (ds.any fun z => PyData.eqv z d)) H) := by
  intro pins s σ H x y v u Q I rx ry h
  obtain ⟨d, ds, hd, he, sd, se, q⟩ := h
  obtain ⟨as, r1⟩ := Dp.reads I d x v hd rx
  have h1 := hr.un
  have h2 := sd.2
  have h3 : min (PyData.depthAll ds) d.depth ≤ d.depth := Nat.min_le_right _ _
  rcases he with he | he
  · obtain ⟨bs, r2⟩ := Dp.reads I (.tuple ds) y u he ry
    exact PySem.SeqAt.in_tuple_data r2 r1 se sd.1 (by omega) ⟨.bl _, H, I, rfl, q⟩
  · obtain ⟨bs, r2⟩ := Dp.reads I (.list ds) y u he ry
    exact PySem.SeqAt.in_list_data r2 r1 se sd.1 (by omega) ⟨.bl _, H, I, rfl, q⟩
theorem op_notInP {X : Cx} {k : Nat} (hr : Room k X.A) : OpR X (compareOp .NotIn) (fun x y H Q => ∃ d ds, Dp X.K H x d ∧ (Dp X.K H y (.tuple ds) ∨ Dp X.K H y (.list ds)) ∧ Pl d ∧ PyData.plainAll ds = true ∧ Q (.bl (!ds.any fun z => PyData.eqv z d)) H) := by
  intro pins s σ H x y v u Q I rx ry h
  obtain ⟨d, ds, hd, he, sd, se, q⟩ := h
  obtain ⟨as, r1⟩ := Dp.reads I d x v hd rx
  have h1 := hr.un
  have h2 := sd.2
  have h3 : min (PyData.depthAll ds) d.depth ≤ d.depth := Nat.min_le_right _ _
  rcases he with he | he
  · obtain ⟨bs, r2⟩ := Dp.reads I (.tuple ds) y u he ry
    exact PySem.SeqAt.notIn_tuple_data r2 r1 se sd.1 (by omega) ⟨.bl _, H, I, rfl, q⟩
  · obtain ⟨bs, r2⟩ := Dp.reads I (.list ds) y u he ry
    exact PySem.SeqAt.notIn_list_data r2 r1 se sd.1 (by omega) ⟨.bl _, H, I, rfl, q⟩
def seqD : D → List D
  | .list ds => ds
  | .tuple ds => ds
  | _ => []
def isSeq : D → Bool
  | .list _ => true
  | .tuple _ => true
  | _ => false
def RIn : D → D → Bool → Prop := fun x y c => isSeq y = true ∧ Pl x ∧ PyData.plainAll (seqD y) = true ∧ c = (seqD y).any fun z => PyData.eqv z x
def RNotIn : D → D → Bool → Prop := fun x y c => isSeq y = true ∧ Pl x ∧ PyData.plainAll (seqD y) = true ∧ c = !(seqD y).any fun z => PyData.eqv z x
def kIn (hc : C.hot = false) : CmpK C .In RIn :=
  ⟨fun X => _, fun X ok => op_inP (ok.calm hc).2, fun x y c h X ok W v u k hv hu Q q => by
    obtain ⟨h0, h1, h2, rfl⟩ := h
    have hK := ok.K
    cases y with
    | list ds => exact ⟨x, ds, by rw [hK]; exact hv.dp k, .inr (by rw [hK]; exact hu.dp k), h1, h2, q⟩
    | tuple ds => exact ⟨x, ds, by rw [hK]; exact hv.dp k, .inl (by rw [hK]; exact hu.dp k), h1, h2, q⟩
    | _ => cases h0⟩
def kNotIn (hc : C.hot = false) : CmpK C .NotIn RNotIn :=
  ⟨fun X => _, fun X ok => op_notInP (ok.calm hc).2, fun x y c h X ok W v u k hv hu Q q => by
    obtain ⟨h0, h1, h2, rfl⟩ := h
    have hK := ok.K
    cases y with
    | list ds => exact ⟨x, ds, by rw [hK]; exact hv.dp k, .inr (by rw [hK]; exact hu.dp k), h1, h2, q⟩
    | tuple ds => exact ⟨x, ds, by rw [hK]; exact hv.dp k, .inl (by rw [hK]; exact hu.dp k), h1, h2, q⟩
    | _ => cases h0⟩
/-- a op b op' c -/
theorem evt_chain {op op' : CmpOp} {R R' : D → D → Bool → Prop} {P : Bool → Prop} (K : CmpK C op R) (K' : CmpK C op' R') (ha : EvO C Γ a fun x => EvO C Γ b fun y => ∃ k, R x y k ∧ (k = true → EvO C Γ c fun z => ∃ k', R' y z k' ∧ P k') ∧ (k = false → P false))
    (hm : lastMarks [op, op'] [b, c] = false) : EvT C Γ (.Compare a [op, op'] [b, c] pos) P :=
  fun F W σ S Q kk => tT_of (t := fun X => tTest (tChain (K.r X) (K'.r X) (tE C a) (tE C b) (tE C c))) (fun X ok => pt_chain (K.ho X ok) (K'.ho X ok) (pe_t ok) (pe_t ok) (pe_t ok) hm) fun X ok => ha F W σ S _ fun W1 v x S1 L1 r1 h1 => h1 F W1 σ S1 _ fun W2 u y S2 L2 r2 ⟨k, h2, ht, hf⟩ =>
    K.run x y k h2 X ok W2 v u S2.ok ((r1.le L2).now S2) (r2.now S2) _ ⟨k, rfl, by
      cases k with
      | true =>
        rw [if_pos rfl]
        exact ht rfl F W2 σ S2 _ fun W3 z d S3 L3 r3 ⟨k', h3, p⟩ => K'.run y d k' h3 X ok W3 u z S3.ok ((r2.le L3).now S3) (r3.now S3) _ ⟨k', rfl, kk W3 k' S3 ((L1.trans L2).trans L3) p⟩
      | false =>
        rw [if_neg Bool.false_ne_true]
        exact ⟨false, rfl, kk W2 false S2 (L1.trans L2) (hf rfl)⟩⟩
theorem ev_chain {op op' : CmpOp} {R R' : D → D → Bool → Prop} (K : CmpK C op R) (K' : CmpK C op' R') (ha : EvO C Γ a fun x => EvO C Γ b fun y => ∃ k, R x y k ∧ (k = true → EvO C Γ c fun z => ∃ k', R' y z k' ∧ P (.bool k')) ∧ (k = false → P (.bool false)))
    (hm : lastMarks [op, op'] [b, c] = false) : Ev C Γ (.Compare a [op, op'] [b, c] pos) P :=
  fun F W σ S Q kk => tE_of (t := fun X => tChain (K.r X) (K'.r X) (tE C a) (tE C b) (tE C c)) (fun X ok => pe_chain (K.ho X ok) (K'.ho X ok) (pe_t ok) (pe_t ok) (pe_t ok) hm) fun X ok => ha F W σ S _ fun W1 v x S1 L1 r1 h1 => h1 F W1 σ S1 _ fun W2 u y S2 L2 r2 ⟨k, h2, ht, hf⟩ =>
    K.run x y k h2 X ok W2 v u S2.ok ((r1.le L2).now S2) (r2.now S2) _ ⟨k, rfl, by
      cases k with
      | true =>
        rw [if_pos rfl]
        exact ht rfl F W2 σ S2 _ fun W3 z d S3 L3 r3 ⟨k', h3, p⟩ => K'.run y d k' h3 X ok W3 u z S3.ok ((r2.le L3).now S3) (r3.now S3) _ (kk W3 _ _ S3 ((L1.trans L2).trans L3) (.bl k') p)
      | false =>
        rw [if_neg Bool.false_ne_true]
        exact kk W2 _ _ S2 (L1.trans L2) (.bl false) (hf rfl)⟩

/-! ### truth, and, or, not, if -/
theorem evt_val {P : Bool → Prop} (h : Ev C Γ e (BP P)) (he : ∀ env whole, isTrue e env whole = (do let v ← whole; standAt e.pos; holding [v] (truthy v)) := by intro _ _; rfl) : EvT C Γ e P :=
  fun F W σ S Q k => tT_of (t := fun X => tB (tE C e)) (fun X ok => pt_val (pe_t ok) (fun wh => he X.env wh)) fun X ok => h F W σ S _ fun W1 v x S1 L1 r1 ⟨c, hx, p⟩ => by
    subst hx
    cases r1
    exact ⟨c, rfl, k W1 c S1 L1 p⟩
def truD : D → Bool
  | .none => false
  | .bool b => b
  | .int i => i != 0
  | .str x => (x.length : Int) != 0
  | .list ds => !ds.isEmpty
  | .tuple ds => !ds.isEmpty
  | .dict ds => !ds.isEmpty
def truOk : D → Prop
  | .str x => x.length ≤ sizeLine
  | .dict _ => False
  | _ => True
theorem isEmpty_rpa {K : PySem.W.Frag} {I : Hp} {vs : List V} {ds : List D} (r : RpA K I vs ds) : (!ds.isEmpty) = !vs.isEmpty := by cases r <;> rfl
theorem now_tru {K : PySem.W.Frag} {tabs : List Addr} {v : V} {d : D} (h : Now K W v d) (k : WOk tabs W) (ho : truOk d) : TruV K v W.H (truD d) := by
  cases d with
  | none => rw [h.non]; rfl
  | bool b => rw [h.bool]; rfl
  | int i => rw [h.int]; rfl
  | str x => rw [h.str]; exact ⟨ho, rfl⟩
  | list ds =>
    obtain ⟨p, vs, rfl, h1, h2⟩ := h.list k
    exact .inl ⟨vs, SqL.of h1, isEmpty_rpa h2⟩
  | tuple ds =>
    obtain ⟨p, vs, rfl, h1, h2⟩ := h.tuple k
    exact .inr (.inl ⟨vs, h1, isEmpty_rpa h2⟩)
  | dict _ => exact ho.elim
theorem evt_tru {P : Bool → Prop} (h : EvO C Γ e fun d => truOk d ∧ P (truD d)) (he : ∀ env whole, isTrue e env whole = (do let v ← whole; standAt e.pos; holding [v] (truthy v)) := by intro _ _; rfl) : EvT C Γ e P :=
  fun F W σ S Q k => tT_of (t := fun X => fun σ H Q => tE C e σ H fun x H' => ∃ k, TruV X.K x H' k ∧ Q k H') (fun X ok => pt_truth (pe_t ok) (fun wh => he X.env wh)) fun X ok => h F W σ S _ fun W1 v x S1 L1 r1 ⟨ho, p⟩ =>
    ⟨truD x, by rw [ok.K]; exact now_tru (r1.now S1) S1.ok ho, k W1 _ S1 L1 p⟩
theorem evw_and1 {P : Bool → Prop} (h : EvT C Γ a P) : EvW C Γ (.BoolOp .And [a] pos) P :=
  fun F W σ S Q k => tW_of (t := fun X => tT C a) (fun X ok => pw_and1 (pt_t ok)) fun X ok => h F W σ S Q k
theorem evw_or1 {P : Bool → Prop} (h : EvT C Γ a P) : EvW C Γ (.BoolOp .Or [a] pos) P :=
  fun F W σ S Q k => tW_of (t := fun X => tT C a) (fun X ok => pw_or1 (pt_t ok)) fun X ok => h F W σ S Q k
theorem evw_and {P : Bool → Prop} (h : EvT C Γ a fun x => (x = true → EvW C Γ (.BoolOp .And (b :: es) pos) P) ∧ (x = false → P false)) : EvW C Γ (.BoolOp .And (a :: b :: es) pos) P :=
  fun F W σ S Q k => tW_of (t := fun X => tAnd (tT C a) (tW C (.BoolOp .And (b :: es) pos))) (fun X ok => pw_and (pt_t ok) (pw_t ok)) fun X ok => h F W σ S _ fun W1 x S1 L1 ⟨p1, p2⟩ => by
    cases x with
    | true => exact p1 rfl F W1 σ S1 Q fun W2 y S2 L2 p => k W2 y S2 (L1.trans L2) p
    | false => exact k W1 false S1 L1 (p2 rfl)
theorem evw_or {P : Bool → Prop} (h : EvT C Γ a fun x => (x = false → EvW C Γ (.BoolOp .Or (b :: es) pos) P) ∧ (x = true → P true)) : EvW C Γ (.BoolOp .Or (a :: b :: es) pos) P :=
  fun F W σ S Q k => tW_of (t := fun X => tOr (tT C a) (tW C (.BoolOp .Or (b :: es) pos))) (fun X ok => pw_or (pt_t ok) (pw_t ok)) fun X ok => h F W σ S _ fun W1 x S1 L1 ⟨p1, p2⟩ => by
    cases x with
    | false => exact p1 rfl F W1 σ S1 Q fun W2 y S2 L2 p => k W2 y S2 (L1.trans L2) p
    | true => exact k W1 true S1 L1 (p2 rfl)
theorem evt_not {P : Bool → Prop} (h : EvT C Γ a fun x => P (!x)) : EvT C Γ (.UnaryOp .Not a pos) P :=
  fun F W σ S Q k => tT_of (t := fun X => tNot (tT C a)) (fun X ok => pt_not (pt_t ok)) fun X ok => h F W σ S _ fun W1 x S1 L1 p => k W1 _ S1 L1 p
theorem ev_one {op : BoolOp} (h : Ev C Γ a P) : Ev C Γ (.BoolOp op [a] pos) P :=
  fun F W σ S Q k => tE_of (t := fun X => tE C a) (fun X ok => pe_one (pe_t ok)) fun X ok => h F W σ S Q k
theorem ev_and (h : Ev C Γ a fun x => ∃ c, x = .bool c ∧ (c = true → Ev C Γ (.BoolOp .And (b :: es) pos) P) ∧ (c = false → P (.bool false))) : Ev C Γ (.BoolOp .And (a :: b :: es) pos) P :=
  fun F W σ S Q k => tE_of (t := fun X => tAndV (tE C a) (tE C (.BoolOp .And (b :: es) pos))) (fun X ok => pe_and (pe_t ok) (pe_t ok)) fun X ok => h F W σ S _ fun W1 v x S1 L1 r1 ⟨c, hx, p1, p2⟩ => by
    subst hx
    cases r1
    refine ⟨c, rfl, ?_⟩
    cases c with
    | true =>
      rw [if_pos rfl]
      exact p1 rfl F W1 σ S1 Q fun W2 v d S2 L2 r p => k W2 v d S2 (L1.trans L2) r p
    | false =>
      rw [if_neg Bool.false_ne_true]
      exact k W1 _ _ S1 L1 (.bl false) (p2 rfl)
theorem ev_or (h : Ev C Γ a fun x => ∃ c, x = .bool c ∧ (c = false → Ev C Γ (.BoolOp .Or (b :: es) pos) P) ∧ (c = true → P (.bool true))) : Ev C Γ (.BoolOp .Or (a :: b :: es) pos) P :=
  fun F W σ S Q k => tE_of (t := fun X => tOrV (tE C a) (tE C (.BoolOp .Or (b :: es) pos))) (fun X ok => pe_or (pe_t ok) (pe_t ok)) fun X ok => h F W σ S _ fun W1 v x S1 L1 r1 ⟨c, hx, p1, p2⟩ => by
    subst hx
    cases r1
    refine ⟨c, rfl, ?_⟩
    cases c with
    | false =>
      rw [if_neg Bool.false_ne_true]
      exact p1 rfl F W1 σ S1 Q fun W2 v d S2 L2 r p => k W2 v d S2 (L1.trans L2) r p
    | true =>
      rw [if_pos rfl]
      exact k W1 _ _ S1 L1 (.bl true) (p2 rfl)
theorem ev_not (h : Ev C Γ a fun x => ∃ c, x = .bool c ∧ P (.bool (!c))) : Ev C Γ (.UnaryOp .Not a pos) P :=
  fun F W σ S Q k => tE_of (t := fun X => tNotV (tE C a)) (fun X ok => pe_not (pe_t ok)) fun X ok => h F W σ S _ fun W1 v x S1 L1 r1 ⟨c, hx, p⟩ => by
    subst hx
    cases r1
    exact ⟨c, rfl, k W1 _ _ S1 L1 (.bl _) p⟩
theorem ev_if (h : EvT C Γ c fun x => (x = true → Ev C Γ a P) ∧ (x = false → Ev C Γ b P)) : Ev C Γ (.IfExp c a b pos) P :=
  fun F W σ S Q k => tE_of (t := fun X => tIf (tT C c) (tE C a) (tE C b)) (fun X ok => pe_ifExp (pt_t ok) (pe_t ok) (pe_t ok)) fun X ok => h F W σ S _ fun W1 x S1 L1 ⟨p1, p2⟩ => by
    cases x with
    | true =>
      show tE C a σ W1.H Q
      exact p1 rfl F W1 σ S1 Q fun W2 v d S2 L2 r p => k W2 v d S2 (L1.trans L2) r p
    | false =>
      show tE C b σ W1.H Q
      exact p2 rfl F W1 σ S1 Q fun W2 v d S2 L2 r p => k W2 v d S2 (L1.trans L2) r p
theorem evl_if {P : List D → Prop} (h : EvT C Γ c fun x => (x = true → EvL C Γ a P) ∧ (x = false → EvL C Γ b P)) : EvL C Γ (.IfExp c a b pos) P :=
  fun F W σ S Q k => tE_of (t := fun X => tIf (tT C c) (tE C a) (tE C b)) (fun X ok => pe_ifExp (pt_t ok) (pe_t ok) (pe_t ok)) fun X ok => h F W σ S _ fun W1 x S1 L1 ⟨p1, p2⟩ => by
    cases x with
    | true =>
      show tE C a σ W1.H Q
      exact p1 rfl F W1 σ S1 Q fun W2 p vs ds S2 L2 h1 h2 h3 h4 h5 => k W2 p vs ds S2 (L1.trans L2) (L1.gr p h1) h2 h3 h4 h5
    | false =>
      show tE C b σ W1.H Q
      exact p2 rfl F W1 σ S1 Q fun W2 p vs ds S2 L2 h1 h2 h3 h4 h5 => k W2 p vs ds S2 (L1.trans L2) (L1.gr p h1) h2 h3 h4 h5

/-! ### argument lists, displays -/
theorem eva_nil {P : List D → Prop} (p : P []) : EvA C Γ [] P := fun F W σ S Q k => tA_of (t := fun X => tNil) (fun X ok => pa_nil) fun X ok => k W [] [] S (Le.refl W) .nil p
theorem eva_cons {P : List D → Prop} (h : Ev C Γ e fun x => EvA C Γ es fun xs => P (x :: xs)) (hs : ∀ env, starEach (e :: es) env = (false, eval e env) :: starEach es env := by intro _; rfl) : EvA C Γ (e :: es) P :=
  fun F W σ S Q k => tA_of (t := fun X => tCons (tE C e) (tA C es)) (fun X ok => pa_cons (pe_t ok) (pa_t ok) (hs X.env)) fun X ok => h F W σ S _ fun W1 v x S1 L1 r1 h1 => h1 F W1 σ S1 _ fun W2 vs xs S2 L2 r2 p =>
    k W2 (v :: vs) (x :: xs) S2 (L1.trans L2) (.cons (r1.mono L2.im) r2) p
theorem evao_nil {P : List D → Prop} (p : P []) : EvAO C Γ [] P := fun F W σ S Q k => tA_of (t := fun X => tNil) (fun X ok => pa_nil) fun X ok => k W [] [] S (Le.refl W) .nil p
theorem evao_cons {P : List D → Prop} (h : EvO C Γ e fun x => EvAO C Γ es fun xs => P (x :: xs)) (hs : ∀ env, starEach (e :: es) env = (false, eval e env) :: starEach es env := by intro _; rfl) : EvAO C Γ (e :: es) P :=
  fun F W σ S Q k => tA_of (t := fun X => tCons (tE C e) (tA C es)) (fun X ok => pa_cons (pe_t ok) (pa_t ok) (hs X.env)) fun X ok => h F W σ S _ fun W1 v x S1 L1 r1 h1 => h1 F W1 σ S1 _ fun W2 vs xs S2 L2 r2 p =>
    k W2 (v :: vs) (x :: xs) S2 (L1.trans L2) (.cons (r1.le L2) r2) p
theorem ev_tup {x1 : Nat} (h : EvA C Γ es fun ds => ds.length ≤ sizeLine ∧ P (.tuple ds)) : Ev C Γ (.Tuple es x1 pos) P :=
  fun F W σ S Q k => tE_of (t := fun X => tTup (tA C es)) (fun X ok => pe_tup (pa_t ok)) fun X ok => h F W σ S _ fun W1 vs ds S1 L1 r1 ⟨hl, p⟩ =>
    ⟨by rw [r1.length]; exact hl, fun t ht => k ⟨upd W1.I t (.tup vs), upd W1.H t (.tup vs)⟩ (.ref t) (.tuple ds) (S1.new ht fun _ z => nomatch z) (L1.trans (Le.new S1.ok ht)) (.tup (SqT.of upd_same) (r1.mono (same_new (S1.ok.free ht)))) p⟩
theorem evl_lst {P : List D → Prop} (h : EvA C Γ es fun ds => ds.length ≤ sizeLine ∧ P ds) : EvL C Γ (.List es pos) P :=
  fun F W σ S Q k => tE_of (t := fun X => tLst (tA C es)) (fun X ok => pe_lst (pa_t ok)) fun X ok => h F W σ S _ fun W1 vs ds S1 L1 r1 ⟨hl, p⟩ =>
    ⟨by rw [r1.length]; exact hl, fun t ht => k ⟨W1.I, upd W1.H t (.lst vs)⟩ t vs ds (S1.newH ht) (L1.trans Le.newH) (L1.gr t ht) (S1.ok.free ht) upd_same r1 p⟩
end
end Dl

/-! Dl: tuples repeated, items, slices, calls of built-ins and of defs. -/
namespace Dl
open PySem PySem.Spec PyProof.Rows L2
/-! ### tuple * int -/
theorem tupMul_same (l : Addr) (items : Array Value) (n : Nat) (dd : Option Addr) (sl : Array (Option Value)) (x : Int) (u : Tok) (c0 : (decide (x < -(2 ^ 63)) || decide (x ≥ 2 ^ 63)) = false) (c1 : (items.isEmpty || x == 1) = true) :
    Meets (Builtin.«tuple.__mul__» ⟨[.ref l, .int x u], []⟩) (fun _ R s => s.heap.get? l = some { cls := .type "tuple", dict := dd, data := .seq items n, slots := sl } ∧ R (.ok (.ret (Value.ref l))) s) :=
  .of_wp fun prog w A R s h => by
    obtain ⟨hp, g, d, tk, os⟩ := s
    obtain ⟨hl, h⟩ := h
    have f1 := AutoSeq1.idx_int
    wp_walk using wpAny_loadPart' hl
    repeat (first
      | (refine wpAny_ite_false (decide_eq_false (by rw [c0]; exact Bool.false_ne_true)) ?_; wp_walk using wpAny_loadPart' hl)
      | (refine wpAny_ite_true (decide_eq_true (by exact c1)) ?_; wp_walk using wpAny_loadPart' hl))
    exact ⟨_, rfl, h⟩
theorem tupMul_none (l : Addr) (items : Array Value) (n : Nat) (dd : Option Addr) (sl : Array (Option Value)) (x : Int) (u : Tok) (c0 : (decide (x < -(2 ^ 63)) || decide (x ≥ 2 ^ 63)) = false) (c1 : (items.isEmpty || x == 1) = false) (c2 : (decide (x ≤ 0) || items.isEmpty) = true) :
    Meets (Builtin.«tuple.__mul__» ⟨[.ref l, .int x u], []⟩) (fun _ R s => s.heap.get? l = some { cls := .type "tuple", dict := dd, data := .seq items n, slots := sl } ∧ R (.ok (.ret (Value.ref s.heap.objs.size))) { s with heap := s.heap.push { cls := Value.type "tuple", data := Data.seq #[] }, toks := s.toks }) :=
  .of_wp fun prog w A R s h => by
    obtain ⟨hp, g, d, tk, os⟩ := s
    obtain ⟨hl, h⟩ := h
    have f1 := AutoSeq1.idx_int
    wp_walk using wpAny_loadPart' hl
    repeat (first
      | (refine wpAny_ite_false (decide_eq_false (by rw [c0]; exact Bool.false_ne_true)) ?_; wp_walk using wpAny_loadPart' hl)
      | (refine wpAny_ite_false (decide_eq_false (by rw [c1]; exact Bool.false_ne_true)) ?_; wp_walk using wpAny_loadPart' hl)
      | (refine wpAny_ite_true (decide_eq_true (by exact c2)) ?_; wp_walk using wpAny_loadPart' hl))
    exact ⟨_, rfl, h⟩
def rRepA (K : PySem.W.Frag) : R2 := fun x y H Q => ∃ (l : Addr) (k : Int) (xs : List V), x = .ref l ∧ y = .int k ∧ SqT K H l xs ∧ -(2 ^ 62) ≤ k ∧ k ≤ 1000 ∧ xs.length ≤ 1000 ∧ ((xs = [] ∨ k = 1) → Q (.ref l) H) ∧
  (xs ≠ [] → k ≠ 1 → ∀ p, H p = none → Q (.ref p) (upd H p (.tup (List.replicate k.toNat xs).flatten)))
theorem op_repA {X : Cx} : OpR X (binaryOp .Mult) (rRepA X.K) := by
  intro pins s σ H x y v u Q I rx ry h
  obtain ⟨l, k, xs, rfl, rfl, hT, h1, h2, hz, q1, q2⟩ := h
  by_cases hbig : xs ≠ [] ∧ 2 ≤ k
  · exact op_repT pins s σ H _ _ v u Q I rx ry ⟨l, k, xs, rfl, rfl, hT, hbig.1, hbig.2, h2, hz, q2 hbig.1 (by omega)⟩
  cases rx
  obtain ⟨t, rfl⟩ := ry
  obtain ⟨its, r, ⟨⟨cls, dd, data, sl⟩, ho, hc, n, hd⟩, hs⟩ := I.tuple hT
  simp only at hc hd
  subst hc hd
  have c0 : (decide (k < -(2 ^ 63)) || decide (k ≥ 2 ^ 63)) = false := by
    rw [decide_eq_false (by omega), decide_eq_false (by omega)] <;> rfl
  refine wpAny_binaryOp_repeat_ref (T := "tuple") (U := "int") (by decide) ⟨_, ho, rfl⟩ (fun s' => typeIs_int s' k t) noFill_tuple_mul F.fills_int_mul F.slot_int_rmul repeat_tuple F.slot_int_index.lookup
    (call_meets F.slot_int_rmul (typeIs_int s k t) F.entry_int_rmul (F.args_int_rmul_2 _ _) (int_rmul_tuple k t l its.toArray n dd sl) ⟨ho, rfl, ⟨_, ho, rfl⟩, ?_⟩)
  by_cases h3 : xs = [] ∨ k = 1
  · refine call_meets F.slot_tuple_mul ⟨_, ho, rfl⟩ F.entry_tuple_mul (F.args_tuple_mul_2 _ _) (tupMul_same l its.toArray n dd sl k t c0 ?_) ⟨ho, ⟨.ref l, H, I, rfl, q1 h3⟩⟩
    rcases h3 with h3 | h3
    · subst h3
      cases r
      rfl
    · subst h3
      simp
  · have hne : xs ≠ [] := fun e => h3 (.inl e)
    have hk : k ≠ 1 := fun e => h3 (.inr e)
    have hk0 : k ≤ 0 := by
      by_cases z : 2 ≤ k
      · exact absurd ⟨hne, z⟩ hbig
      · omega
    have hi : its.toArray.isEmpty = false := by
      cases r with
      | nil => exact absurd rfl hne
      | cons _ _ => rfl
    refine call_meets F.slot_tuple_mul ⟨_, ho, rfl⟩ F.entry_tuple_mul (F.args_tuple_mul_2 _ _) (tupMul_none l its.toArray n dd sl k t c0 (by rw [hi, Bool.false_or]; exact beq_eq_false_iff_ne.mpr hk) (by rw [decide_eq_true hk0, Bool.true_or])) ⟨ho, ?_⟩
    have e0 : k.toNat = 0 := by omega
    have q3 := q2 hne hk
    rw [e0] at q3
    refine ⟨.ref s.heap.objs.size, _, I.laid (t' := s.toks) (o := .tup (List.replicate 0 xs).flatten) (fun b ob q => Heap.get?_push_of_some _ q) (Nat.le_refl _) ?_, rfl, q3 _ (I.hok.fresh (Nat.le_refl _))⟩
    exact ⟨Nat.zero_le _, [], .nil, IsTup.new _ _⟩

section
variable {C : Cfg} {Γ : List SV} {a b c e : Expr} {es : List Expr} {F : Fr} {W W' : Wd} {σ : L2.St} {pos : Pos} {P : D → Prop}
theorem ev_repT (ha : EvO C Γ a fun x => ∃ xs, x = .tuple xs ∧ EvO C Γ b fun y => ∃ j : Int, y = .int j ∧ -(2 ^ 62) ≤ j ∧ j ≤ 1000 ∧ xs.length ≤ 1000 ∧ P (.tuple (List.replicate j.toNat xs).flatten)) : Ev C Γ (.BinOp a .Mult b pos) P :=
  ev_bin (r := fun X => rRepA X.K) (fun _ _ => op_repA) (ha.imp fun x ⟨xs, hx, hb⟩ => hb.imp fun y ⟨j, hy, h1, h2, hl, p⟩ => by
    subst hx; subst hy
    intro X ok W v u k hv hu Q q
    have hK := ok.K
    obtain ⟨pa, va, e1, h3, r1⟩ := hv.tuple k
    refine ⟨pa, j, va, e1, hu.int, by rw [hK]; exact h3, h1, h2, by rw [r1.length]; exact hl, fun hz => ?_, fun hn hj t ht => ?_⟩
    · have e : (List.replicate j.toNat xs).flatten = xs := by
        rcases hz with hz | hz
        · subst hz; cases r1
          induction j.toNat with
          | zero => rfl
          | succ n ih => rw [List.replicate_succ, List.flatten_cons, ih]; rfl
        · subst hz
          show (List.replicate 1 xs).flatten = xs
          simp
      rw [e] at p
      subst e1
      rcases hv with hv | ⟨_, _, _, z, _⟩
      · exact q W (.ref pa) (.tuple xs) k (Le.refl W) (Ext.refl _) hv p
      · cases z
    · exact q ⟨upd W.I t (.tup _), upd W.H t (.tup _)⟩ (.ref t) _ (k.new ht fun _ z => nomatch z) (Le.new k ht) (same_ext (same_new ht)) (.tup (SqT.of upd_same) ((r1.flatten _).mono (same_new (k.free ht)))) p)

/-! ### items -/
theorem atI_rpa {K : PySem.W.Frag} {I : Hp} {vs : List V} {ds : List D} {i : Int} {d : D} (r : RpA K I vs ds) (h : atI ds i = some d) : ∃ v, atI vs i = some v ∧ Rp K I v d := by
  unfold atI at h ⊢
  rw [r.length]
  cases e : ixN ds.length i with
  | none => rw [e] at h; cases h
  | some j =>
    rw [e] at h
    exact r.get' h
theorem ev_ix (ha : EvO C Γ a fun x => isSeq x = true ∧ EvO C Γ b fun y => ∃ i d, y = .int i ∧ atI (seqD x) i = some d ∧ P d) (hs : PlainIx b := by intro _ _; rfl) : Ev C Γ (.Subscript a b pos) P :=
  fun F W σ S Q k => tE_of (t := fun X => tOp (fun x y H Q => rIxL X.K x y H Q ∨ rIxT X.K x y H Q) (tE C a) (tE C b)) (fun X ok => pe_ix (ix_list.or ix_tup) (pe_t ok) (pe_t ok) hs) fun X ok => ha F W σ S _ fun W1 v x S1 L1 r1 ⟨hq, h1⟩ => h1 F W1 σ S1 _ fun W2 u y S2 L2 r2 ⟨i, d, hy, hd, p⟩ => by
    subst hy
    have hu := (r2.now S2).int
    subst hu
    have hn := (r1.le L2).now S2
    cases x with
    | list ds =>
      obtain ⟨q, vs, e, h3, h4⟩ := hn.list S2.ok
      obtain ⟨z, h5, h6⟩ := atI_rpa h4 hd
      exact .inl ⟨q, vs, i, z, e, rfl, SqL.of h3, h5, k W2 z d S2 (L1.trans L2) h6 p⟩
    | tuple ds =>
      obtain ⟨q, vs, e, h3, h4⟩ := hn.tuple S2.ok
      obtain ⟨z, h5, h6⟩ := atI_rpa h4 hd
      exact .inr ⟨q, vs, i, z, e, rfl, by rw [ok.K]; exact h3, h5, k W2 z d S2 (L1.trans L2) h6 p⟩
    | _ => cases hq
/-- a text's sign -/
theorem ev_ixS (ha : EvO C Γ a fun x => ∃ z, x = .str z ∧ z.length ≤ sizeLine ∧ EvO C Γ b fun y => ∃ i c, y = .int i ∧ atI z.cps.toList i = some c ∧ P (.str ⟨#[c]⟩)) (hs : PlainIx b := by intro _ _; rfl) : Ev C Γ (.Subscript a b pos) P :=
  fun F W σ S Q k => tE_of (t := fun X => tOp rIxS (tE C a) (tE C b)) (fun X ok => pe_ix ix_str (pe_t ok) (pe_t ok) hs) fun X ok => ha F W σ S _ fun W1 v x S1 L1 r1 ⟨z, hx, hz, h1⟩ => h1 F W1 σ S1 _ fun W2 u y S2 L2 r2 ⟨i, c, hy, hd, p⟩ => by
    subst hx; subst hy
    have hu := (r2.now S2).int
    subst hu
    have hn := ((r1.le L2).now S2).str
    subst hn
    exact ⟨z, i, c, rfl, rfl, hz, hd, k W2 _ _ S2 (L1.trans L2) (.str _) p⟩

/-! ### slices -/
/-- a part of a slice -/
def EvP (C : Cfg) (Γ : List SV) (e : Option Expr) (Post : Option Int → Prop) : Prop := match e with
  | none => Post none
  | some e => EvO C Γ e fun x => ∃ i, x = .int i ∧ Post (some i)
def tP (C : Cfg) (e : Option Expr) : TO := match e with
  | none => tNoPart
  | some e => tPart (tE C e)
theorem po_t {X : Cx} (ok : OkX C X) {e : Option Expr} : PO X e (tP C e) := by
  cases e with
  | none => exact po_none
  | some e => exact po_some (pe_t ok)
theorem EvP.run {e : Option Expr} {Post : Option Int → Prop} (h : EvP C Γ e Post) (S : Sto C F W σ Γ) {Q : Option Int → Hp → Prop} (k : ∀ W' o, Sto C F W' σ Γ → Le W W' → Post o → Q o W'.H) : tP C e σ W.H Q := by
  cases e with
  | none => exact k W none S (Le.refl W) h
  | some e =>
    exact h F W σ S _ (fun W1 v x S1 L1 r1 hx => hx.elim fun i hx => ⟨i, (hx.1 ▸ r1.now S1 : Now C.K W1 v (.int i)).int, k W1 (some i) S1 L1 hx.2⟩)
def cutD (ds : List D) (lo hi : Option Int) : List D := (ds.drop (HT.sIx ds.length 0 lo)).take (HT.sIx ds.length ds.length hi - HT.sIx ds.length 0 lo)
theorem RpA.cut {K : PySem.W.Frag} {I : Hp} {vs : List V} {ds : List D} (r : RpA K I vs ds) (lo hi : Option Int) : RpA K I (cutV vs lo hi) (cutD ds lo hi) := by
  unfold cutV cutD
  rw [r.length]
  exact (r.drop _).take _
theorem ev_slT {lo hi : Option Expr} {p2 : Pos} (ha : EvO C Γ a fun x => ∃ ds, x = .tuple ds ∧ EvP C Γ lo fun l => EvP C Γ hi fun h => P (.tuple (cutD ds l h))) : Ev C Γ (.Subscript a (.Slice lo hi none p2) pos) P :=
  fun F W σ S Q k => tE_of (t := fun X => tSl (rSlA X.K) (tE C a) (tP C lo) (tP C hi)) (fun X ok => pe_slice sl_tupA (pe_t ok) (po_t ok) (po_t ok)) fun X ok => ha F W σ S _ fun W1 v x S1 L1 r1 ⟨ds, hx, h1⟩ => h1.run S1 fun W2 l S2 L2 h2 => h2.run S2 fun W3 h S3 L3 p => by
    subst hx
    have hn := ((r1.le L2).le L3).now S3
    obtain ⟨q, vs, e, h3, h4⟩ := hn.tuple S3.ok
    refine ⟨q, vs, e, by rw [ok.K]; exact h3, fun hw => ?_, fun hw t ht => ?_⟩
    · subst e
      rcases hn with hn | ⟨_, _, _, z, _⟩
      · have e2 : cutD ds l h = ds := by
          unfold cutD
          rw [h4.length] at hw
          rw [hw.1, hw.2]
          simp
        rw [e2] at p
        exact k W3 _ _ S3 ((L1.trans L2).trans L3) hn p
      · cases z
    · exact k ⟨upd W3.I t (.tup _), upd W3.H t (.tup _)⟩ (.ref t) _ (S3.new ht fun _ z => nomatch z) (((L1.trans L2).trans L3).trans (Le.new S3.ok ht)) (.tup (SqT.of upd_same) ((h4.cut l h).mono (same_new (S3.ok.free ht)))) p
theorem evl_sl {lo hi : Option Expr} {p2 : Pos} {P : List D → Prop} (ha : EvO C Γ a fun x => ∃ ds, x = .list ds ∧ EvP C Γ lo fun l => EvP C Γ hi fun h => P (cutD ds l h)) : EvL C Γ (.Subscript a (.Slice lo hi none p2) pos) P :=
  fun F W σ S Q k => tE_of (t := fun X => tSl (rSlL X.K) (tE C a) (tP C lo) (tP C hi)) (fun X ok => pe_slice sl_list (pe_t ok) (po_t ok) (po_t ok)) fun X ok => ha F W σ S _ fun W1 v x S1 L1 r1 ⟨ds, hx, h1⟩ => h1.run S1 fun W2 l S2 L2 h2 => h2.run S2 fun W3 h S3 L3 p => by
    subst hx
    have hn := ((r1.le L2).le L3).now S3
    obtain ⟨q, vs, e, h3, h4⟩ := hn.list S3.ok
    exact ⟨q, vs, e, SqL.of h3, fun t ht => k ⟨W3.I, upd W3.H t (.lst _)⟩ t _ _ (S3.newH ht) (((L1.trans L2).trans L3).trans Le.newH) (((L1.trans L2).trans L3).gr t ht) (S3.ok.free ht) upd_same (h4.cut l h) p⟩
theorem ev_slS {lo hi : Option Expr} {p2 : Pos} (ha : EvO C Γ a fun x => ∃ z, x = .str z ∧ z.length ≤ sizeLine ∧ EvP C Γ lo fun l => EvP C Γ hi fun h => P (.str (cutS z l h))) : Ev C Γ (.Subscript a (.Slice lo hi none p2) pos) P :=
  fun F W σ S Q k => tE_of (t := fun X => tSl rSlS (tE C a) (tP C lo) (tP C hi)) (fun X ok => pe_slice sl_str (pe_t ok) (po_t ok) (po_t ok)) fun X ok => ha F W σ S _ fun W1 v x S1 L1 r1 ⟨z, hx, hz, h1⟩ => h1.run S1 fun W2 l S2 L2 h2 => h2.run S2 fun W3 h S3 L3 p => by
    subst hx
    have hn := (((r1.le L2).le L3).now S3).str
    subst hn
    exact ⟨z, rfl, hz, k W3 _ _ S3 ((L1.trans L2).trans L3) (.str _) p⟩

/-! ### built-ins called -/
def OpA (C : Cfg) (r : Cx → List V → Hp → VK → Prop) (ds : List D) (P : D → Prop) : Prop := ∀ X, OkX C X → ∀ (W : Wd) (vs : List V), WOk C.tabs W → NowA C.K W vs ds → ∀ Q : VK,
  (∀ W' z d, WOk C.tabs W' → Le W W' → Ext W.H W'.H → Rp C.K W'.I z d → P d → Q z W'.H) → r X vs W.H Q
def OpAL (C : Cfg) (r : Cx → List V → Hp → VK → Prop) (ds : List D) (P : List D → Prop) : Prop := ∀ X, OkX C X → ∀ (W : Wd) (vs : List V), WOk C.tabs W → NowA C.K W vs ds → ∀ Q : VK,
  (∀ p vs ds, W.H p = none → RpA C.K W.I vs ds → P ds → Q (.ref p) (upd W.H p (.lst vs))) → r X vs W.H Q
theorem OpA.flat {r : Cx → List V → Hp → VK → Prop} {ds : List D} {d : D} {z : V} (h : ∀ X, OkX C X → ∀ (W : Wd) (vs : List V), WOk C.tabs W → NowA C.K W vs ds → ∀ Q : VK, Q z W.H → r X vs W.H Q) (rz : ∀ I, Rp C.K I z d) (p : P d) : OpA C r ds P :=
  fun X ok W vs k hv Q q => h X ok W vs k hv Q (q W z d k (Le.refl W) (Ext.refl _) (rz _) p)
theorem NowA.one {K : PySem.W.Frag} {vs : List V} {d : D} (h : NowA K W vs [d]) : ∃ v, vs = [v] ∧ Now K W v d := by
  cases h with
  | cons h1 h2 => cases h2; exact ⟨_, rfl, h1⟩
theorem NowA.two {K : PySem.W.Frag} {vs : List V} {d e : D} (h : NowA K W vs [d, e]) : ∃ v u, vs = [v, u] ∧ Now K W v d ∧ Now K W u e := by
  cases h with
  | cons h1 h2 => cases h2 with
    | cons h2 h3 => cases h3; exact ⟨_, _, rfl, h1, h2⟩
theorem ev_callB {x : Str} {p : Pos} {id : String} {r : Cx → List V → Hp → VK → Prop} (hc : ∀ X, OkX C X → CallR X (.builtin id) (r X)) (g : GlobOk C.sc x) (hm : C.mg x = none) (hv : bootBuiltins x = some (.builtin id)) (ha : EvAO C Γ (e :: es) fun ds => OpA C r ds P)
    (he : ∀ env, starEach (e :: es) env = (false, eval e env) :: starEach es env := by intro _; rfl) (hpl : ∀ env, (backTo pos (starEach es env)).any (·.1) = false := by intro _; rfl) : Ev C Γ (.Call (.Name x p) (e :: es) [] pos) P :=
  fun F W σ S Q k => tE_of (t := fun X => tCB (r X) (tA C (e :: es))) (fun X ok => pe_callB (hc X ok) (g.gl ok) (by rw [ok.mg]; exact hm) hv (pa_t ok) g.d2 g.d1 (he X.env) (hpl X.env)) fun X ok => ha F W σ S _ fun W1 vs ds S1 L1 r1 h1 =>
    h1 X ok W1 vs S1.ok (r1.now S1) Q fun W3 z d k3 L3 e3 r3 p3 => k W3 z d (S1.step k3 L3 e3) (L1.trans L3) r3 p3
theorem ev_callT {x : Str} {p : Pos} {T : String} {r : Cx → List V → Hp → VK → Prop} (hc : ∀ X, OkX C X → CallR X (.type T) (r X)) (g : GlobOk C.sc x) (hm : C.mg x = none) (hv : bootBuiltins x = some (.type T)) (ha : EvAO C Γ (e :: es) fun ds => OpA C r ds P)
    (he : ∀ env, starEach (e :: es) env = (false, eval e env) :: starEach es env := by intro _; rfl) (hpl : ∀ env, (backTo pos (starEach es env)).any (·.1) = false := by intro _; rfl) : Ev C Γ (.Call (.Name x p) (e :: es) [] pos) P :=
  fun F W σ S Q k => tE_of (t := fun X => tCB (r X) (tA C (e :: es))) (fun X ok => pe_callTy (hc X ok) (g.gl ok) (by rw [ok.mg]; exact hm) hv (pa_t ok) g.d2 g.d1 (he X.env) (hpl X.env)) fun X ok => ha F W σ S _ fun W1 vs ds S1 L1 r1 h1 =>
    h1 X ok W1 vs S1.ok (r1.now S1) Q fun W3 z d k3 L3 e3 r3 p3 => k W3 z d (S1.step k3 L3 e3) (L1.trans L3) r3 p3
theorem evl_callB {x : Str} {p : Pos} {id : String} {r : Cx → List V → Hp → VK → Prop} {P : List D → Prop} (hc : ∀ X, OkX C X → CallR X (.builtin id) (r X)) (g : GlobOk C.sc x) (hm : C.mg x = none) (hv : bootBuiltins x = some (.builtin id)) (ha : EvAO C Γ (e :: es) fun ds => OpAL C r ds P)
    (he : ∀ env, starEach (e :: es) env = (false, eval e env) :: starEach es env := by intro _; rfl) (hpl : ∀ env, (backTo pos (starEach es env)).any (·.1) = false := by intro _; rfl) : EvL C Γ (.Call (.Name x p) (e :: es) [] pos) P :=
  fun F W σ S Q k => tE_of (t := fun X => tCB (r X) (tA C (e :: es))) (fun X ok => pe_callB (hc X ok) (g.gl ok) (by rw [ok.mg]; exact hm) hv (pa_t ok) g.d2 g.d1 (he X.env) (hpl X.env)) fun X ok => ha F W σ S _ fun W1 vs ds S1 L1 r1 h1 =>
    h1 X ok W1 vs S1.ok (r1.now S1) Q fun p us es h2 h3 h4 => k ⟨W1.I, upd W1.H p (.lst us)⟩ p us es (S1.newH h2) (L1.trans Le.newH) (L1.gr p h2) (S1.ok.free h2) upd_same h3 h4
theorem evl_callT {x : Str} {p : Pos} {T : String} {r : Cx → List V → Hp → VK → Prop} {P : List D → Prop} (hc : ∀ X, OkX C X → CallR X (.type T) (r X)) (g : GlobOk C.sc x) (hm : C.mg x = none) (hv : bootBuiltins x = some (.type T)) (ha : EvAO C Γ (e :: es) fun ds => OpAL C r ds P)
    (he : ∀ env, starEach (e :: es) env = (false, eval e env) :: starEach es env := by intro _; rfl) (hpl : ∀ env, (backTo pos (starEach es env)).any (·.1) = false := by intro _; rfl) : EvL C Γ (.Call (.Name x p) (e :: es) [] pos) P :=
  fun F W σ S Q k => tE_of (t := fun X => tCB (r X) (tA C (e :: es))) (fun X ok => pe_callTy (hc X ok) (g.gl ok) (by rw [ok.mg]; exact hm) hv (pa_t ok) g.d2 g.d1 (he X.env) (hpl X.env)) fun X ok => ha F W σ S _ fun W1 vs ds S1 L1 r1 h1 =>
    h1 X ok W1 vs S1.ok (r1.now S1) Q fun p us es h2 h3 h4 => k ⟨W1.I, upd W1.H p (.lst us)⟩ p us es (S1.newH h2) (L1.trans Le.newH) (L1.gr p h2) (S1.ok.free h2) upd_same h3 h4
theorem bt_len : bootBuiltins "len" = some (.builtin "len") := by decide +kernel
theorem bt_abs : bootBuiltins "abs" = some (.builtin "abs") := by decide +kernel
theorem bt_sum : bootBuiltins "sum" = some (.builtin "sum") := by decide +kernel
theorem bt_max : bootBuiltins "max" = some (.builtin "max") := by decide +kernel
theorem bt_min : bootBuiltins "min" = some (.builtin "min") := by decide +kernel
theorem bt_all : bootBuiltins "all" = some (.builtin "all") := by decide +kernel
theorem bt_any : bootBuiltins "any" = some (.builtin "any") := by decide +kernel
theorem bt_sorted : bootBuiltins "sorted" = some (.builtin "sorted") := by decide +kernel
theorem bt_isinstance : bootBuiltins "isinstance" = some (.builtin "isinstance") := by decide +kernel
theorem bt_int : bootBuiltins "int" = some (.type "int") := by decide +kernel
theorem bt_bool : bootBuiltins "bool" = some (.type "bool") := by decide +kernel
theorem bt_str : bootBuiltins "str" = some (.type "str") := by decide +kernel
theorem bt_tuple : bootBuiltins "tuple" = some (.type "tuple") := by decide +kernel
theorem bt_list : bootBuiltins "list" = some (.type "list") := by decide +kernel
theorem bt_dict : bootBuiltins "dict" = some (.type "dict") := by decide +kernel
theorem bt_set : bootBuiltins "set" = some (.type "set") := by decide +kernel
theorem bt_range : bootBuiltins "range" = some (.type "range") := by decide +kernel

def lenD : D → Option Int
  | .list ds => some ds.length
  | .tuple ds => some ds.length
  | .str x => if x.length ≤ sizeLine then some x.length else none
  | _ => none
theorem now_len {K : PySem.W.Frag} {tabs : List Addr} {v : V} {d : D} {n : Int} (h : Now K W v d) (k : WOk tabs W) (hl : lenD d = some n) : ∃ m : Nat, n = m ∧ LenV K v W.H m := by
  cases d with
  | list ds =>
    obtain ⟨p, vs, rfl, h1, h2⟩ := h.list k
    cases hl
    exact ⟨ds.length, rfl, .inl ⟨vs, SqL.of h1, h2.length.symm⟩⟩
  | tuple ds =>
    obtain ⟨p, vs, rfl, h1, h2⟩ := h.tuple k
    cases hl
    exact ⟨ds.length, rfl, .inr ⟨vs, h1, h2.length.symm⟩⟩
  | str x =>
    have e := h.str
    subst e
    by_cases hx : x.length ≤ sizeLine
    · have e2 : lenD (.str x) = some (x.length : Int) := if_pos hx
      rw [e2] at hl
      cases hl
      exact ⟨x.length, rfl, hx, rfl⟩
    · have e2 : lenD (.str x) = none := if_neg hx
      rw [e2] at hl
      cases hl
  | _ => cases hl
theorem ev_len {p : Pos} (g : GlobOk C.sc "len") (hm : C.mg "len" = none) (ha : EvO C Γ a fun x => ∃ n, lenD x = some n ∧ P (.int n)) (hs : ∀ env, starEach [a] env = (false, eval a env) :: starEach [] env := by intro _; rfl) : Ev C Γ (.Call (.Name "len" p) [a] [] pos) P :=
  ev_callB (r := fun X => fun xs H Q => ∃ x n, xs = [x] ∧ LenV X.K x H n ∧ Q (.int n) H) (fun X ok => call_len) g hm bt_len (evao_cons (ha.imp fun x ⟨n, hn, p⟩ => evao_nil (OpA.flat (z := .int n) (fun X ok W vs k hv Q q => by
    obtain ⟨v, rfl, h⟩ := hv.one
    obtain ⟨m, rfl, h2⟩ := now_len h k hn
    exact ⟨v, m, rfl, by rw [ok.K]; exact h2, q⟩) (fun _ => .int _) p)) hs) hs
theorem ev_abs {p : Pos} (g : GlobOk C.sc "abs") (hm : C.mg "abs" = none) (ha : EvO C Γ a fun x => ∃ n : Int, x = .int n ∧ P (.int n.natAbs)) (hs : ∀ env, starEach [a] env = (false, eval a env) :: starEach [] env := by intro _; rfl) : Ev C Γ (.Call (.Name "abs" p) [a] [] pos) P :=
  ev_callB (fun X ok => call_abs) g hm bt_abs (evao_cons (ha.imp fun x ⟨n, hn, p⟩ => evao_nil (OpA.flat (z := .int n.natAbs) (fun X ok W vs k hv Q q => by
    subst hn
    obtain ⟨v, rfl, h⟩ := hv.one
    have e : (if n < 0 then -n else n) = n.natAbs := by split <;> omega
    exact ⟨n, by rw [h.int], by rw [e]; exact q⟩) (fun _ => .int _) p)) hs) hs
def intD : D → Option Int
  | .int i => some i
  | .bool b => some (if b then 1 else 0)
  | _ => none
theorem ev_toInt {p : Pos} (g : GlobOk C.sc "int") (hm : C.mg "int" = none) (ha : EvO C Γ a fun x => ∃ n, intD x = some n ∧ P (.int n)) (hs : ∀ env, starEach [a] env = (false, eval a env) :: starEach [] env := by intro _; rfl) : Ev C Γ (.Call (.Name "int" p) [a] [] pos) P :=
  ev_callT (fun X ok => call_int1) g hm bt_int (evao_cons (ha.imp fun x ⟨n, hn, p⟩ => evao_nil (OpA.flat (z := .int n) (fun X ok W vs k hv Q q => by
    obtain ⟨v, rfl, h⟩ := hv.one
    cases x with
    | int i => cases hn; exact .inl ⟨n, by rw [h.int], q⟩
    | bool b => cases hn; exact .inr ⟨b, by rw [h.bool], q⟩
    | _ => cases hn) (fun _ => .int _) p)) hs) hs
theorem ev_tuple {p : Pos} (g : GlobOk C.sc "tuple") (hm : C.mg "tuple" = none) (ha : EvO C Γ a fun x => isSeq x = true ∧ P (.tuple (seqD x))) (hs : ∀ env, starEach [a] env = (false, eval a env) :: starEach [] env := by intro _; rfl) : Ev C Γ (.Call (.Name "tuple" p) [a] [] pos) P :=
  ev_callT (fun X ok => call_tuple_of) g hm bt_tuple (evao_cons (ha.imp fun x ⟨hq, p⟩ => evao_nil (fun X ok W vs k hv Q q => by
    obtain ⟨v, rfl, h⟩ := hv.one
    cases x with
    | list ds =>
      obtain ⟨t, us, e, h1, h2⟩ := h.list k
      subst e
      exact ⟨t, us, rfl, .inl ⟨SqL.of h1, fun l hl => q ⟨upd W.I l (.tup us), upd W.H l (.tup us)⟩ (.ref l) (.tuple ds) (k.new hl fun _ z => nomatch z) (Le.new k hl) (same_ext (same_new hl)) (.tup (SqT.of upd_same) (h2.mono (same_new (k.free hl)))) p⟩⟩
    | tuple ds =>
      obtain ⟨t, us, e, h1, h2⟩ := h.tuple k
      subst e
      rcases h with h | ⟨_, _, _, z, _⟩
      · exact ⟨t, us, rfl, .inr ⟨by rw [ok.K]; exact h1, q W (.ref t) (.tuple ds) k (Le.refl W) (Ext.refl _) h p⟩⟩
      · cases z
    | _ => cases hq)) hs) hs
theorem evl_list {p : Pos} {P : List D → Prop} (g : GlobOk C.sc "list") (hm : C.mg "list" = none) (ha : EvO C Γ a fun x => isSeq x = true ∧ P (seqD x)) (hs : ∀ env, starEach [a] env = (false, eval a env) :: starEach [] env := by intro _; rfl) : EvL C Γ (.Call (.Name "list" p) [a] [] pos) P :=
  evl_callT (fun X ok => call_list_of) g hm bt_list (evao_cons (ha.imp fun x ⟨hq, p⟩ => evao_nil (fun X ok W vs k hv Q q => by
    obtain ⟨v, rfl, h⟩ := hv.one
    cases x with
    | list ds =>
      obtain ⟨t, us, e, h1, h2⟩ := h.list k
      exact ⟨t, us, by rw [e], .inl (SqL.of h1), fun l hl => q l us ds hl h2 p⟩
    | tuple ds =>
      obtain ⟨t, us, e, h1, h2⟩ := h.tuple k
      exact ⟨t, us, by rw [e], .inr (by rw [ok.K]; exact h1), fun l hl => q l us ds hl h2 p⟩
    | _ => cases hq)) hs) hs
theorem max_two (i j : Int) : (if j > i then j else i) = max i j := by
  by_cases h : j > i
  · rw [if_pos h]; omega
  · rw [if_neg h]; omega
theorem min_two (i j : Int) : (if j < i then j else i) = min i j := by
  by_cases h : j < i
  · rw [if_pos h]; omega
  · rw [if_neg h]; omega
theorem ev_max2 {p : Pos} (hh : C.hot = false) (g : GlobOk C.sc "max") (hm : C.mg "max" = none) (ha : EvO C Γ a fun x => ∃ i, x = .int i ∧ EvO C Γ b fun y => ∃ j, y = .int j ∧ P (.int (max i j))) (hs : ∀ env, starEach [a, b] env = (false, eval a env) :: starEach [b] env := by intro _; rfl)
    (hs' : ∀ env, starEach [b] env = (false, eval b env) :: starEach [] env := by intro _; rfl) (hpl : ∀ env, (backTo pos (starEach [b] env)).any (·.1) = false := by intro _; rfl) : Ev C Γ (.Call (.Name "max" p) [a, b] [] pos) P :=
  ev_callB (fun X ok => call_max2 (ok.calm hh).1) g hm bt_max (evao_cons (ha.imp fun x ⟨i, hx, hb⟩ => evao_cons (hb.imp fun y ⟨j, hy, p⟩ => evao_nil (OpA.flat (z := .int (max i j)) (fun X ok W vs k hv Q q => by
    subst hx; subst hy
    obtain ⟨v, u, rfl, h1, h2⟩ := hv.two
    exact ⟨i, j, by rw [h1.int, h2.int], by rw [max_two]; exact q⟩) (fun _ => .int _) p)) hs') hs) hs hpl
theorem ev_min2 {p : Pos} (hh : C.hot = false) (g : GlobOk C.sc "min") (hm : C.mg "min" = none) (ha : EvO C Γ a fun x => ∃ i, x = .int i ∧ EvO C Γ b fun y => ∃ j, y = .int j ∧ P (.int (min i j))) (hs : ∀ env, starEach [a, b] env = (false, eval a env) :: starEach [b] env := by intro _; rfl)
    (hs' : ∀ env, starEach [b] env = (false, eval b env) :: starEach [] env := by intro _; rfl) (hpl : ∀ env, (backTo pos (starEach [b] env)).any (·.1) = false := by intro _; rfl) : Ev C Γ (.Call (.Name "min" p) [a, b] [] pos) P :=
  ev_callB (fun X ok => call_min2 (ok.calm hh).1) g hm bt_min (evao_cons (ha.imp fun x ⟨i, hx, hb⟩ => evao_cons (hb.imp fun y ⟨j, hy, p⟩ => evao_nil (OpA.flat (z := .int (min i j)) (fun X ok W vs k hv Q q => by
    subst hx; subst hy
    obtain ⟨v, u, rfl, h1, h2⟩ := hv.two
    exact ⟨i, j, by rw [h1.int, h2.int], by rw [min_two]; exact q⟩) (fun _ => .int _) p)) hs') hs) hs hpl
/-- sum of ints, a list or a tuple -/
theorem call_sumT {X : Cx} (hc : X.calm = true) : CallR X (.builtin "sum") (fun vs H Q => ∃ (a : Addr) (ns : List Int), vs = [V.ref a] ∧ SqT X.K H a (ns.map V.int) ∧ Q (.int ns.sum) H) := by
  intro pins s σ H vs us Q I r h
  obtain ⟨a, ns, rfl, hs, q⟩ := h
  obtain ⟨its, rv, ⟨o, ho, hc', n, hd⟩, _⟩ := I.tuple hs
  rw [Vals.ref1 r]
  have hh := I.ok.hd hc
  obtain ⟨xs, e⟩ := (intsAre_of rv).allInts.items
  have hn : numsOf (intItems xs).toList = ns := by rw [← e]; exact (intsAre_of rv).numsOf
  rw [nums_intItems] at hn
  rw [e] at hd
  refine call_sum_walkAnyS (PySem.W.iter_tupleW (A := X.A.in1) hh (vs := intItems xs) ⟨o, ho, hc', n, hd⟩ fun s₂ e₂ Wk st hfp hw hk => ?_)
  refine ⟨_, _, _, _, _, _, _, numAt xs, rfl, Wk, st, hfp, (fun _ _ => intItems_at), fun s' t' m => ?_⟩
  obtain ⟨h', tk, rfl, hk'⟩ := PySem.W.moved_old e₂ rfl m
  have e3 : preSum (numAt xs) (intItems xs).size = ns.sum := by
    have e4 : (intItems xs).size = xs.size := by simp [intItems]
    rw [e4, preSum_eq, List.take_of_length_le (by simp), hn]
  rw [e3]
  exact ⟨.int _, H, I.kept hk', ⟨_, rfl⟩, q⟩
theorem ev_sum {p : Pos} (hh : C.hot = false) (g : GlobOk C.sc "sum") (hm : C.mg "sum" = none) (ha : EvO C Γ a fun x => ∃ ns : List Int, isSeq x = true ∧ seqD x = ns.map PyData.int ∧ P (.int ns.sum)) (hs : ∀ env, starEach [a] env = (false, eval a env) :: starEach [] env := by intro _; rfl) : Ev C Γ (.Call (.Name "sum" p) [a] [] pos) P :=
  ev_callB (r := fun X => fun vs H Q => rSum X.K vs H Q ∨ ∃ (a : Addr) (ns : List Int), vs = [V.ref a] ∧ SqT X.K H a (ns.map V.int) ∧ Q (.int ns.sum) H) (fun X ok => fun pins s σ H vs us Q I r h => by
      rcases h with h | h
      · exact cr_sum (ok.calm hh).1 pins s σ H vs us Q I r h
      · exact call_sumT (ok.calm hh).1 pins s σ H vs us Q I r h) g hm bt_sum (evao_cons (ha.imp fun x ⟨ns, hq, hx, p⟩ => evao_nil (OpA.flat (z := .int ns.sum) (fun X ok W vs k hv Q q => by
    obtain ⟨v, rfl, h⟩ := hv.one
    have hK := ok.K
    cases x with
    | list ds =>
      obtain ⟨t, us, e, h1, h2⟩ := h.list k
      subst e
      have hx : ds = ns.map PyData.int := hx
      subst hx
      have e2 := h2.ints
      subst e2
      exact .inl ⟨t, ns, rfl, SqL.of h1, q⟩
    | tuple ds =>
      obtain ⟨t, us, e, h1, h2⟩ := h.tuple k
      subst e
      have hx : ds = ns.map PyData.int := hx
      subst hx
      have e2 := h2.ints
      subst e2
      exact .inr ⟨t, ns, rfl, by rw [hK]; exact h1, q⟩
    | _ => cases hq) (fun _ => .int _) p)) hs) hs
end
end Dl

/-! Dl: defs called, targets, what is walked, comprehensions. -/
namespace Dl
open PySem PySem.Spec PyProof.Rows L2
/-! ### promises -/
/-- a def's promise over data: the arguments, what is wanted of its value, of an error's class -/
abbrev SpD := List D → (D → Prop) → (Addr → Prop) → Prop
def spP (K : PySem.W.Frag) (tabs : List Addr) (n : Nat) (S : SpD) : Sp := fun vs H Q E => ∃ (W : Wd) (ds : List D) (Post : D → Prop) (EX : Addr → Prop), W.H = H ∧ WOk tabs W ∧ RpA K W.I vs ds ∧ ds.length = n ∧ S ds Post EX ∧
  (∀ W' v d, WOk tabs W' → Le W W' → Ext W.H W'.H → Rp K W'.I v d → Post d → Q v W'.H) ∧ (∀ c W', EX c → WOk tabs W' → Le W W' → Ext W.H W'.H → E (.ref c) none W'.H)
def without (p : Addr) (H : Hp) : Hp := fun a => if a = p then none else H a
/-- .. with the draws' list ahead of the arguments -/
def spS (K : PySem.W.Frag) (tabs : List Addr) (n : Nat) (S : SpD) : Sp := fun vs H Q E => ∃ (W : Wd) (p : Addr) (ns : List Int) (us : List V) (ds : List D) (Post : D → Prop), vs = .ref p :: us ∧ W.H = H ∧ WOk tabs W ∧ StAt K W p ns ∧ RpA K W.I us ds ∧ ds.length = n ∧ S ds Post (fun _ => False) ∧
  (∀ W' v d, WOk tabs W' → Le W W' → Ext (without p W.H) W'.H → StAt K W' p ns → Rp K W'.I v d → Post d → Q v W'.H)
/-- a def of the text that keeps a promise -/
structure FnE (G : Gb) (x : Str) (ps : List Str) (k : Nat) (sp : Sp) : Prop where
  ex : ∃ f fd, FnOk G.P G.w G.K G.mg G.base (L2.CX G.P G.w) k f fd ps sp ∧ G.mg x = some (.ref f) ∧ PySem.W.keepIn G.K (.ref f) = true ∧ Binds G.K fd ps []
theorem mem_stAt {K : PySem.W.Frag} {W : Wd} {p : Addr} {ns : List Int} (h : StAt K W p ns) : W.H p ≠ none := by
  obtain ⟨_, a, b, c, q, xs, h2, _⟩ := h
  rw [h2]; simp
section
variable {C : Cfg} {Γ : List SV} {a b c e : Expr} {es : List Expr} {F : Fr} {W W' : Wd} {σ : L2.St} {pos : Pos} {P : D → Prop}
theorem FnE.fn {X : Cx} {x : Str} {ps : List Str} {k : Nat} {sp : Sp} (G : FnE C.toGb x ps k sp) (ok : OkX C X) : ∃ f fd, FnOk X.prog X.w X.K X.mg X.base (L2.CX X.prog X.w) k f fd ps sp ∧ X.mg x = some (.ref f) ∧ PySem.W.keepIn X.K (.ref f) = true ∧ Binds X.K fd ps [] := by
  rw [ok.prog, ok.w, ok.K, ok.mg, ok.base]
  exact G.ex
theorem ev_call {x : Str} {p : Pos} {ps : List Str} {k n : Nat} {S : SpD} (G : FnE C.toGb x ps k (spP C.K C.tabs n S)) (g : GlobOk C.sc x) (hk : k ≤ C.k) (hh : C.hot = false) (ha : EvA C Γ (e :: es) fun ds => ds.length = n ∧ S ds P (fun _ => False))
    (he : ∀ env, starEach (e :: es) env = (false, eval e env) :: starEach es env := by intro _; rfl) (hpl : ∀ env, (backTo pos (starEach es env)).any (·.1) = false := by intro _; rfl) : Ev C Γ (.Call (.Name x p) (e :: es) [] pos) P := fun F W σ St Q kk X ok => by
  obtain ⟨f, fd, hF, hm, hkp, hb⟩ := G.fn ok
  have hpe := pe_call (es := es) (e := e) (p := p) (pos := pos) hF ((ok.calm hh).2.mono hk) (g.gl ok) hm hkp hb .nil passL (pa_t (C := C) ok) g.d1 (he X.env) (hpl X.env)
  intro pins s I
  refine hpe.run pins s σ W.H Q I ?_
  exact ha F W σ St _ fun W1 vs ds S1 L1 r1 ⟨hn, hS⟩ => by
    rw [List.append_nil]
    exact ⟨W1, ds, P, fun _ => False, rfl, S1.ok, r1, hn, hS, fun W2 v d k2 L2 e2 r2 p2 => kk W2 v d (S1.step k2 L2 e2) (L1.trans L2) r2 p2, fun _ _ z => z.elim⟩
theorem ev_call0 {x : Str} {p : Pos} {k : Nat} {S : SpD} (G : FnE C.toGb x [] k (spP C.K C.tabs 0 S)) (g : GlobOk C.sc x) (hk : k ≤ C.k) (hh : C.hot = false) (ha : S [] P (fun _ => False)) : Ev C Γ (.Call (.Name x p) [] [] pos) P := fun F W σ St Q kk X ok => by
  obtain ⟨f, fd, hF, hm, hkp, hb⟩ := G.fn ok
  have hpe := pe_call0 (p := p) (pos := pos) hF ((ok.calm hh).2.mono hk) (g.gl ok) hm hkp hb .nil passL g.d1
  intro pins s I
  refine hpe.run pins s σ W.H Q I ?_
  exact ⟨W, [], P, fun _ => False, rfl, St.ok, .nil, rfl, ha, fun W2 v d k2 L2 e2 r2 p2 => kk W2 v d (St.step k2 L2 e2) L2 r2 p2, fun _ _ z => z.elim⟩
/-- f(state, ..) -/
theorem Sto.afterS (S : Sto C F W σ Γ) {p : Addr} (hs : F.s = some p) (k : WOk C.tabs W') (l : Le W W') (e : Ext (without p W.H) W'.H) (st : StAt C.K W' p F.l) : Sto C F W' σ Γ where
  ok := k
  up := S.up.trans l
  bs := fun a o h n => by
    have hap : a ≠ p := fun z => by rw [z, (S.sb p hs).1] at h; cases h
    exact e a o (show (if a = p then none else W.H a) = some o by rw [if_neg hap]; exact S.bs a o h n) n
  bh := fun p h => S.bh p (l.gr p h)
  js := S.js.trans l.im
  sb := fun q hq => by
    rw [hs] at hq
    cases hq
    exact ⟨(S.sb _ hs).1, st⟩
  len := S.len
  sl := fun i x h => by
    obtain ⟨o, h1, h2⟩ := S.sl i x h
    refine ⟨o, h1, h2.le l fun q ds hx ho vs hv => ?_⟩
    subst hx
    obtain ⟨q', us, h3, _, _, _, _, _, h9⟩ := h2
    rw [ho] at h3
    cases h3
    have hqp : q ≠ p := fun z => h9 (by rw [hs, z])
    exact e q _ (show (if q = p then none else W.H q) = _ by rw [if_neg hqp]; exact hv) fun _ z => nomatch z
  od := S.od
theorem ev_callS {x xs : Str} {i : Nat} {p ps' : Pos} {ps : List Str} {k n : Nat} {S : SpD} (G : FnE C.toGb x ps k (spS C.K C.tabs n S)) (g : GlobOk C.sc x) (hk : k ≤ C.k) (hh : C.hot = false) (nm : NameOk C.N C.sc i xs) {ns : List Int} (hi : Γ[i]? = some (.st ns)) (ha : EvA C Γ es fun ds => ds.length = n ∧ S ds P (fun _ => False))
    (hpl : ∀ env, (backTo pos (starEach es env)).any (·.1) = false := by intro _; rfl) : Ev C Γ (.Call (.Name x p) (.Name xs ps' :: es) [] pos) P := fun F W σ St Q kk X ok => by
  obtain ⟨f, fd, hF, hm, hkp, hb⟩ := G.fn ok
  have hv : PE X (.Name xs ps') (tVar i) := pe_var (by rw [ok.N]; exact nm.ix) (by rw [ok.sc]; exact nm.vis) nm.d1 nm.d2
  have hpe := pe_call (es := es) (e := .Name xs ps') (p := p) (pos := pos) hF ((ok.calm hh).2.mono hk) (g.gl ok) hm hkp hb .nil passL (pa_cons hv (pa_t (C := C) ok) rfl) g.d1 rfl (hpl X.env)
  intro pins s I
  refine hpe.run pins s σ W.H Q I ?_
  obtain ⟨o, h1, q, h2, h3, _⟩ := St.sl i _ hi
  subst h2
  refine ⟨.ref q, h1, ?_⟩
  exact ha F W σ St _ fun W1 vs ds S1 L1 r1 ⟨hn, hS⟩ => by
    show spS C.K C.tabs n S ((.ref q :: vs) ++ []) W1.H Q E0
    rw [List.append_nil]
    exact ⟨W1, q, F.l, vs, ds, P, rfl, rfl, S1.ok, (S1.sb q h3).2, r1, hn, hS, fun W2 v d k2 L2 e2 st2 r2 p2 => kk W2 v d (S1.afterS h3 k2 L2 e2 st2) (L1.trans L2) r2 p2⟩

/-! ### targets -/
theorem set_len {α : Type} (l : List α) (i : Nat) (x : α) : (l.set i x).length = l.length := List.length_set
/-- a slot is given a value -/
theorem Sto.setImm (S : Sto C F W σ Γ) {i : Nat} {v : V} {d : D} (r : Rp C.K W.I v d) (hi : i < Γ.length) : Sto C F W (σ.set i (some v)) (Γ.set i (.imm d)) where
  toRetOk := S.toRetOk
  len := by rw [List.length_set, List.length_set, S.len]
  sl := fun j x h => by
    by_cases z : i = j
    · subst z
      rw [List.getElem?_set_self hi] at h
      cases h
      exact ⟨some v, by rw [List.getElem?_set_self (by rw [S.len]; exact hi)], v, rfl, r⟩
    · rw [List.getElem?_set_ne z] at h ⊢
      exact S.sl j x h
  od := fun j l p ⟨d1, h1, h2⟩ ⟨d2, h3, h4⟩ => by
    by_cases z : i = j
    · subst z
      rw [List.getElem?_set_self hi] at h1
      cases h1
    · by_cases z' : i = l
      · subst z'
        rw [List.getElem?_set_self hi] at h3
        cases h3
      · rw [List.getElem?_set_ne z] at h1 h2
        rw [List.getElem?_set_ne z'] at h3 h4
        exact S.od j l p ⟨d1, h1, h2⟩ ⟨d2, h3, h4⟩
theorem Sto.setOwn (S : Sto C F W σ Γ) {i : Nat} {p : Addr} {vs : List V} {ds : List D} (h1 : W.I p = none) (h2 : W.H p = some (.lst vs)) (h3 : RpA C.K W.I vs ds) (h4 : F.W0.H p = none) (h5 : F.B p = none) (h6 : F.s ≠ some p) (no : ∀ j, j ≠ i → ¬ ownAt Γ σ j p) (hi : i < Γ.length) : Sto C F W (σ.set i (some (.ref p))) (Γ.set i (.own ds)) where
  toRetOk := S.toRetOk
  len := by rw [List.length_set, List.length_set, S.len]
  sl := fun j x h => by
    by_cases z : i = j
    · subst z
      rw [List.getElem?_set_self hi] at h
      cases h
      exact ⟨some (.ref p), by rw [List.getElem?_set_self (by rw [S.len]; exact hi)], p, vs, rfl, h1, h2, h3, h4, h5, h6⟩
    · rw [List.getElem?_set_ne z] at h ⊢
      exact S.sl j x h
  od := fun j l q ⟨d1, k1, k2⟩ ⟨d2, k3, k4⟩ => by
    by_cases z : i = j
    · subst z
      rw [List.getElem?_set_self (by rw [S.len]; exact hi)] at k2
      cases k2
      by_cases z' : i = l
      · exact z'
      · rw [List.getElem?_set_ne z'] at k3 k4
        exact absurd ⟨d2, k3, k4⟩ (no l fun e => z' e.symm)
    · by_cases z' : i = l
      · subst z'
        rw [List.getElem?_set_self (by rw [S.len]; exact hi)] at k4
        cases k4
        rw [List.getElem?_set_ne z] at k1 k2
        exact absurd ⟨d1, k1, k2⟩ (no j fun e => z e.symm)
      · rw [List.getElem?_set_ne z] at k1 k2
        rw [List.getElem?_set_ne z'] at k3 k4
        exact S.od j l q ⟨d1, k1, k2⟩ ⟨d2, k3, k4⟩
/-- names that may be stored to here -/
structure StoreOk (C : Cfg) (i : Nat) (x : Str) : Prop where
  ix : C.N[i]? = some x
  loc : Loc C.sc x
  fn : C.fnc x = true ∨ C.sc.names.lookup x = some .local
def tGt (C : Cfg) (tg : Expr) : TG := fun v σ H Q => ∀ X, OkX C X → ∀ pins s u, Inv X pins σ H s → RelV v u → wpAny (model X.prog X.w) X.A (assign tg X.env u) (fun _ s' => ∃ σ' H', Inv X pins σ' H' s' ∧ Q σ' H') X.xe s
theorem pg_t {X : Cx} (ok : OkX C X) {tg : Expr} : PG X tg (tGt C tg) := ⟨fun pins s σ H v u Q I r h => h X ok pins s u I r⟩
/-- only these slots have changed -/
def OnlyAt {α : Type} (vs : List Nat) (σ σ' : List α) : Prop := σ'.length = σ.length ∧ ∀ j, j ∉ vs → σ'[j]? = σ[j]?
theorem OnlyAt.refl {α : Type} (vs : List Nat) (σ : List α) : OnlyAt vs σ σ := ⟨rfl, fun _ _ => rfl⟩
theorem OnlyAt.trans {α : Type} {vs : List Nat} {σ σ1 σ2 : List α} (a : OnlyAt vs σ σ1) (b : OnlyAt vs σ1 σ2) : OnlyAt vs σ σ2 := ⟨b.1.trans a.1, fun j h => (b.2 j h).trans (a.2 j h)⟩
theorem OnlyAt.set {α : Type} {vs : List Nat} {σ : List α} {i : Nat} (h : i ∈ vs) (x : α) : OnlyAt vs σ (σ.set i x) := ⟨List.length_set, fun j hj => List.getElem?_set_ne (fun z => hj (by rw [← z]; exact h))⟩
/-- d goes to the target; the slots vs may change -/
def EvG (C : Cfg) (vs : List Nat) (Γ : List SV) (tg : Expr) (d : D) (Post : List SV → Prop) : Prop :=
  ∀ (F : Fr) (W : Wd) (σ : L2.St) (v : V), Sto C F W σ Γ → Rp C.K W.I v d → ∀ Q : L2.St → Hp → Prop, (∀ σ' Γ', Sto C F W σ' Γ' → OnlyAt vs σ σ' → OnlyAt vs Γ Γ' → Post Γ' → Q σ' W.H) → tGt C tg v σ W.H Q
theorem evg_name {vs : List Nat} {i : Nat} {x : Str} {d : D} {Post : List SV → Prop} (n : StoreOk C i x) (hv : i ∈ vs) (hi : i < Γ.length) (p : Post (Γ.set i (.imm d))) : EvG C vs Γ (.Name x pos) d Post := fun F W σ v S r Q k X ok pins s u I rv =>
  (pg_name (X := X) (i := i) (x := x) (pos := pos) ok.nd (by rw [ok.N]; exact n.ix) (by rw [ok.sc]; exact n.loc) (by
    rcases n.fn with h | h
    · exact .inl (ok.fn x h)
    · exact .inr (by rw [ok.sc]; exact h))).run pins s σ W.H v u Q I rv (k _ _ (S.setImm r hi) (.set hv _) (.set hv _) p)
/-- the items go to the targets, from the left -/
def EvGs (C : Cfg) (vs : List Nat) : List Expr → List D → List SV → (List SV → Prop) → Prop
  | [], ds, Γ, Post => ds = [] ∧ Post Γ
  | tg :: tgs, ds, Γ, Post => ∃ d r, ds = d :: r ∧ EvG C vs Γ tg d fun Γ' => EvGs C vs tgs r Γ' Post
def tGl (C : Cfg) : List Expr → TGs
  | [] => gNil
  | tg :: tgs => gCons (tGt C tg) (tGl C tgs)
theorem evgs_run {C : Cfg} {F : Fr} {W : Wd} {ks : List Nat} : ∀ (tgs : List Expr) (Γ : List SV) (ds : List D) (Post : List SV → Prop), EvGs C ks tgs ds Γ Post → ∀ (σ : L2.St) (vs : List V), Sto C F W σ Γ → RpA C.K W.I vs ds → ∀ Q : L2.St → Hp → Prop, (∀ σ' Γ', Sto C F W σ' Γ' → OnlyAt ks σ σ' → OnlyAt ks Γ Γ' → Post Γ' → Q σ' W.H) → tGl C tgs vs σ W.H Q
  | [], Γ, _, Post, h, σ, vs, S, r, Q, k => by
    obtain ⟨rfl, p⟩ := h
    cases r
    exact ⟨rfl, k σ Γ S (OnlyAt.refl _ _) (OnlyAt.refl _ _) p⟩
  | tg :: tgs, Γ, _, Post, h, σ, vs, S, r, Q, k => by
    obtain ⟨d, ds, rfl, h⟩ := h
    cases r with
    | cons r1 r2 =>
      exact ⟨_, _, rfl, h F W σ _ S r1 _ fun σ' Γ' S' o g h' => evgs_run tgs Γ' _ Post h' σ' _ S' r2 Q fun σ2 Γ2 S2 o2 g2 p => k σ2 Γ2 S2 (o.trans o2) (g.trans g2) p⟩
theorem evgs_pgs {C : Cfg} {X : Cx} (ok : OkX C X) : ∀ (tgs : List Expr), (∀ (l : List Expr) (x : Expr) (r : List Expr), tgs = l ++ x :: r → (assignEach (x :: r) X.env).map (·.2) = assign x X.env :: (assignEach r X.env).map (·.2)) → PGs X tgs (tGl C tgs)
  | [], _ => pgs_nil
  | tg :: tgs, h => pgs_cons (pg_t ok) (evgs_pgs ok tgs fun l x r e => h (tg :: l) x r (by rw [e]; rfl)) (h [] tg tgs rfl)
/-- targets without a star -/
def Plains (es : List Expr) : Prop := (∀ env (l : List Expr) (x : Expr) (r : List Expr), es = l ++ x :: r → (assignEach (x :: r) env).map (·.2) = assign x env :: (assignEach r env).map (·.2)) ∧ (∀ env, (assignEach es env).length = es.length) ∧ ∀ env, (assignEach es env).findIdx? (·.1) = none
theorem evg_tup {vs : List Nat} {es : List Expr} {k : Nat} {ds : List D} {Post : List SV → Prop} (hh : C.hot = false) (pl : Plains es) (hl : ds.length = es.length) (h : EvGs C vs es ds Γ Post) : EvG C vs Γ (.Tuple es k pos) (.tuple ds) Post := fun F W σ v S r Q kk X ok pins s u I rv => by
  cases r with
  | tup h1 h2 =>
    exact (pg_tup (X := X) (k := k) (pos := pos) (ok.calm hh).1 (evgs_pgs ok es (pl.1 X.env)) (pl.2.1 X.env) (pl.2.2 X.env)).run pins s σ W.H _ u Q I rv ⟨_, _, rfl, by rw [ok.K]; exact same_t S.ok.im h1, by rw [h2.length]; exact hl, evgs_run es Γ ds Post h σ _ S h2 Q kk⟩
/-- written targets: names, tuples of such -/
def plainT : List Expr → Bool
  | [] => true
  | .Name _ _ :: r => plainT r
  | .Tuple _ _ _ :: r => plainT r
  | _ :: _ => false
theorem plainT_app : ∀ (l : List Expr) {r : List Expr}, plainT (l ++ r) = true → plainT r = true
  | [], _, h => h
  | e :: l, r, h => by
    cases e <;> first | exact plainT_app l h | cases h
theorem plain_one (env : Env) : ∀ (r : List Expr), plainT r = true → (assignEach r env).length = r.length ∧ (assignEach r env).findIdx? (·.1) = none
  | [], _ => ⟨rfl, rfl⟩
  | e :: r, h => by
    have key : plainT r = true → (∃ u, assignEach (e :: r) env = (false, u) :: assignEach r env) → (assignEach (e :: r) env).length = (e :: r).length ∧ (assignEach (e :: r) env).findIdx? (·.1) = none := by
      rintro hr ⟨u, hu⟩
      obtain ⟨h1, h2⟩ := plain_one env r hr
      rw [hu]
      exact ⟨by rw [List.length_cons, h1]; rfl, by rw [List.findIdx?_cons, h2]; rfl⟩
    cases e <;> first | (cases h; done) | exact key h ⟨_, rfl⟩
theorem plains_of {es : List Expr} (h : plainT es = true) : Plains es := by
  refine ⟨fun env l x r e => ?_, fun env => (plain_one env es h).1, fun env => (plain_one env es h).2⟩
  subst e
  have h' := plainT_app l h
  cases x <;> first | rfl | cases h'
end
end Dl

/-! Dl: what is walked; comprehensions. -/
namespace Dl
open PySem PySem.Spec PyProof.Rows L2
def tI (C : Cfg) (tg iter : Expr) : TI := fun σ H R => ∀ X, OkX C X → ∀ pins s, Inv X pins σ H s →
  wpAny (model X.prog X.w) X.A (eval iter X.env) (fun v s1 => wpAny (model X.prog X.w) X.A (pyIter v) (PIE X pins σ tg R) X.xe s1) X.xe s
/-- ds, item by item, as long as G holds of the world -/
structure WalkD (C : Cfg) (J : It) (ds : List D) (G : Wd → Prop) : Prop where
  goes : ∀ i W, i < ds.length → WOk C.tabs W → G W → J.go i W.H
  stops : ∀ W, WOk C.tabs W → G W → J.stop ds.length W.H
  yields : ∀ i W x H', i < ds.length → WOk C.tabs W → G W → J.yld i W.H x H' → ∃ W' d, W'.H = H' ∧ WOk C.tabs W' ∧ Le W W' ∧ Ext W.H H' ∧ ds[i]? = some d ∧ Rp C.K W'.I x d
/-- the own lists of the slots as they stand -/
def OwnAt (C : Cfg) (Γ : List SV) (σ : L2.St) (W : Wd) : Prop := ∀ (i : Nat) (ds : List D) (p : Addr), Γ[i]? = some (.own ds) → σ[i]? = some (some (.ref p)) → ∃ vs, W.H p = some (.lst vs) ∧ RpA C.K W.I vs ds
def EvIt (C : Cfg) (Γ : List SV) (tg iter : Expr) (Post : List D → Prop) : Prop :=
  ∀ (F : Fr) (W : Wd) (σ : L2.St), Sto C F W σ Γ → ∀ R : It → Hp → Prop, (∀ W' J ds G, Sto C F W' σ Γ → Le W W' → WalkD C J ds G → (∀ W'', WOk C.tabs W'' → Same W'.I W''.I → G W'') → Post ds → R J W'.H) → tI C tg iter σ W.H R
/-- .. it may be a slot's own list, that is not changed meanwhile -/
def EvItO (C : Cfg) (Γ : List SV) (tg iter : Expr) (Post : List D → Prop) : Prop :=
  ∀ (F : Fr) (W : Wd) (σ : L2.St), Sto C F W σ Γ → ∀ R : It → Hp → Prop, (∀ W' J ds G, Sto C F W' σ Γ → Le W W' → WalkD C J ds G → (∀ W'', WOk C.tabs W'' → Same W'.I W''.I → OwnAt C Γ σ W'' → G W'') → Post ds → R J W'.H) → tI C tg iter σ W.H R
theorem SqT.inj {C : Cfg} {X : Cx} {pins : List (Addr × Obj)} {σ : L2.St} {H : Hp} {s : Shared} (I : Inv X pins σ H s) {a : Addr} {xs ys : List V} (h : SqT X.K H a xs) (h' : SqT X.K H a ys) : xs = ys := I.tuple_inj h h'
section
variable {C : Cfg} {Γ : List SV} {a b c e tg : Expr} {es : List Expr} {F : Fr} {W W' : Wd} {σ : L2.St} {pos : Pos}
theorem pi_t {X : Cx} (ok : OkX C X) : PI X tg e (tI C tg e) := ⟨fun pins s _ _ _ I h => h X ok pins s I⟩
theorem tI_of {t : Cx → TI} {R : It → Hp → Prop} {H : Hp} (h : ∀ X, OkX C X → PI X tg e (t X)) (q : ∀ X, OkX C X → t X σ H R) : tI C tg e σ H R := fun X ok pins s I => (h X ok).run pins s σ H R I (q X ok)
theorem EvIt.o {Post : List D → Prop} (h : EvIt C Γ tg e Post) : EvItO C Γ tg e Post := fun F W σ S R k => h F W σ S R fun W' J ds G S' L w g p => k W' J ds G S' L w (fun W'' k h _ => g W'' k h) p
theorem EvIt.imp {P Q : List D → Prop} (h : EvIt C Γ tg e P) (hi : ∀ ds, P ds → Q ds) : EvIt C Γ tg e Q := fun F W σ S R k => h F W σ S R fun W' J ds G S' L w g p => k W' J ds G S' L w g (hi ds p)
theorem EvItO.imp {P Q : List D → Prop} (h : EvItO C Γ tg e P) (hi : ∀ ds, P ds → Q ds) : EvItO C Γ tg e Q := fun F W σ S R k => h F W σ S R fun W' J ds G S' L w g p => k W' J ds G S' L w g (hi ds p)
theorem lt_some {α : Type} {l : List α} {i : Nat} (h : i < l.length) : ∃ x, l[i]? = some x := ⟨l[i], List.getElem?_eq_getElem h⟩
/-- over a settled list -/
theorem walkD_list {p : Addr} {ds : List D} {G : Wd → Prop} (h : ∀ W, WOk C.tabs W → G W → ∃ vs, W.H p = some (.lst vs) ∧ RpA C.K W.I vs ds) : WalkD C (Itl C.K p) ds G where
  goes := fun i W hi k g => by
    obtain ⟨vs, h1, h2⟩ := h W k g
    obtain ⟨x, hx⟩ := lt_some (l := vs) (i := i) (by rw [h2.length]; exact hi)
    exact ⟨vs, x, SqL.of h1, hx⟩
  stops := fun W k g => by
    obtain ⟨vs, h1, h2⟩ := h W k g
    exact ⟨vs, SqL.of h1, by rw [h2.length]; exact Nat.le_refl _⟩
  yields := fun i W x H' hi k g y => by
    obtain ⟨vs, h1, h2⟩ := h W k g
    obtain ⟨e, y⟩ := y
    obtain ⟨d, h3, h4⟩ := h2.get (y vs (SqL.of h1))
    exact ⟨W, d, e.symm, k, Le.refl W, by rw [e]; exact Ext.refl _, h3, h4⟩
theorem eit_list {Post : List D → Prop} (h : Ev C Γ e fun x => ∃ ds, x = .list ds ∧ Post ds) : EvIt C Γ tg e Post := fun F W σ S R k =>
  tI_of (t := fun X => iList X.K (tE C e)) (fun X ok => pi_list (pe_t ok)) fun X ok => h F W σ S _ fun W1 v x S1 L1 r1 ⟨ds, hx, p⟩ => by
    subst hx
    cases r1 with
    | lst h1 h2 =>
      refine ⟨_, rfl, ⟨_, SqL.of (S1.ok.im _ _ h1)⟩, ?_⟩
      rw [ok.K]
      exact k W1 _ ds _ S1 L1 (walkD_list (G := fun W'' => Same W1.I W''.I) fun W2 k2 g => ⟨_, k2.im _ _ (g _ _ h1), h2.mono g⟩) (fun W'' _ g => g) p
theorem eito_list {Post : List D → Prop} (h : EvO C Γ e fun x => ∃ ds, x = .list ds ∧ Post ds) : EvItO C Γ tg e Post := fun F W σ S R k =>
  tI_of (t := fun X => iList X.K (tE C e)) (fun X ok => pi_list (pe_t ok)) fun X ok => h F W σ S _ fun W1 v x S1 L1 r1 ⟨ds, hx, p⟩ => by
    subst hx
    obtain ⟨q, us, e1, e2, e3⟩ := (r1.now S1).list S1.ok
    subst e1
    refine ⟨q, rfl, ⟨us, SqL.of e2⟩, ?_⟩
    rw [ok.K]
    rcases r1 with r1 | ⟨ds', i, q', h0, h1, h2, h3⟩
    · cases r1 with
      | lst h1 h2 => exact k W1 _ ds _ S1 L1 (walkD_list (G := fun W'' => Same W1.I W''.I) fun W2 k2 g => ⟨_, k2.im _ _ (g _ _ h1), h2.mono g⟩) (fun W'' _ g _ => g) p
    · cases h0
      cases h1
      exact k W1 _ ds _ S1 L1 (walkD_list (G := fun W'' => ∃ vs, W''.H q = some (.lst vs) ∧ RpA C.K W''.I vs ds) fun W2 k2 g => g) (fun W'' _ _ g => g i ds q h2 h3) p
/-- over a tuple -/
theorem eit_tup {Post : List D → Prop} (h : Ev C Γ e fun x => ∃ ds, x = .tuple ds ∧ Post ds) : EvIt C Γ tg e Post := fun F W σ S R k =>
  tI_of (t := fun X => iTup X.K (tE C e)) (fun X ok => pi_tup (pe_t ok)) fun X ok => h F W σ S _ fun W1 v x S1 L1 r1 ⟨ds, hx, p⟩ => by
    subst hx
    cases r1 with
    | @tup q vs _ h1 h2 =>
      refine ⟨q, rfl, ⟨vs, by rw [ok.K]; exact same_t S1.ok.im h1⟩, ?_⟩
      rw [ok.K]
      refine k W1 _ ds (fun W'' => Same W1.I W''.I) S1 L1 ⟨fun i W2 hi k2 g => ?_, fun W2 k2 g => ?_, fun i W2 x H' hi k2 g y => ?_⟩ (fun W'' _ g => g) p
      · obtain ⟨z, hz⟩ := lt_some (l := vs) (i := i) (by rw [h2.length]; exact hi)
        exact ⟨vs, z, same_t k2.im (same_t g h1), hz⟩
      · exact ⟨vs, same_t k2.im (same_t g h1), by rw [h2.length]; exact Nat.le_refl _⟩
      · obtain ⟨e, y⟩ := y
        obtain ⟨d, h3, h4⟩ := (h2.mono g).get (y vs (same_t k2.im (same_t g h1)))
        exact ⟨W2, d, e.symm, k2, Le.refl W2, by rw [e]; exact Ext.refl _, h3, h4⟩
theorem walkD_range {lo : Int} {n : Nat} : WalkD C (Itr lo n) ((List.range n).map fun i : Nat => PyData.int (lo + (i : Int))) (fun _ => True) where
  goes := fun i W hi _ _ => by
    show i < n
    simpa using hi
  stops := fun W _ _ => by simp [Itr]
  yields := fun i W x H' hi k _ y => by
    obtain ⟨e, y⟩ := y
    subst y
    have hi' : i < n := by simpa using hi
    exact ⟨W, .int (lo + i), e.symm, k, Le.refl W, by rw [e]; exact Ext.refl _, by simp [hi'], .int _⟩
/-- the rng from lo, n of them -/
def rng (lo : Int) (n : Nat) : List Int := (List.range n).map fun i : Nat => lo + (i : Int)
theorem rng_map (lo : Int) (n : Nat) : (List.range n).map (fun i : Nat => PyData.int (lo + (i : Int))) = (rng lo n).map PyData.int := by
  unfold rng
  rw [List.map_map]
  rfl
theorem eit_range1 {p : Pos} {Post : List D → Prop} (g : GlobOk C.sc "range") (hm : C.mg "range" = none) (h : EvO C Γ a fun x => ∃ n : Int, x = .int n ∧ -(2 ^ 62) ≤ n ∧ n < 2 ^ 62 ∧ Post ((rng 0 n.toNat).map PyData.int)) (hs : ∀ env, starEach [a] env = [(false, eval a env)] := by intro _; rfl) : EvIt C Γ tg (.Call (.Name "range" p) [a] [] pos) Post := by
  have ha : EvAO C Γ [a] fun ds => ∃ n : Int, ds = [.int n] ∧ -(2 ^ 62) ≤ n ∧ n < 2 ^ 62 ∧ Post ((rng 0 n.toNat).map PyData.int) := by
    refine evao_cons (h.imp fun x hx => ?_) (fun env => hs env)
    obtain ⟨n, e, h1, h2, p⟩ := hx
    subst e
    exact evao_nil ⟨n, rfl, h1, h2, p⟩
  refine fun F W σ S R k => tI_of (t := fun X => iRng1 (tA C [a])) (fun X ok => pi_range1 (g.gl ok) (by rw [ok.mg]; exact hm) (pa_t ok) (hs X.env)) fun X ok => ?_
  refine ha F W σ S _ fun W1 vs ds S1 L1 r1 ⟨n, e, h1, h2, p⟩ => ?_
  subst e
  obtain ⟨v, e, hv⟩ := (r1.now S1).one
  subst e
  have := hv.int
  subst this
  refine ⟨n, rfl, h1, h2, ?_⟩
  have w := walkD_range (C := C) (lo := 0) (n := n.toNat)
  rw [rng_map] at w
  exact k W1 _ _ _ S1 L1 w (fun _ _ _ => trivial) p
theorem eit_range2 {p : Pos} {Post : List D → Prop} (g : GlobOk C.sc "range") (hm : C.mg "range" = none) (h : EvO C Γ a fun x => ∃ lo : Int, x = .int lo ∧ -(2 ^ 62) ≤ lo ∧ lo < 2 ^ 62 ∧ EvO C Γ b fun y => ∃ n : Int, y = .int n ∧ -(2 ^ 62) ≤ n ∧ n < 2 ^ 62 ∧ Post ((rng lo (n - lo).toNat).map PyData.int))
    (hs : ∀ env, starEach [a, b] env = [(false, eval a env), (false, eval b env)] := by intro _; rfl) (hs2 : ∀ env, starEach [b] env = [(false, eval b env)] := by intro _; rfl) : EvIt C Γ tg (.Call (.Name "range" p) [a, b] [] pos) Post := by
  have ha : EvAO C Γ [a, b] fun ds => ∃ lo n : Int, ds = [.int lo, .int n] ∧ -(2 ^ 62) ≤ lo ∧ lo < 2 ^ 62 ∧ -(2 ^ 62) ≤ n ∧ n < 2 ^ 62 ∧ Post ((rng lo (n - lo).toNat).map PyData.int) := by
    refine evao_cons (h.imp fun x hx => ?_) (fun env => by rw [hs env, hs2 env])
    obtain ⟨lo, e, h1, h2, hb⟩ := hx
    subst e
    refine evao_cons (hb.imp fun y hy => ?_) (fun env => hs2 env)
    obtain ⟨n, e, h3, h4, p⟩ := hy
    subst e
    exact evao_nil ⟨lo, n, rfl, h1, h2, h3, h4, p⟩
  refine fun F W σ S R k => tI_of (t := fun X => iRng2 (tA C [a, b])) (fun X ok => pi_range2 (g.gl ok) (by rw [ok.mg]; exact hm) (pa_t ok) (hs X.env) (hs2 X.env)) fun X ok => ?_
  refine ha F W σ S _ fun W1 vs ds S1 L1 r1 ⟨lo, n, e, h1, h2, h3, h4, p⟩ => ?_
  subst e
  obtain ⟨v, u, e, hv, hu⟩ := (r1.now S1).two
  subst e
  have := hv.int
  subst this
  have := hu.int
  subst this
  refine ⟨lo, n, rfl, ⟨h1, h2, h3, h4⟩, ?_⟩
  have w := walkD_range (C := C) (lo := lo) (n := (n - lo).toNat)
  rw [rng_map] at w
  exact k W1 _ _ _ S1 L1 w (fun _ _ _ => trivial) p

/-! ### comprehensions -/
def Cfg.blk (C : Cfg) (scope : Scope) : Cfg := { C with sc := relS scope C.sc, fnc := fun x => scope.names.lookup x == some .cell }
theorem OkX.blk {X : Cx} (ok : OkX C X) (s : Shared) (H : Hp) (scope : Scope) (cl : List (Str × Addr)) (A : Addr) (fp : List Addr) : OkX (C.blk scope) (X.blk s H scope (compEnvC scope cl A X.env) fp) where
  prog := ok.prog
  w := ok.w
  K := ok.K
  mg := ok.mg
  base := ok.base
  N := ok.N
  sc := by
    show relS scope X.env.scope = relS scope C.sc
    rw [ok.sc]
  cd := ok.cd
  nd := ok.nd
  fn := fun x h => h
  calm := ok.calm
def tTs (C : Cfg) (ifs : List Expr) : TT := fun σ H Q => ∀ X, OkX C X → ∀ pins s, Inv X pins σ H s → wpAny (model X.prog X.w) X.A (forIn ifs true fun c r => if r = true then do let ok ← isTrue c X.env (eval c X.env); pure (ForInStep.yield ok) else pure (ForInStep.yield r)) (TP X pins σ Q) X.xe s
theorem pts_t {X : Cx} (ok : OkX C X) : PTs X es (tTs C es) := ⟨fun pins s _ _ _ I h => h X ok pins s I⟩
def EvTs (C : Cfg) (Γ : List SV) (ifs : List Expr) (Post : Bool → Prop) : Prop :=
  ∀ (F : Fr) (W : Wd) (σ : L2.St), Sto C F W σ Γ → ∀ Q : Bool → Hp → Prop, (∀ W' b, Sto C F W' σ Γ → Le W W' → Post b → Q b W'.H) → tTs C ifs σ W.H Q
theorem evts_nil {Post : Bool → Prop} (p : Post true) : EvTs C Γ [] Post := fun F W σ S Q k X ok pins s I => (pts_nil (X := X)).run pins s σ W.H Q I (k W true S (Le.refl W) p)
theorem evts_one {Post : Bool → Prop} (h : EvT C Γ e Post) : EvTs C Γ [e] Post := fun F W σ S Q k X ok pins s I => (pts_one (pt_t (C := C) ok)).run pins s σ W.H Q I (h F W σ S Q k)
/-- slots forgotten -/
def wipeG (Γ : List SV) : List Nat → List SV
  | [] => Γ
  | v :: vs => (wipeG Γ vs).set v .any
theorem wipeG_len (Γ : List SV) : ∀ vs, (wipeG Γ vs).length = Γ.length
  | [] => rfl
  | v :: vs => by unfold wipeG; rw [List.length_set, wipeG_len Γ vs]
theorem Sto.wipe1 (S : Sto C F W σ Γ) (v : Nat) (o : Option V) : Sto C F W (σ.set v o) (Γ.set v .any) where
  toRetOk := S.toRetOk
  len := by rw [List.length_set, List.length_set, S.len]
  sl := fun i x h => by
    by_cases z : v = i
    · subst z
      have hv : v < Γ.length := by
        have := (List.getElem?_eq_some_iff.mp h).1
        rw [List.length_set] at this
        exact this
      rw [List.getElem?_set_self hv] at h
      cases h
      exact ⟨o, by rw [List.getElem?_set_self (by rw [S.len]; exact hv)], trivial⟩
    · rw [List.getElem?_set_ne z] at h ⊢
      exact S.sl i x h
  od := fun i j p ⟨d1, h1, h2⟩ ⟨d2, h3, h4⟩ => by
    have key : ∀ i d, (Γ.set v .any)[i]? = some (.own d) → v ≠ i := fun i d h z => by
      subst z
      have hv : v < Γ.length := by
        have := (List.getElem?_eq_some_iff.mp h).1
        rw [List.length_set] at this
        exact this
      rw [List.getElem?_set_self hv] at h
      cases h
    have z1 := key i d1 h1
    have z2 := key j d2 h3
    rw [List.getElem?_set_ne z1] at h1 h2
    rw [List.getElem?_set_ne z2] at h3 h4
    exact S.od i j p ⟨d1, h1, h2⟩ ⟨d2, h3, h4⟩
theorem Sto.wipe (S : Sto C F W σ Γ) : ∀ vs, Sto C F W (wipe σ vs) (wipeG Γ vs)
  | [] => S
  | v :: vs => (S.wipe vs).wipe1 v none
/-- the same slots seen from another block of the def -/
theorem Sto.cfg {C' : Cfg} (S : Sto C F W σ Γ) (hK : C'.K = C.K) (ht : C'.tabs = C.tabs) : Sto C' F W σ Γ where
  ok := by rw [ht]; exact S.ok
  up := S.up
  bs := S.bs
  bh := S.bh
  js := S.js
  sb := by rw [hK]; exact S.sb
  len := S.len
  sl := by rw [hK]; exact S.sl
  od := S.od
/-- which slots a comprehension's own names may take: not the draws' list, no own list -/
def Free (Γ : List SV) (vs : List Nat) : Prop := ∀ v ∈ vs, Γ[v]? = some .any ∨ ∃ d, Γ[v]? = some (.imm d)
theorem wipeG_in {Γ : List SV} {i : Nat} : ∀ {vs : List Nat}, i ∉ vs → (wipeG Γ vs)[i]? = Γ[i]?
  | [], _ => rfl
  | v :: vs, h => by
    unfold wipeG
    rw [List.getElem?_set_ne (fun z => h (by rw [z]; exact List.mem_cons_self)), wipeG_in fun z => h (List.mem_cons_of_mem _ z)]
theorem wipe_in {σ : L2.St} {i : Nat} : ∀ {vs : List Nat}, i ∉ vs → (L2.wipe σ vs)[i]? = σ[i]?
  | [], _ => rfl
  | v :: vs, h => by
    unfold L2.wipe
    rw [List.getElem?_set_ne (fun z => h (by rw [z]; exact List.mem_cons_self)), wipe_in fun z => h (List.mem_cons_of_mem _ z)]
/-- back from the block -/
theorem Sto.unwipe {C' : Cfg} {F' : Fr} {vs : List Nat} (S : Sto C F W σ Γ) (fr : Free Γ vs) (S' : Sto C' F' W' (L2.wipe σ vs) (wipeG Γ vs)) (l : Le W W') (hK : C'.K = C.K) (ht : C'.tabs = C.tabs) (h0 : F'.W0 = F.W0) (hs : F'.s = F.s) (hB : Ext F.B F'.B) (hb : ∀ p, F'.B p = none → F.B p = none) (hJ : F'.J = F.J) (hl : F'.l = F.l := by rfl) : Sto C F W' σ Γ where
  ok := by rw [← ht]; exact S'.ok
  up := by rw [← h0]; exact S'.up
  bs := fun a o h n => S'.bs a o (hB a o h n) n
  bh := fun p h => hb p (S'.bh p h)
  js := by rw [← hJ]; exact S'.js
  sb := fun p hp => ⟨(S.sb p hp).1, by rw [← hK, ← hl]; exact (S'.sb p (by rw [hs]; exact hp)).2⟩
  len := S.len
  sl := fun i x h => by
    by_cases z : i ∈ vs
    · obtain ⟨o, h1, h2⟩ := S.sl i x h
      refine ⟨o, h1, ?_⟩
      rcases fr i z with q | ⟨d, q⟩
      · rw [h] at q; cases q; trivial
      · rw [h] at q; cases q
        obtain ⟨v, e1, e2⟩ := h2
        exact ⟨v, e1, e2.mono l.im⟩
    · obtain ⟨o, h1, h2⟩ := S'.sl i x (by rw [wipeG_in z]; exact h)
      rw [wipe_in z] at h1
      refine ⟨o, h1, ?_⟩
      cases x with
      | any => trivial
      | imm d => rw [hK] at h2; exact h2
      | own ds =>
        obtain ⟨p, us, a1, a2, a3, a4, a5, a6, a7⟩ := h2
        obtain ⟨o2, b1, p2, us2, b2, b3, b4, b5, b6, b7, b8⟩ := S.sl i _ h
        rw [h1] at b1
        cases b1
        subst a1
        cases b2
        exact ⟨p, us, rfl, a2, a3, by rw [← hK]; exact a4, b6, b7, b8⟩
      | st =>
        obtain ⟨p, a1, a2, a3⟩ := h2
        exact ⟨p, a1, by rw [← hs]; exact a2, by rw [← hl]; exact a3⟩
  od := S.od
/-- a list that is being made has grown; nothing else knows of it -/
theorem Sto.grow (S : Sto C F W σ Γ) {p : Addr} {o : HO} (hI : W.I p = none) (hB : F.B p = none) (no : ∀ i, ¬ ownAt Γ σ i p) (ns : F.s ≠ some p) (h0 : F.W0.H p = none) (hp : ∀ P ∈ C.tabs, P ≠ p) : Sto C F ⟨W.I, upd W.H p o⟩ σ Γ where
  ok :=
    { im := fun a u e => by
        have z : a ≠ p := fun z => by rw [z, hI] at e; cases e
        exact (upd_ne z).trans (S.ok.im a u e)
      nt := S.ok.nt
      tb := fun P hP => tabG_upd (S.ok.tb P hP) (hp P hP) }
  up := S.up.trans Le.newH
  bs := fun a u e n => by
    have z : a ≠ p := fun z => by rw [z, hB] at e; cases e
    exact (upd_ne z).trans (S.bs a u e n)
  bh := fun a h => S.bh a (Le.newH (W := W) (p := p) (o := o).gr a h)
  js := S.js
  sb := fun q hq => by
    obtain ⟨h1, h2, a, b, c, v, xs, h3, h4, h5⟩ := S.sb q hq
    exact ⟨h1, h2, a, b, c, v, xs, (upd_ne (fun z => ns (by rw [← z]; exact hq))).trans h3, h4, h5⟩
  len := S.len
  sl := fun i x hx => by
    obtain ⟨o', h1, h2⟩ := S.sl i x hx
    refine ⟨o', h1, ?_⟩
    cases x with
    | any => trivial
    | imm d => exact h2
    | own ds =>
      obtain ⟨q, us, h3, h4, h5, h6⟩ := h2
      exact ⟨q, us, h3, h4, (upd_ne (fun z => no i ⟨ds, hx, by rw [h1, h3, z]⟩)).trans h5, h6⟩
    | st => exact h2
  od := S.od
theorem wipe_only {vs : List Nat} {σ σ' : L2.St} (o : OnlyAt vs (L2.wipe σ vs) σ') : L2.wipe σ' vs = L2.wipe σ vs := by
  apply List.ext_getElem?
  intro j
  by_cases h : j ∈ vs
  · have key : ∀ (ws : List Nat) (τ τ' : L2.St), τ.length = τ'.length → j ∈ ws → (L2.wipe τ ws)[j]? = (L2.wipe τ' ws)[j]? := by
      intro ws
      induction ws with
      | nil => intro _ _ _ h; cases h
      | cons w ws ih =>
        intro τ τ' hl hj
        unfold L2.wipe
        by_cases z : w = j
        · subst z
          rw [List.getElem?_set, List.getElem?_set, L2.wipe_length, L2.wipe_length, hl]
          simp
        · rw [List.getElem?_set_ne z, List.getElem?_set_ne z]
          rcases List.mem_cons.mp hj with q | q
          · exact absurd q.symm z
          · exact ih τ τ' hl q
    exact key vs σ' σ (by rw [o.1, L2.wipe_length]) h
  · rw [wipe_in h, o.2 j h]
/-- the slots vs forgotten, what must stay less -/
theorem Sto.back {F' : Fr} {Γ' : List SV} {σ' : L2.St} {vs : List Nat} (S : Sto C F' W σ' Γ') (o : OnlyAt vs σ σ') (g : OnlyAt vs Γ Γ') (hv : ∀ (v : Nat) x, v ∈ vs → Γ[v]? = some x → x = .any) (h0 : F'.W0 = F.W0) (hs : F'.s = F.s) (hB : Ext F.B F'.B) (hB' : ∀ p, F'.B p = none → F.B p = none) (hJ : F'.J = F.J) (hl : F'.l = F.l := by rfl) : Sto C F W σ Γ where
  ok := S.ok
  up := by rw [← h0]; exact S.up
  bs := hB.trans S.bs
  bh := fun p h => hB' p (S.bh p h)
  js := by rw [← hJ]; exact S.js
  sb := fun p hp => by
    obtain ⟨h1, h2⟩ := S.sb p (by rw [hs]; exact hp)
    exact ⟨hB' p h1, by rw [← hl]; exact h2⟩
  len := by rw [← o.1, S.len, g.1]
  sl := fun i x hx => by
    by_cases z : i ∈ vs
    · have := hv i x z hx
      subst this
      have hi : i < σ.length := by
        rw [← o.1, S.len, g.1]
        exact (List.getElem?_eq_some_iff.mp hx).1
      exact ⟨σ[i], List.getElem?_eq_getElem hi, trivial⟩
    · obtain ⟨u, h1, h2⟩ := S.sl i x (by rw [g.2 i z]; exact hx)
      refine ⟨u, by rw [← o.2 i z]; exact h1, ?_⟩
      cases x with
      | any => trivial
      | imm d => exact h2
      | own ds =>
        obtain ⟨p, us, a1, a2, a3, a4, a5, a6, a7⟩ := h2
        exact ⟨p, us, a1, a2, a3, a4, by rw [← h0]; exact a5, hB' p a6, by rw [← hs]; exact a7⟩
      | st =>
        obtain ⟨p, a1, a2, a3⟩ := h2
        exact ⟨p, a1, by rw [← hs]; exact a2, by rw [← hl]; exact a3⟩
  od := fun i j p ⟨d1, h1, h2⟩ ⟨d2, h3, h4⟩ => by
    have n1 : i ∉ vs := fun z => by have := hv i _ z h1; cases this
    have n2 : j ∉ vs := fun z => by have := hv j _ z h3; cases this
    exact S.od i j p ⟨d1, by rw [g.2 i n1]; exact h1, by rw [o.2 i n1]; exact h2⟩ ⟨d2, by rw [g.2 j n2]; exact h3, by rw [o.2 j n2]; exact h4⟩
theorem wipeG_any {Γ : List SV} {v : Nat} {x : SV} : ∀ {vs : List Nat}, v ∈ vs → (wipeG Γ vs)[v]? = some x → x = .any
  | w :: vs, h, e => by
    unfold wipeG at e
    by_cases z : w = v
    · subst z
      have hw : w < (wipeG Γ vs).length := by
        have := (List.getElem?_eq_some_iff.mp e).1
        rw [List.length_set] at this
        exact this
      rw [List.getElem?_set_self hw] at e
      exact (Option.some.inj e).symm
    · rw [List.getElem?_set_ne z] at e
      rcases List.mem_cons.mp h with q | q
      · exact absurd q.symm z
      · exact wipeG_any q e
/-- [elt for tg in iter if ..]: Iv by the turn and what is made so far -/
def EvLc (C : Cfg) (Γ : List SV) (elt tg iter : Expr) (ifs : List Expr) (scope : Scope) (own : List (Str × Nat)) (Post : List D → Prop) : Prop :=
  ∀ (F : Fr) (W : Wd) (σ : L2.St), Sto C F W σ Γ → ∀ Q : VK, (∀ W' p vs ds, Sto C F W' σ Γ → Le W W' → W.H p = none → W'.I p = none → W'.H p = some (.lst vs) → RpA C.K W'.I vs ds → Post ds → Q (.ref p) W'.H) → ∀ X, OkX C X →
    tLc (tI C tg iter) (tGt (C.blk scope) tg) (tTs (C.blk scope) ifs) (tE (C.blk scope) elt) (own.map (·.2)) σ W.H Q
theorem EvLc.l {elt iter : Expr} {ifs : List Expr} {scope : Scope} {own : List (Str × Nat)} {Post : List D → Prop} (hh : C.hot = false) (bo : BlkOk C.N C.sc scope own) (h : EvLc C Γ elt tg iter ifs scope own Post)
    (hs : ∀ env x, foldedSetIterable iter env x = pure x := by intro _ _; rfl) : EvL C Γ (.ListComp elt [⟨tg, iter, ifs, 0⟩] scope pos) Post := fun F W σ S Q k =>
  tE_of (t := fun X => tLc (tI C tg iter) (tGt (C.blk scope) tg) (tTs (C.blk scope) ifs) (tE (C.blk scope) elt) (own.map (·.2)))
    (fun X ok => pe_lc (ok.calm hh).1 ok.nd (pi_t ok) (by rw [ok.N, ok.sc]; exact bo) (fun s H A cl fp => pg_t (ok.blk s H scope cl A fp)) (fun s H A cl fp => pts_t (ok.blk s H scope cl A fp)) (fun s H A cl fp => pe_t (ok.blk s H scope cl A fp)) (fun x => hs X.env x)) fun X ok => h F W σ S Q k X ok
theorem evl_lc {elt iter : Expr} {ifs : List Expr} {scope : Scope} {own : List (Str × Nat)} {Post : List D → Prop} (fr : Free Γ (own.map (·.2))) (hi : EvItO C Γ tg iter fun ds => ds.length < sizeLine ∧ ∃ Iv : Nat → List D → Prop, Iv 0 [] ∧
      (∀ i acc d, ds[i]? = some d → acc.length ≤ i → Iv i acc → EvG (C.blk scope) (own.map (·.2)) (wipeG Γ (own.map (·.2))) tg d fun Γ' => EvTs (C.blk scope) Γ' ifs fun b => (b = true → Ev (C.blk scope) Γ' elt fun y => Iv (i + 1) (acc ++ [y])) ∧ (b = false → Iv (i + 1) acc)) ∧ ∀ acc, acc.length ≤ ds.length → Iv ds.length acc → Post acc)
    : EvLc C Γ elt tg iter ifs scope own Post := fun F W σ S Q k X ok => by
  refine hi F W σ S _ fun W1 J ds G S1 L1 wk hG ⟨hz, Iv, iv0, ivs, ivd⟩ => fun Dl hD => ?_
  have h0 : F.W0.H Dl = none := S1.up.gr Dl hD
  obtain ⟨nO, nS⟩ := S1.notOwn hD
  have hB0 : F.B Dl = none := S1.bh Dl hD
  have hT : ∀ P ∈ C.tabs, P ≠ Dl := fun P hP z => tabG_some (S1.ok.tb P hP) (z ▸ hD)
  have fr' : ∀ (i : Nat) (es : List D), Γ[i]? = some (.own es) → i ∉ own.map (·.2) := fun i es h z => by
    rcases fr i z with q | ⟨_, q⟩ <;> · rw [h] at q; cases q
  have nO' : ∀ i, ¬ ownAt (wipeG Γ (own.map (·.2))) (L2.wipe σ (own.map (·.2))) i Dl := fun i ⟨es, h1, h2⟩ => by
    have z : i ∉ own.map (·.2) := fun z => by have := wipeG_any z h1; cases this
    rw [wipeG_in z] at h1
    rw [wipe_in z] at h2
    exact nO i ⟨es, h1, h2⟩
  have hOwn : ∀ Wi, Sto (C.blk scope) F Wi (L2.wipe σ (own.map (·.2))) (wipeG Γ (own.map (·.2))) → OwnAt C Γ σ Wi := fun Wi Si i es p h1 h2 => by
    have z := fr' i es h1
    obtain ⟨o, h3, q, us, h4, _, h5, h6, _⟩ := Si.sl i _ (by rw [wipeG_in z]; exact h1)
    rw [wipe_in z, h2] at h3
    cases h3
    cases h4
    exact ⟨us, h5, h6⟩
  let Pv : Nat → Hp → Prop := fun i H => ∃ Wi vs acc, Wi.H = H ∧ Sto (C.blk scope) F Wi (L2.wipe σ (own.map (·.2))) (wipeG Γ (own.map (·.2))) ∧ Le W1 Wi ∧ H Dl = some (.lst vs) ∧ Wi.I Dl = none ∧ RpA C.K Wi.I vs acc ∧ acc.length ≤ i ∧ Iv i acc
  have w : Walk J ds.length (fun H => ∃ Wi, Wi.H = H ∧ WOk C.tabs Wi ∧ G Wi) (fun i H x H' => ∀ Wi, Wi.H = H → WOk C.tabs Wi → G Wi → ∃ W' d, W'.H = H' ∧ WOk C.tabs W' ∧ Le Wi W' ∧ Ext Wi.H H' ∧ ds[i]? = some d ∧ Rp C.K W'.I x d) :=
    ⟨fun i H hi ⟨Wi, e, k1, g⟩ => e ▸ wk.goes i Wi hi k1 g, fun H ⟨Wi, e, k1, g⟩ => e ▸ wk.stops Wi k1 g, fun i H x H' hi _ y Wi e k1 g => wk.yields i Wi x H' hi k1 g (by rw [e]; exact y)⟩
  refine lc_it w Pv ?_ ?_ ?_ ?_
  · refine ⟨⟨W1.I, upd W1.H Dl (.lst [])⟩, [], [], rfl, (S1.newH hD).wipe _ |>.cfg rfl rfl, Le.newH, upd_same, S1.ok.free hD, .nil, Nat.le_refl _, iv0⟩
  · rintro i H hn ⟨Wi, vs, acc, e, Si, Li, hv, hI, r, hl, iv⟩
    exact ⟨Wi, e, Si.ok, hG Wi Si.ok Li.im (hOwn Wi Si)⟩
  · rintro i x H H' hn ⟨Wi, vs, acc, e, Si, Li, hv, hI, r, hl, iv⟩ y
    subst e
    obtain ⟨W2, d, e2, k2, l2, x2, hd, rd⟩ := y Wi rfl Si.ok (hG Wi Si.ok Li.im (hOwn Wi Si))
    subst e2
    have S2 := Si.step k2 l2 x2
    have hv2 : W2.H Dl = some (.lst vs) := x2 _ _ hv fun _ z => nomatch z
    have S2b := S2.base (B' := upd F.B Dl (.lst vs)) (J' := F.J) (fun a o h n => by
      by_cases z : a = Dl
      · subst z
        rw [upd_same] at h
        cases h
        exact hv2
      · rw [upd_ne z] at h
        exact S2.bs a o h n) (fun a h => by
      have z : a ≠ Dl := fun z => by rw [z, hv2] at h; cases h
      rw [upd_ne z]
      exact S2.bh a h) S2.js (fun p h1 h2 h3 h4 => by
      have z : p ≠ Dl := fun z => by
        subst z
        rcases h4 with ⟨j, h4⟩ | h4
        · exact nO' j h4
        · exact nS h4
      rw [upd_ne z]
      exact h1)
    refine ivs i acc d hd hl iv _ W2 _ x S2b rd _ fun σ' Γ' S3 o3 g3 p3 => ⟨wipe_only o3, ?_⟩
    refine p3 _ W2 σ' S3 _ fun W3 b S4 L4 ⟨pt, pf⟩ => ?_
    have fin : ∀ W4 (vs' : List V) (acc' : List D), Sto (C.blk scope) { F with B := upd F.B Dl (.lst vs), J := F.J } W4 σ' Γ' → Le W2 W4 → RpA C.K W4.I vs' acc' → acc'.length ≤ i + 1 → Iv (i + 1) acc' → Pv (i + 1) (upd W4.H Dl (.lst vs')) := fun W4 vs' acc' S5 L5 r5 h5 iv5 => by
      have S6 : Sto (C.blk scope) F W4 (L2.wipe σ (own.map (·.2))) (wipeG Γ (own.map (·.2))) := S5.back o3 g3 (fun v x hv hx => wipeG_any hv hx) rfl rfl (fun a o h n => by
        by_cases z : a = Dl
        · subst z
          rw [hB0] at h; cases h
        · exact (upd_ne z).trans h) (fun p h => by
        by_cases z : p = Dl
        · subst z
          have h' := (upd_same (H := F.B) (a := p) (o := HO.lst vs)).symm.trans h
          cases h'
        · exact (upd_ne z).symm.trans h) rfl
      have hI4 : W4.I Dl = none := (l2.trans L5).keep hI (by rw [hv]; simp)
      exact ⟨⟨W4.I, upd W4.H Dl (.lst vs')⟩, vs', acc', rfl, S6.grow hI4 hB0 nO' nS h0 hT, ((Li.trans l2).trans L5).trans Le.newH, upd_same, hI4, r5, h5, iv5⟩
    cases b with
    | true =>
      rw [if_pos rfl]
      refine pt rfl _ W3 σ' S4 _ fun W4 v d4 S5 L5 r5 iv5 => ?_
      have hv5 : W4.H Dl = some (.lst vs) := S5.bs Dl _ upd_same fun _ z => nomatch z
      have r4 := r.mono ((l2.trans L4).trans L5).im
      refine ⟨vs, hv5, by rw [r.length]; omega, ?_⟩
      have hn' : i < ds.length := hn
      refine fin W4 (vs ++ [v]) (acc ++ [d4]) S5 (L4.trans L5) (r4.append (.cons r5 .nil)) (by simp; omega) iv5
    | false =>
      rw [if_neg (by simp)]
      have hv4 : W3.H Dl = some (.lst vs) := S4.bs Dl _ upd_same fun _ z => nomatch z
      have := fin W3 vs acc S4 L4 (r.mono (l2.trans L4).im) (by omega) (pf rfl)
      rw [show upd W3.H Dl (.lst vs) = W3.H from by
        funext a
        by_cases z : a = Dl
        · subst z; rw [upd_same, hv4]
        · rw [upd_ne z]] at this
      exact this
  · rintro H ⟨Wi, vs, acc, e, Si, Li, hv, hI, r, hl, iv⟩
    subst e
    exact k Wi Dl vs acc (S1.unwipe fr Si Li rfl rfl rfl rfl (fun _ _ h _ => h) (fun _ h => h) rfl) (L1.trans Li) (L1.gr Dl hD) hI hv r (ivd acc hl iv)
end
end Dl

/-! Dl: statements, defs. -/
namespace Dl
open PySem PySem.Spec PyProof.Rows L2
/-- what is wanted behind a statement, on data -/
structure Kt where
  nx : List SV → Prop
  rt : D → Prop
  bk : List SV → Prop := fun _ => False
  ct : List SV → Prop := fun _ => False
  ex : Addr → List SV → Prop := fun _ _ => False
def nxOf (C : Cfg) (F : Fr) (N : List SV → Prop) : L2.St → Hp → Prop := fun σ H => ∃ W Γ, W.H = H ∧ Sto C F W σ Γ ∧ N Γ
def endsOf (C : Cfg) (F : Fr) (K : Kt) : Ends where
  nx := nxOf C F K.nx
  rt := fun v H => ∃ W d, W.H = H ∧ RetOk C F W ∧ Rp C.K W.I v d ∧ K.rt d
  bk := nxOf C F K.bk
  ct := nxOf C F K.ct
def exOf (C : Cfg) (F : Fr) (ex : Addr → List SV → Prop) : WX := fun cls d σ H => ∃ W Γ a, cls = .ref a ∧ d = none ∧ W.H = H ∧ Sto C F W σ Γ ∧ ex a Γ
structure OkS (C : Cfg) (F : Fr) (ex : Addr → List SV → Prop) (X : Cx) : Prop where
  ok : OkX C X
  bd : Body X
  tk : Takes X (exOf C F ex)
  pa : PassesOwn (model X.prog X.w) X.A X.env X.xe
def tS (C : Cfg) (F : Fr) (ex : Addr → List SV → Prop) (st : Stmt) : TS := fun D σ H => ∀ X, OkS C F ex X → ∀ pins s, Inv X pins σ H s → wpAny (model X.prog X.w) X.A (exec st X.env) (SP X pins D) X.xe s
def tSs (C : Cfg) (F : Fr) (ex : Addr → List SV → Prop) (st : List Stmt) : TS := fun D σ H => ∀ X, OkS C F ex X → ∀ pins s, Inv X pins σ H s → wpAny (model X.prog X.w) X.A (execs st X.env) (SP X pins D) X.xe s
theorem ps_t {C : Cfg} {F : Fr} {ex : Addr → List SV → Prop} {X : Cx} {st : Stmt} (ok : OkS C F ex X) : PS X st (tS C F ex st) := ⟨fun pins s _ _ _ I h => h X ok pins s I⟩
theorem pss_t {C : Cfg} {F : Fr} {ex : Addr → List SV → Prop} {X : Cx} {st : List Stmt} (ok : OkS C F ex X) : PSs X st (tSs C F ex st) := ⟨fun pins s _ _ _ I h => h X ok pins s I⟩
def St (C : Cfg) (Γ : List SV) (st : Stmt) (K : Kt) : Prop := ∀ F W σ, Sto C F W σ Γ → tS C F K.ex st (endsOf C F K) σ W.H
def Sts (C : Cfg) (Γ : List SV) (st : List Stmt) (K : Kt) : Prop := ∀ F W σ, Sto C F W σ Γ → tSs C F K.ex st (endsOf C F K) σ W.H
/-- an expression that may raise -/
def tEX (C : Cfg) (F : Fr) (ex : Addr → List SV → Prop) (e : Expr) : TE := fun σ H Q => ∀ X, OkS C F ex X → ∀ pins s, Inv X pins σ H s → wpAny (model X.prog X.w) X.A (eval e X.env) (EP X pins σ Q) X.xe s
theorem pe_tX {C : Cfg} {F : Fr} {ex : Addr → List SV → Prop} {X : Cx} {e : Expr} (ok : OkS C F ex X) : PE X e (tEX C F ex e) := ⟨fun pins s _ _ _ I h => h X ok pins s I⟩
def EvX (C : Cfg) (Γ : List SV) (e : Expr) (ex : Addr → List SV → Prop) (Post : D → Prop) : Prop :=
  ∀ (F : Fr) (W : Wd) (σ : L2.St), Sto C F W σ Γ → ∀ Q : VK, (∀ W' v d, Sto C F W' σ Γ → Le W W' → Rp C.K W'.I v d → Post d → Q v W'.H) → tEX C F ex e σ W.H Q
theorem sp_mono {X : Cx} {pins : List (Addr × Obj)} {D D' : Ends} {f : Flow} {s : Shared} (h : SP X pins D f s) (n : ∀ σ H, D.nx σ H → D'.nx σ H) (r : ∀ v H, D.rt v H → D'.rt v H) (b : ∀ σ H, D.bk σ H → D'.bk σ H) (c : ∀ σ H, D.ct σ H → D'.ct σ H) : SP X pins D' f s := by
  cases f with
  | next => obtain ⟨σ', H', I, q⟩ := h; exact ⟨σ', H', I, n _ _ q⟩
  | brk => obtain ⟨σ', H', I, q⟩ := h; exact ⟨σ', H', I, b _ _ q⟩
  | cont => obtain ⟨σ', H', I, q⟩ := h; exact ⟨σ', H', I, c _ _ q⟩
  | ret u => obtain ⟨v, σ', H', I, q, z⟩ := h; exact ⟨v, σ', H', I, q, r _ _ z⟩
/-- slots forgotten, one by one -/
def Weak : List SV → List SV → Prop
  | [], [] => True
  | x :: xs, y :: ys => (y = x ∨ y = .any) ∧ Weak xs ys
  | _, _ => False
theorem Weak.refl : ∀ Γ, Weak Γ Γ
  | [] => trivial
  | _ :: r => ⟨.inl rfl, Weak.refl r⟩
theorem Weak.len : ∀ {Γ Γ' : List SV}, Weak Γ Γ' → Γ'.length = Γ.length
  | [], [], _ => rfl
  | _ :: r, _ :: r', h => by simp [Weak.len h.2]
  | [], _ :: _, h => h.elim
  | _ :: _, [], h => h.elim
theorem Weak.get : ∀ {Γ Γ' : List SV}, Weak Γ Γ' → ∀ {i : Nat} {x : SV}, Γ'[i]? = some x → x = SV.any ∨ Γ[i]? = some x
  | [], [], _, i, x, e => by simp at e
  | _ :: r, _ :: r', h, 0, x, e => by
    simp at e
    subst e
    rcases h.1 with z | z
    · exact .inr (by rw [z]; rfl)
    · exact .inl z
  | _ :: r, _ :: r', h, i + 1, x, e => by
    have := Weak.get h.2 (i := i) (x := x) (by simpa using e)
    simpa using this
  | [], _ :: _, h, _, _, _ => h.elim
  | _ :: _, [], h, _, _, _ => h.elim
section
variable {C : Cfg} {Γ Γ' : List SV} {a b c e tg : Expr} {es : List Expr} {st : Stmt} {rest body : List Stmt} {F : Fr} {W W' : Wd} {σ : L2.St} {pos : Pos} {K K' : Kt} {X : Cx} {ex : Addr → List SV → Prop}
theorem Sto.weak (S : Sto C F W σ Γ) (w : Weak Γ Γ') : Sto C F W σ Γ' where
  toRetOk := S.toRetOk
  len := by rw [S.len, w.len]
  sl := fun i x h => by
    rcases w.get h with z | z
    · subst z
      have hi : i < σ.length := by
        rw [S.len, ← w.len]
        exact (List.getElem?_eq_some_iff.mp h).1
      exact ⟨σ[i], List.getElem?_eq_getElem hi, trivial⟩
    · exact S.sl i x z
  od := fun i j p ⟨d1, h1, h2⟩ ⟨d2, h3, h4⟩ => by
    rcases w.get h1 with z | z
    · cases z
    · rcases w.get h3 with z' | z'
      · cases z'
      · exact S.od i j p ⟨d1, z, h2⟩ ⟨d2, z', h4⟩
theorem tS_of {t : Cx → TS} {D : Ends} {H : Hp} (h : ∀ X, OkS C F ex X → PS X st (t X)) (q : ∀ X, OkS C F ex X → t X D σ H) : tS C F ex st D σ H := fun X ok pins s I => (h X ok).run pins s σ H D I (q X ok)
theorem tSs_of {t : Cx → TS} {D : Ends} {H : Hp} (h : ∀ X, OkS C F ex X → PSs X rest (t X)) (q : ∀ X, OkS C F ex X → t X D σ H) : tSs C F ex rest D σ H := fun X ok pins s I => (h X ok).run pins s σ H D I (q X ok)
theorem tSs_mono {D D' : Ends} {H : Hp} (h : tSs C F ex rest D σ H) (n : ∀ σ H, D.nx σ H → D'.nx σ H) (r : ∀ v H, D.rt v H → D'.rt v H) (b : ∀ σ H, D.bk σ H → D'.bk σ H) (c : ∀ σ H, D.ct σ H → D'.ct σ H) : tSs C F ex rest D' σ H := fun X ok pins s I => thn (h X ok pins s I) fun f s' q => sp_mono q n r b c
theorem Ev.x {P : D → Prop} (h : Ev C Γ e P) : EvX C Γ e ex P := fun F W σ S Q k X ok pins s I => h F W σ S Q k X ok.ok pins s I
theorem EvX.imp {P Q : D → Prop} (h : EvX C Γ e ex P) (hi : ∀ d, P d → Q d) : EvX C Γ e ex Q := fun F W σ S K k => h F W σ S K fun W' v d a b c p => k W' v d a b c (hi d p)
theorem Sts.weak (w : Weak Γ Γ') (h : Sts C Γ' rest K) : Sts C Γ rest K := fun F W σ S => h F W σ (S.weak w)
/-! ### blocks -/
theorem sts_nil (h : K.nx Γ) : Sts C Γ [] K := fun F W σ S => tSs_of (t := fun _ => tNext) (fun X ok => pss_nil) fun X ok => ⟨W, Γ, rfl, S, h⟩
theorem sts_cons (h : St C Γ st { K with nx := fun Γ' => Sts C Γ' rest K }) : Sts C Γ (st :: rest) K := fun F W σ S =>
  tSs_of (t := fun _ => tSeq (tS C F K.ex st) (tSs C F K.ex rest)) (fun X ok => pss_cons (ps_t ok) (pss_t ok)) fun X ok => by
    intro X' ok' pins s I
    exact thn (h F W σ S X' ok' pins s I) fun f s' q => sp_mono q (fun σ' H' ⟨W', Γ', e, S', z⟩ => by subst e; exact z F W' σ' S') (fun _ _ z => z) (fun _ _ z => z) (fun _ _ z => z)
theorem sts_one (h : St C Γ st K) : Sts C Γ [st] K := fun F W σ S => tSs_of (t := fun _ => tS C F K.ex st) (fun X ok => pss_one (ps_t ok)) fun X ok => h F W σ S
/-! ### plain statements -/
theorem st_pass (h : K.nx Γ) : St C Γ (.Pass pos) K := fun F W σ S => tS_of (t := fun _ => tNext) (fun X ok => ps_pass) fun X ok => ⟨W, Γ, rfl, S, h⟩
theorem st_break (h : K.bk Γ) : St C Γ (.Break pos) K := fun F W σ S => tS_of (t := fun _ => tBreak) (fun X ok => ps_break) fun X ok => ⟨W, Γ, rfl, S, h⟩
theorem st_continue (h : K.ct Γ) : St C Γ (.Continue pos) K := fun F W σ S => tS_of (t := fun _ => tCont) (fun X ok => ps_continue) fun X ok => ⟨W, Γ, rfl, S, h⟩
theorem st_retX (h : EvX C Γ e K.ex K.rt) : St C Γ (.Return (some e) pos) K := fun F W σ S => tS_of (t := fun _ => tRet (tEX C F K.ex e)) (fun X ok => ps_ret (pe_tX ok)) fun X ok => h F W σ S _ fun W' v d S' L r p => ⟨W', d, rfl, S'.toRetOk, r, p⟩
theorem st_ret (h : Ev C Γ e K.rt) : St C Γ (.Return (some e) pos) K := st_retX h.x
theorem st_retN (h : K.rt .none) : St C Γ (.Return none pos) K := fun F W σ S => tS_of (t := fun _ => tRetN) (fun X ok => ps_retN) fun X ok => ⟨W, .none, rfl, S.toRetOk, .non, h⟩
theorem st_exprX (h : EvX C Γ e K.ex fun _ => K.nx Γ) (hs : ∀ env, swapsWith e none pos.line env = pure false := by intro _; rfl) : St C Γ (.Expr e pos) K := fun F W σ S =>
  tS_of (t := fun _ => tDrop (tEX C F K.ex e)) (fun X ok => ps_expr (pe_tX ok) (hs X.env)) fun X ok => h F W σ S _ fun W' v d S' L r p => ⟨W', Γ, rfl, S', p⟩
theorem st_expr (h : Ev C Γ e fun _ => K.nx Γ) (hs : ∀ env, swapsWith e none pos.line env = pure false := by intro _; rfl) : St C Γ (.Expr e pos) K := st_exprX h.x hs
theorem st_doc {x : Str} {j : Nat} {p' : Pos} (h : K.nx Γ) : St C Γ (.Expr (.Constant (.str x) j p') pos) K := fun F W σ S => tS_of (t := fun _ => tNext) (fun X ok => ps_doc) fun X ok => ⟨W, Γ, rfl, S, h⟩
theorem st_if {x y : List Stmt} (h : EvT C Γ c fun b => (b = true → Sts C Γ x K) ∧ (b = false → Sts C Γ y K)) : St C Γ (.If c x y pos) K := fun F W σ S =>
  tS_of (t := fun _ => tIfS (tT C c) (tSs C F K.ex x) (tSs C F K.ex y)) (fun X ok => ps_if (pt_t ok.ok) (pss_t ok) (pss_t ok)) fun X ok => h F W σ S _ fun W' b S' L ⟨p, q⟩ => by
    cases b with
    | true => rw [if_pos rfl]; exact p rfl F W' σ S'
    | false => rw [if_neg (by simp)]; exact q rfl F W' σ S'
theorem st_assert {m : Option Expr} (h : EvT C Γ c fun b => b = true ∧ K.nx Γ) : St C Γ (.Assert c m pos) K := fun F W σ S =>
  tS_of (t := fun _ => tAssert (tT C c)) (fun X ok => ps_assert (pt_t ok.ok)) fun X ok => h F W σ S _ fun W' b S' L ⟨p, q⟩ => ⟨p, W', Γ, rfl, S', q⟩
theorem StoreOk.f {i : Nat} {x : Str} (n : StoreOk C i x) (ok : OkX C X) : X.fn x = true ∨ X.env.scope.names.lookup x = some .local := by
  rcases n.fn with h | h
  · exact .inl (ok.fn x h)
  · exact .inr (by rw [ok.sc]; exact h)
/-- name = e -/
theorem st_setX {i : Nat} {x : Str} {p' : Pos} (n : StoreOk C i x) (hi : i < Γ.length) (h : EvX C Γ e K.ex fun d => K.nx (Γ.set i (.imm d))) (hs : ∀ env : Env, env.scope = C.sc → swapsWith e (some (.Name x p')) pos.line env = pure false := by intro _ _; rfl) : St C Γ (.Assign [.Name x p'] e pos) K := fun F W σ S =>
  tS_of (t := fun _ => tAsg (tEX C F K.ex e) (gName i)) (fun X ok => ps_set ok.ok.nd (by rw [ok.ok.N]; exact n.ix) (by rw [ok.ok.sc]; exact n.loc) (pe_tX ok) (hs X.env ok.ok.sc) (n.f ok.ok)) fun X ok => h F W σ S _ fun W' v d S' L r p => ⟨W', _, rfl, S'.setImm r hi, p⟩
theorem st_set {i : Nat} {x : Str} {p' : Pos} (n : StoreOk C i x) (hi : i < Γ.length) (h : Ev C Γ e fun d => K.nx (Γ.set i (.imm d))) (hs : ∀ env : Env, env.scope = C.sc → swapsWith e (some (.Name x p')) pos.line env = pure false := by intro _ _; rfl) : St C Γ (.Assign [.Name x p'] e pos) K := st_setX n hi h.x hs
/-- name = a new list, that may grow -/
theorem st_setL {i : Nat} {x : Str} {p' : Pos} (n : StoreOk C i x) (hi : i < Γ.length) (h : EvL C Γ e fun ds => K.nx (Γ.set i (.own ds))) (hs : ∀ env : Env, env.scope = C.sc → swapsWith e (some (.Name x p')) pos.line env = pure false := by intro _ _; rfl) : St C Γ (.Assign [.Name x p'] e pos) K := fun F W σ S =>
  tS_of (t := fun _ => tAsg (tE C e) (gName i)) (fun X ok => ps_set ok.ok.nd (by rw [ok.ok.N]; exact n.ix) (by rw [ok.ok.sc]; exact n.loc) (pe_t ok.ok) (hs X.env ok.ok.sc) (n.f ok.ok)) fun X ok => h F W σ S _ fun W' p vs ds S' L h1 h2 h3 h4 q => by
    have h0 : F.W0.H p = none := S.up.gr p h1
    obtain ⟨n1, n2⟩ := S.notOwn h1
    exact ⟨W', _, rfl, S'.setOwn h2 h3 h4 h0 (S.bh p h1) n2 (fun j _ => n1 j) hi, q⟩
/-- name = [..] -/
def swB (sc scope : Scope) (t : Str) (l1 l2 : Nat) : Bool := (if sc.kind.isAnnotationScope then ScopeKind.function else sc.kind) == .function && sc.names.lookup t == some .local && l1 == l2 && !(scope.names.any fun (n, k) => n == t && (k == .local || k == .cell))
theorem sw_lc {sc scope : Scope} {t : Str} {b : Bool} {elt : Expr} {gs : List Comprehension} {p q : Pos} {l : Nat} {env : Env} (h : env.scope = sc) (hb : swB sc scope t q.line p.line = b) : swapsWith (.ListComp elt gs scope p) (some (.Name t q)) l env = pure b := by
  subst h
  subst hb
  rfl
theorem st_setLc {i : Nat} {x : Str} {p' : Pos} {elt iter : Expr} {ifs : List Expr} {scope : Scope} {own : List (Str × Nat)} {spos : Pos} (hh : C.hot = false) (bo : BlkOk C.N C.sc scope own) (n : StoreOk C i x) (hl : C.sc.names.lookup x = some .local) (hi : i < Γ.length)
    (hb : swB C.sc scope x p'.line pos.line = true) (h : EvLc C Γ elt tg iter ifs scope own fun ds => K.nx (Γ.set i (.imm (.list ds)))) (hs : ∀ env x, foldedSetIterable iter env x = pure x := by intro _ _; rfl) : St C Γ (.Assign [.Name x p'] (.ListComp elt [⟨tg, iter, ifs, 0⟩] scope pos) spos) K := fun F W σ S =>
  tS_of (t := fun _ => tAsg (tLc (tI C tg iter) (tGt (C.blk scope) tg) (tTs (C.blk scope) ifs) (tE (C.blk scope) elt) (own.map fun x : Str × Nat => x.2)) (gName i))
    (fun X ok => ps_setLc (ok.ok.calm hh).1 ok.ok.nd (by rw [ok.ok.N]; exact n.ix) (by rw [ok.ok.sc]; exact hl) (sw_lc ok.ok.sc hb) (pi_t ok.ok) (by rw [ok.ok.N, ok.ok.sc]; exact bo) (fun s H A cl fp => pg_t (ok.ok.blk s H scope cl A fp)) (fun s H A cl fp => pts_t (ok.ok.blk s H scope cl A fp)) (fun s H A cl fp => pe_t (ok.ok.blk s H scope cl A fp)) (fun x => hs X.env x)) fun X ok => h F W σ S (fun x H1 => gName i x σ H1 (endsOf C F K).nx) (fun W' p vs ds S' L h1 h2 h3 h4 q => by
    obtain ⟨n1, n2⟩ := S.notOwn h1
    have S2 := S'.settle h3 h2 n1 n2 (S.up.gr p h1)
    exact ⟨⟨upd W'.I p (.lst vs), W'.H⟩, _, rfl, S2.setImm (.lst upd_same (h4.mono (same_new h2))) hi, q⟩) X ok.ok
theorem st_setLcO {i : Nat} {x : Str} {p' : Pos} {elt iter : Expr} {ifs : List Expr} {scope : Scope} {own : List (Str × Nat)} {spos : Pos} (hh : C.hot = false) (bo : BlkOk C.N C.sc scope own) (n : StoreOk C i x) (hl : C.sc.names.lookup x = some .local) (hi : i < Γ.length)
    (hb : swB C.sc scope x p'.line pos.line = true) (h : EvLc C Γ elt tg iter ifs scope own fun ds => K.nx (Γ.set i (.own ds))) (hs : ∀ env x, foldedSetIterable iter env x = pure x := by intro _ _; rfl) : St C Γ (.Assign [.Name x p'] (.ListComp elt [⟨tg, iter, ifs, 0⟩] scope pos) spos) K := fun F W σ S =>
  tS_of (t := fun _ => tAsg (tLc (tI C tg iter) (tGt (C.blk scope) tg) (tTs (C.blk scope) ifs) (tE (C.blk scope) elt) (own.map fun x : Str × Nat => x.2)) (gName i))
    (fun X ok => ps_setLc (ok.ok.calm hh).1 ok.ok.nd (by rw [ok.ok.N]; exact n.ix) (by rw [ok.ok.sc]; exact hl) (sw_lc ok.ok.sc hb) (pi_t ok.ok) (by rw [ok.ok.N, ok.ok.sc]; exact bo) (fun s H A cl fp => pg_t (ok.ok.blk s H scope cl A fp)) (fun s H A cl fp => pts_t (ok.ok.blk s H scope cl A fp)) (fun s H A cl fp => pe_t (ok.ok.blk s H scope cl A fp)) (fun x => hs X.env x)) fun X ok => h F W σ S (fun x H1 => gName i x σ H1 (endsOf C F K).nx) (fun W' p vs ds S' L h1 h2 h3 h4 q => by
    obtain ⟨n1, n2⟩ := S.notOwn h1
    exact ⟨W', _, rfl, S'.setOwn h2 h3 h4 (S.up.gr p h1) (S.bh p h1) n2 (fun j _ => n1 j) hi, q⟩) X ok.ok
/-- target = e -/
theorem st_asg {vs : List Nat} (h : Ev C Γ e fun d => EvG C vs Γ tg d K.nx) (hs : ∀ env, swapsWithSole [tg] e pos.line env = pure false := by intro _; rfl) (hw : ∀ env, swappedStores [tg] e env = pure none := by intro _; rfl)
    (h1 : ∀ env, (assignEach [tg] env).map (·.2) = [assign tg env] := by intro _; rfl) : St C Γ (.Assign [tg] e pos) K := fun F W σ S =>
  tS_of (t := fun _ => tAsg (tE C e) (tGt C tg)) (fun X ok => ps_asg (pe_t ok.ok) (pg_t ok.ok) (hs X.env) (hw X.env) (h1 X.env)) fun X ok => h F W σ S _ fun W' v d S' L r p => p F W' σ v S' r _ fun σ' Γ' S2 _ _ q => ⟨W', Γ', rfl, S2, q⟩
/-- a, b = x, y -/
theorem st_par {i j : Nat} {x y : Str} {px py pt : Pos} {kt k2 : Nat} {pt2 : Pos} (hh : C.hot = false) (n1 : StoreOk C i x) (n2 : StoreOk C j y) (hij : i ≠ j) (hx : C.sc.names.lookup x = some .local) (hy : C.sc.names.lookup y = some .local) (h1 : i < Γ.length) (h2 : j < Γ.length)
    (ha : EvA C Γ [a, b] fun ds => ∃ d1 d2, ds = [d1, d2] ∧ K.nx ((Γ.set i (.imm d1)).set j (.imm d2)))
    (hw : ∀ env : Env, env.scope = C.sc → swappedStores [.Tuple [.Name x px, .Name y py] kt pt] (.Tuple [a, b] k2 pt2) env = pure (some [x, y]))
    (hs : ∀ env, swapsWithSole [.Tuple [.Name x px, .Name y py] kt pt] (.Tuple [a, b] k2 pt2) pos.line env = pure false := by intro _; rfl) : St C Γ (.Assign [.Tuple [.Name x px, .Name y py] kt pt] (.Tuple [a, b] k2 pt2) pos) K := fun F W σ S =>
  tS_of (t := fun _ => tPar i j (tA C [a, b])) (fun X ok => ps_par (ok.ok.calm hh).1 ok.ok.nd (by rw [ok.ok.N]; exact n1.ix) (by rw [ok.ok.N]; exact n2.ix) hij (by rw [ok.ok.sc]; exact hx) (by rw [ok.ok.sc]; exact hy) (pa_t ok.ok) (hw X.env ok.ok.sc) (hs X.env)) fun X ok => ha F W σ S _ fun W' vs ds S' L r ⟨d1, d2, e, p⟩ => by
    subst e
    cases r with
    | cons r1 r2 =>
      cases r2 with
      | cons r2 r3 =>
        cases r3
        exact ⟨_, _, rfl, W', _, rfl, (S'.setImm r1 h1).setImm r2 (by rw [List.length_set]; exact h2), p⟩
/-- name += e, ints -/
theorem st_augI {i : Nat} {x : Str} {p' : Pos} {op : Operator} {f : Int → Int → Int} {n : Int} (ho : ∀ X, PIp X op (ipI f)) (nm : StoreOk C i x) (hi : Γ[i]? = some (.imm (.int n))) (h : Ev C Γ e fun d => ∃ m, d = .int m ∧ K.nx (Γ.set i (.imm (.int (f n m))))) : St C Γ (.AugAssign (.Name x p') op e pos) K := fun F W σ S =>
  tS_of (t := fun _ => tAug i (tE C e) (ipI f)) (fun X ok => ps_aug ok.ok.nd (by rw [ok.ok.N]; exact nm.ix) (by rw [ok.ok.sc]; exact nm.loc) (pe_t ok.ok) (ho X) (nm.f ok.ok)) fun X ok => by
    obtain ⟨o, e1, v, e2, r1⟩ := S.sl i _ hi
    subst e2
    cases r1
    refine ⟨_, e1, h F W σ S _ fun W' v d S' L r ⟨m, e, p⟩ => ?_⟩
    subst e
    cases r
    exact ⟨n, m, rfl, rfl, W', _, rfl, S'.setImm (.int _) (List.getElem?_eq_some_iff.mp hi).1, p⟩
theorem st_augAdd {i : Nat} {x : Str} {p' : Pos} {n : Int} (nm : StoreOk C i x) (hi : Γ[i]? = some (.imm (.int n))) (h : Ev C Γ e fun d => ∃ m, d = .int m ∧ K.nx (Γ.set i (.imm (.int (n + m))))) : St C Γ (.AugAssign (.Name x p') .Add e pos) K := st_augI (fun X => ip_add) nm hi h
theorem st_augSub {i : Nat} {x : Str} {p' : Pos} {n : Int} (nm : StoreOk C i x) (hi : Γ[i]? = some (.imm (.int n))) (h : Ev C Γ e fun d => ∃ m, d = .int m ∧ K.nx (Γ.set i (.imm (.int (n - m))))) : St C Γ (.AugAssign (.Name x p') .Sub e pos) K := st_augI (fun X => ip_sub) nm hi h
theorem set_id {α : Type} {l : List α} {i : Nat} {x : α} (h : l[i]? = some x) : l.set i x = l := by
  obtain ⟨h1, h2⟩ := List.getElem?_eq_some_iff.mp h
  rw [← h2]
  exact List.set_getElem_self h1
theorem weak_set {Γ : List SV} : ∀ {i : Nat}, i < Γ.length → Weak Γ (Γ.set i .any) := by
  induction Γ with
  | nil => intro i h; cases h
  | cons x r ih =>
    intro i h
    cases i with
    | zero => exact ⟨.inr rfl, Weak.refl r⟩
    | succ i => exact ⟨.inl rfl, ih (by simpa using h)⟩
/-- slot i is no longer told of -/
theorem Sto.drop1 (S : Sto C F W σ Γ) {i : Nat} {ds : List D} (hi : Γ[i]? = some (.own ds)) : ∃ p vs, σ[i]? = some (some (.ref p)) ∧ W.I p = none ∧ W.H p = some (.lst vs) ∧ RpA C.K W.I vs ds ∧ F.W0.H p = none ∧ F.B p = none ∧ F.s ≠ some p ∧ Sto C F W σ (Γ.set i .any) ∧ ∀ j, ¬ ownAt (Γ.set i .any) σ j p := by
  obtain ⟨o, e1, p, vs, e2, h1, h2, h3, h4, h5, h6⟩ := S.sl i _ hi
  subst e2
  have hl := (List.getElem?_eq_some_iff.mp hi).1
  refine ⟨p, vs, e1, h1, h2, h3, h4, h5, h6, S.weak (weak_set hl), fun j ⟨d, k1, k2⟩ => ?_⟩
  by_cases z : i = j
  · subst z
    rw [List.getElem?_set_self hl] at k1
    cases k1
  · rw [List.getElem?_set_ne z] at k1
    exact z (S.od i j p ⟨ds, hi, e1⟩ ⟨d, k1, k2⟩)
/-- an own list is no longer changed -/
theorem Sto.freeze (S : Sto C F W σ Γ) {i : Nat} {ds : List D} (hi : Γ[i]? = some (.own ds)) : ∃ W', W'.H = W.H ∧ Sto C F W' σ (Γ.set i (.imm (.list ds))) := by
  obtain ⟨p, vs, e1, h1, h2, h3, h4, h5, h6, S1, no⟩ := S.drop1 hi
  have hl := (List.getElem?_eq_some_iff.mp hi).1
  have S2 := S1.settle h2 h1 no h6 h4
  have S3 := S2.setImm (i := i) (v := .ref p) (d := .list ds) (.lst upd_same (h3.mono (same_new h1))) (by rw [List.length_set]; exact hl)
  rw [List.set_set, set_id e1] at S3
  exact ⟨⟨upd W.I p (.lst vs), W.H⟩, rfl, S3⟩
theorem sts_freeze (i : Nat) {ds : List D} (hi : Γ[i]? = some (.own ds)) (h : Sts C (Γ.set i (.imm (.list ds))) rest K) : Sts C Γ rest K := fun F W σ S => by
  obtain ⟨W', e, S'⟩ := S.freeze hi
  have := h F W' σ S'
  rw [e] at this
  exact this
theorem st_freeze (i : Nat) {ds : List D} (hi : Γ[i]? = some (.own ds)) (h : St C (Γ.set i (.imm (.list ds))) st K) : St C Γ st K := fun F W σ S => by
  obtain ⟨W', e, S'⟩ := S.freeze hi
  have := h F W' σ S'
  rw [e] at this
  exact this
/-- an own list is given another content -/
theorem Sto.updOwn (S : Sto C F W σ Γ) {i : Nat} {ds : List D} (hi : Γ[i]? = some (.own ds)) : ∃ p vs, σ[i]? = some (some (.ref p)) ∧ W.H p = some (.lst vs) ∧ RpA C.K W.I vs ds ∧ ∀ vs' ds', RpA C.K W.I vs' ds' → Sto C F ⟨W.I, upd W.H p (.lst vs')⟩ σ (Γ.set i (.own ds')) := by
  obtain ⟨p, vs, e1, h1, h2, h3, h4, h5, h6, S1, no⟩ := S.drop1 hi
  have hl := (List.getElem?_eq_some_iff.mp hi).1
  refine ⟨p, vs, e1, h2, h3, fun vs' ds' r => ?_⟩
  have S2 := S1.grow (o := .lst vs') h1 h5 no h6 h4 fun P hP z => by
    obtain ⟨ps, e, _⟩ := S.ok.tb P hP
    rw [z, h2] at e
    cases e
  have S3 := S2.setOwn (i := i) (p := p) (vs := vs') (ds := ds') h1 upd_same r h4 h5 h6 (fun j _ => no j) (by rw [List.length_set]; exact hl)
  rw [List.set_set, set_id e1] at S3
  exact S3
/-- x.append(e) -/
theorem st_append {i : Nat} {x : Str} {p1 p2 p3 : Pos} {ds : List D} (n : NameOk C.N C.sc i x) (hi : Γ[i]? = some (.own ds)) (hl : ds.length < sizeLine) (h : Ev C Γ e fun d => K.nx (Γ.set i (.own (ds ++ [d]))))
    (hbase : ∀ env, attributeBase (.Name x p1) "append" env (eval (.Name x p1) env) = eval (.Name x p1) env := by intro _; rfl)
    (hfew : ∀ env, ((backTo p3 (starEach [e] env)).all (fun x => !x.1) && (backToKw p3 (keywordEach [] env)).all (fun x => x.1.isSome)
      && decide (([e] : List Expr).length + ([] : List Keyword).length + (if ([] : List Keyword).isEmpty then 0 else 1) < 30)) = true := by intro _; rfl)
    (hline : (p2.endLine == p3.line) = true := by rfl) (hs : ∀ env, starEach [e] env = (false, eval e env) :: starEach [] env := by intro _; rfl)
    (hsw : ∀ env, swapsWith (.Call (.Attribute (.Name x p1) "append" p2) [e] [] p3) none pos.line env = pure false := by intro _; rfl) : St C Γ (.Expr (.Call (.Attribute (.Name x p1) "append" p2) [e] [] p3) pos) K := fun F W σ S =>
  tS_of (t := fun X => tDrop (tBM X.K "list" rAppend (tVar i) (tA C [e]))) (fun X ok => ps_expr (pe_bm PySem.F.plainAttrs_list PySem.F.slot_list_append (by rfl) mt_append (pe_var (by rw [ok.ok.N]; exact n.ix) (by rw [ok.ok.sc]; exact n.vis) n.d1 n.d2) (pa_t ok.ok) (hbase X.env) (hfew X.env) hline (hs X.env) rfl) (hsw X.env)) fun X ok => by
    obtain ⟨p, vs, e1, h2, h3, _⟩ := S.updOwn hi
    refine ⟨_, e1, .inl ⟨rfl, vs, SqL.of h2⟩, ?_⟩
    have ha : EvA C Γ [e] fun es => ∃ d, es = [d] ∧ K.nx (Γ.set i (.own (ds ++ [d]))) := eva_cons (h.imp fun d q => eva_nil ⟨d, rfl, q⟩) (fun env => hs env)
    refine ha F W σ S _ fun W' us es S' L r ⟨d, e, q⟩ => ?_
    subst e
    cases r with
    | cons r1 r2 =>
      cases r2
      obtain ⟨p', vs', e1', h2', h3', up⟩ := S'.updOwn hi
      rw [e1] at e1'
      cases e1'
      refine ⟨p, vs', _, rfl, rfl, h2', by rw [h3'.length]; exact hl, ?_⟩
      exact ⟨_, _, rfl, up _ _ (h3'.append (.cons r1 .nil)), q⟩
/-- x[j] = e -/
theorem st_item {i : Nat} {x : Str} {p1 p2 : Pos} {ds : List D} {m : Nat} (n : NameOk C.N C.sc i x) (hi : Γ[i]? = some (.own ds)) (h : Ev C Γ e fun d => Ev C Γ a fun k => ∃ z, k = .int z ∧ ixN ds.length z = some m ∧ K.nx (Γ.set i (.own (ds.set m d))))
    (hs : ∀ env, swapsWithSole [.Subscript (.Name x p1) a p2] e pos.line env = pure false := by intro _; rfl) (hw : ∀ env, swappedStores [.Subscript (.Name x p1) a p2] e env = pure none := by intro _; rfl)
    (h1 : ∀ env, (assignEach [.Subscript (.Name x p1) a p2] env).map (·.2) = [assign (.Subscript (.Name x p1) a p2) env] := by intro _; rfl)
    (ha : ∀ env v, assign (.Subscript (.Name x p1) a p2) env v = (do
      let ov ← holding [v] (eval (.Name x p1) env)
      let iv ← holding [v, ov] (eval a env)
      standAt p2
      holding [v, ov, iv] (setItem ov iv v)
      release [v, ov, iv] []) := by intro _ _; rfl) : St C Γ (.Assign [.Subscript (.Name x p1) a p2] e pos) K := fun F W σ S =>
  tS_of (t := fun X => tAsg (tE C e) (gSub (tVar i) (tE C a) rSetL)) (fun X ok => ps_asg (pe_t ok.ok) (pg_sub (pe_var (by rw [ok.ok.N]; exact n.ix) (by rw [ok.ok.sc]; exact n.vis) n.d1 n.d2) (pe_t ok.ok) set_list (ha X.env)) (hs X.env) (hw X.env) (h1 X.env)) fun X ok => h F W σ S _ fun W1 v d S1 L1 r1 h' => by
    obtain ⟨p, vs, e1, h2, h3, _⟩ := S1.updOwn hi
    refine ⟨_, e1, h' F W1 σ S1 _ fun W2 u k S2 L2 r2 ⟨z, e2, e3, q⟩ => ?_⟩
    subst e2
    cases r2
    obtain ⟨p', vs', e1', h2', h3', up⟩ := S2.updOwn hi
    rw [e1] at e1'
    cases e1'
    exact ⟨p, vs', z, m, rfl, rfl, h2', by rw [h3'.length]; exact e3, _, _, rfl, up _ _ (h3'.set m (r1.mono L2.im)), q⟩
/-! ### loops -/
theorem Sto.unJ {J' : Hp} (S : Sto C { F with J := J' } W σ Γ) (h : Same F.J J') : Sto C F W σ Γ := ⟨⟨S.ok, S.up, S.bs, S.bh, h.trans S.js, S.sb⟩, S.len, S.sl, S.od⟩
theorem RetOk.unJ {J' : Hp} (S : RetOk C { F with J := J' } W) (h : Same F.J J') : RetOk C F W := ⟨S.ok, S.up, S.bs, S.bh, h.trans S.js, S.sb⟩
theorem OkS.unJ {J' : Hp} (ok : OkS C F ex X) (h : Same F.J J') : OkS C { F with J := J' } ex X := ⟨ok.ok, ok.bd, ok.tk.imp fun c d σ H ⟨W, Γ, a, e1, e2, e3, S, q⟩ => ⟨W, Γ, a, e1, e2, e3, S.unJ h, q⟩, ok.pa⟩
/-- a loop's slots behind a turn: told of at least so much -/
def Wk (I : List SV → Prop) : List SV → Prop := fun Γ => ∃ Γ', Weak Γ Γ' ∧ I Γ'
theorem Wk.of {I : List SV → Prop} (h : I Γ) : Wk I Γ := ⟨Γ, Weak.refl _, h⟩
theorem st_for (hh : C.hot = false) (hi : EvIt C Γ tg e fun ds => ∃ Iv : Nat → List SV → Prop, Wk (Iv 0) Γ ∧
      (∀ i d Γi, ds[i]? = some d → Iv i Γi → ∃ vs, EvG C vs Γi tg d fun Γ' => Sts C Γ' body { K with nx := Wk (Iv (i + 1)), ct := Wk (Iv (i + 1)), bk := K.nx }) ∧ ∀ Γn, Iv ds.length Γn → K.nx Γn)
    (hs : ∀ env x, foldedSetIterable e env x = pure x := by intro _ _; rfl) : St C Γ (.For tg e body [] pos) K := fun F W σ S => by
  refine tS_of (t := fun X => tFor (tI C tg e) (tGt C tg) (fun D σ H => ∃ J', Same F.J J' ∧ tSs C { F with J := J' } K.ex body D σ H)) (fun X ok => ps_for ok.pa (ok.ok.calm hh).1 (pi_t ok.ok) (pg_t ok.ok) ⟨fun pins s σ H D I ⟨J', hJ', h⟩ => ?_⟩ (hs X.env)) fun X ok => ?_
  · exact h X (ok.unJ hJ') pins s I
  refine hi F W σ S _ fun W1 J ds G S1 L1 wk hG ⟨Iv, iv0, ivs, ivd⟩ => ?_
  have hJ : Same F.J W1.I := S1.js
  have S1' : Sto C { F with J := W1.I } W1 σ Γ := ⟨⟨S1.ok, S1.up, S1.bs, S1.bh, Same.refl _, S1.sb⟩, S1.len, S1.sl, S1.od⟩
  let Pv : Nat → L2.St → Hp → Prop := fun i σ H => ∃ Wi Γi, Wi.H = H ∧ Sto C { F with J := W1.I } Wi σ Γi ∧ Iv i Γi
  have w : Walk J ds.length (fun H => ∃ Wi, Wi.H = H ∧ WOk C.tabs Wi ∧ G Wi) (fun i H x H' => ∀ Wi, Wi.H = H → WOk C.tabs Wi → G Wi → ∃ W' d, W'.H = H' ∧ WOk C.tabs W' ∧ Le Wi W' ∧ Ext Wi.H H' ∧ ds[i]? = some d ∧ Rp C.K W'.I x d) :=
    ⟨fun i H hi ⟨Wi, e, k1, g⟩ => e ▸ wk.goes i Wi hi k1 g, fun H ⟨Wi, e, k1, g⟩ => e ▸ wk.stops Wi k1 g, fun i H x H' hi _ y Wi e k1 g => wk.yields i Wi x H' hi k1 g (by rw [e]; exact y)⟩
  have wkn : ∀ i σ' H', nxOf C { F with J := W1.I } (Wk (Iv i)) σ' H' → Pv i σ' H' := fun i σ' H' ⟨W', Γ', e, S', Γ2, wk', iv⟩ => ⟨W', Γ2, e, S'.weak wk', iv⟩
  refine for_it (D := endsOf C F K) (g := tGt C tg) (tb := fun D σ H => ∃ J', Same F.J J' ∧ tSs C { F with J := J' } K.ex body D σ H) w Pv ?_ ?_ ?_ ?_
  · obtain ⟨Γ2, w2, iv⟩ := iv0
    exact ⟨W1, Γ2, rfl, S1'.weak w2, iv⟩
  · rintro i σi H hn ⟨Wi, Γi, e, Si, iv⟩
    exact ⟨Wi, e, Si.ok, hG Wi Si.ok Si.js⟩
  · rintro i x σi H H' hn ⟨Wi, Γi, e, Si, iv⟩ y
    subst e
    obtain ⟨W2, d, e2, k2, l2, x2, hd, rd⟩ := y Wi rfl Si.ok (hG Wi Si.ok Si.js)
    subst e2
    obtain ⟨vs, hg⟩ := ivs i d Γi hd iv
    refine hg _ W2 σi x (Si.step k2 l2 x2) rd _ fun σ' Γ' S3 _ _ p3 => ⟨W1.I, hJ, ?_⟩
    exact tSs_mono (p3 { F with J := W1.I } W2 σ' S3) (wkn (i + 1)) (fun v H ⟨W', d, e, R, r, q⟩ => ⟨W', d, e, R.unJ hJ, r, q⟩) (fun σ H ⟨W', Γ', e, S', q⟩ => ⟨W', Γ', e, S'.unJ hJ, q⟩) (wkn (i + 1))
  · rintro σn H ⟨Wi, Γn, e, Si, iv⟩
    exact ⟨Wi, Γn, e, Si.unJ hJ, ivd Γn iv⟩
/-- while: Iv by its measure -/
theorem st_while (Iv : Nat → List SV → Prop) (m0 : Nat) (h0 : Wk (Iv m0) Γ) (h : ∀ m Γi, Iv m Γi → EvT C Γi c fun b => (b = true → Sts C Γi body { K with nx := Wk fun Γ' => ∃ m', m' < m ∧ Iv m' Γ', ct := Wk fun Γ' => ∃ m', m' < m ∧ Iv m' Γ', bk := K.nx }) ∧ (b = false → K.nx Γi)) : St C Γ (.While c body [] pos) K := fun F W σ S => by
  refine tS_of (t := fun X => tWhile (tT C c) (tSs C F K.ex body)) (fun X ok => ps_while ok.pa (pt_t ok.ok) (pss_t ok)) fun X ok => ?_
  refine ⟨fun m σ H => ∃ W Γi, W.H = H ∧ Sto C F W σ Γi ∧ Iv m Γi, ⟨m0, ?_⟩, ?_⟩
  · obtain ⟨Γ2, w2, iv⟩ := h0
    exact ⟨W, Γ2, rfl, S.weak w2, iv⟩
  · rintro m σi H ⟨Wi, Γi, e, Si, iv⟩
    subst e
    refine h m Γi iv F Wi σi Si _ fun W2 b S2 L2 ⟨pt, pf⟩ => ?_
    cases b with
    | true =>
      rw [if_pos rfl]
      refine ⟨nxOf C F (Wk fun Γ' => ∃ m', m' < m ∧ Iv m' Γ'), fun σ' H' ⟨W3, Γ3, e, S3, Γ4, w4, m', hm, iv'⟩ => ⟨m', hm, W3, Γ4, e, S3.weak w4, iv'⟩, ?_⟩
      exact pt rfl F W2 σi S2
    | false =>
      rw [if_neg (by simp)]
      exact ⟨W2, Γi, rfl, S2, pf rfl⟩
/-! ### errors -/
/-- X(), X an own class without own __init__ -/
theorem pmk_own0 {D : Addr} {bmB : List Value} {B newId initId : String} {x : Str} {p pos : Pos} (F : ExcBaseFacts B newId initId bmB) (q : PySem.W.excIn X.K D bmB newId = true) (gC : X.mg x = some (.ref D)) (kC : PySem.W.keepIn X.K (.ref D) = true) (r : Raises X (.ref D)) (hg : Gl X x)
    (hdb : (x == ("__debug__" : Str)) = false := by decide) : PMk X (.Call (.Name x p) [] [] pos) (fun _ H Q => Q (.ref D) none H) := by
  intro pins s σ H Q I h
  refine wpAny_Call_Name_kw (ld_glob I hg gC ?_ hdb)
  refine PySem.W.callWith_K0 I.kIn kC ?_
  show wpAny _ _ (call (.ref D) []) _ _ _
  obtain ⟨bm, N, nm, qn, bs, hdct, sn, sub, ab, col, dd, k0, k1, k2, k3, k5, mN, hC, hN, hni, T⟩ := exc_obj I.kIn q
  refine wpAny_call_exc_subT F T hC hN hni (fun h' e hm => ?_) (Nat.zero_le _)
  exact mk_of I hm r h (I.hok.gone hm.new)
/-- an own class of errors, below ValueError -/
structure ErrE (G : Gb) (x : Str) (D : Addr) : Prop where
  ex : PySem.W.excIn G.K D [.type "ValueError", .type "Exception", .type "BaseException", .type "object"] "ValueError.__new__" = true
  gl : G.mg x = some (.ref D)
  kp : PySem.W.keepIn G.K (.ref D) = true
  r1 : PySem.W.subIn G.K (.ref D) (.type "BaseException") = some true
  r2 : PySem.W.typeIn G.K (.ref D) = some (.type "type")
theorem st_raise0 {x : Str} {D : Addr} {p p' : Pos} (hh : C.hot = false) (G : ErrE C.toGb x D) (g : GlobOk C.sc x) (h : K.ex D Γ) : St C Γ (.Raise (some (.Call (.Name x p) [] [] p')) none pos) K := fun F W σ S =>
  tS_of (t := fun X => fun _ σ H => exOf C F K.ex (.ref D) none σ H) (fun X ok => ps_raise (ok.ok.calm hh).1 ok.tk (pmk_own0 PySem.F.excBase_ValueError (by rw [ok.ok.K]; exact G.ex) (by rw [ok.ok.mg]; exact G.gl) (by rw [ok.ok.K]; exact G.kp) (raises_own (by rw [ok.ok.K]; exact G.r1) (by rw [ok.ok.K]; exact G.r2)) (g.gl ok.ok) g.d1)) fun X ok => ⟨W, Γ, D, rfl, rfl, rfl, S, h⟩
/-- a call that may raise -/
theorem ev_callX {x : Str} {p : Pos} {ps : List Str} {k n : Nat} {S : SpD} {P : D → Prop} (G : FnE C.toGb x ps k (spP C.K C.tabs n S)) (g : GlobOk C.sc x) (hk : k ≤ C.k) (hh : C.hot = false) (ha : EvA C Γ (e :: es) fun ds => ds.length = n ∧ ∃ EX, S ds P EX ∧ ∀ c, EX c → ex c Γ)
    (he : ∀ env, starEach (e :: es) env = (false, eval e env) :: starEach es env := by intro _; rfl) (hpl : ∀ env, (backTo pos (starEach es env)).any (·.1) = false := by intro _; rfl) : EvX C Γ (.Call (.Name x p) (e :: es) [] pos) ex P := fun F W σ St Q kk X ok => by
  obtain ⟨f, fd, hF, hm, hkp, hb⟩ := G.fn ok.ok
  have hpe := pe_callS (es := es) (e := e) (p := p) (pos := pos) hF ((ok.ok.calm hh).2.mono hk) (g.gl ok.ok) hm hkp hb (fun σ => passAt ok.tk σ) (pa_t (C := C) ok.ok) g.d1 (he X.env) (hpl X.env)
  intro pins s I
  refine hpe.run pins s σ W.H Q I ?_
  exact ha F W σ St _ fun W1 vs ds S1 L1 r1 ⟨hn, EX, hS, hE⟩ =>
    ⟨W1, ds, P, EX, rfl, S1.ok, r1, hn, hS, fun W2 v d k2 L2 e2 r2 p2 => kk W2 v d (S1.step k2 L2 e2) (L1.trans L2) r2 p2, fun c W2 z k2 L2 e2 => ⟨W2, Γ, c, rfl, rfl, rfl, S1.step k2 L2 e2, hE c z⟩⟩
/-- try: body; except x: suite -/
theorem OkX.hot (ok : OkX C X) (a : Addr) (pn : List (Addr × Obj)) : OkX { C with hot := true } (X.suite a pn) := ⟨ok.prog, ok.w, ok.K, ok.mg, ok.base, ok.N, ok.sc, ok.cd, ok.nd, ok.fn, fun z => by cases z⟩
theorem Sto.hot (S : Sto C F W σ Γ) : Sto { C with hot := true } F W σ Γ := ⟨⟨S.ok, S.up, S.bs, S.bh, S.js, S.sb⟩, S.len, S.sl, S.od⟩
theorem st_try {x : Str} {c : Value} {np pos' : Pos} {b₀ : Stmt} {suite : List Stmt} (exB : Addr → List SV → Prop) (g : GlobOk C.sc x) (hc : C.mg x = some c ∨ (C.mg x = none ∧ bootBuiltins x = some c)) (hb : Sts C Γ body { K with ex := exB })
    (hx : ∀ a Γ', exB a Γ' → ∃ b, PySem.W.exmOne C.K (.ref a) c = some b ∧ (b = true → Sts { C with hot := true } Γ' (b₀ :: suite) { K with ex := fun _ _ => False }) ∧ (b = false → K.ex a Γ')) : St C Γ (.Try body [.ExceptHandler (some (.Name x np)) none (b₀ :: suite) pos'] [] [] pos) K := fun F W σ S => by
  refine tS_of (t := fun X => fun D σ H => (∀ cls d σ' H', exOf C F exB cls d σ' H' → wOnly X.K c (fun _ _ _ => tSs { C with hot := true } F (fun _ _ => False) (b₀ :: suite)) (exOf C F K.ex) D cls d σ' H') ∧ tSs C F exB body D σ H) (fun X ok => ?_) fun X ok => ?_
  · refine ps_try_only (tb := fun Wx D σ H => (∀ cls d σ' H', exOf C F exB cls d σ' H' → Wx cls d σ' H') ∧ tSs C F exB body D σ H) (Wout := exOf C F K.ex) ok.bd.hs ok.bd.hf ⟨g.gl ok.ok, g.d1, ?_⟩ ok.tk (fun Wx pn xe tk pa => ⟨fun pins s σ H D I ⟨h1, h2⟩ => ?_⟩) (fun a oe cls d pn _ _ => ⟨fun pins s σ H D I h => ?_⟩)
    · rw [ok.ok.mg]
      exact hc.imp id fun z => ⟨z.1, z.2, g.d2⟩
    · exact h2 (X.tr pn xe) ⟨⟨ok.ok.prog, ok.ok.w, ok.ok.K, ok.ok.mg, ok.ok.base, ok.ok.N, ok.ok.sc, ok.ok.cd, ok.ok.nd, ok.ok.fn, ok.ok.calm⟩, ⟨ok.bd.hs, ok.bd.hf, ok.bd.ex⟩, tk.imp fun cls d σ H z => h1 cls d σ H z, pa⟩ pins s I
    · exact h (X.suite a ((a, oe) :: pn)) ⟨ok.ok.hot a _, ⟨ok.bd.hs, ok.bd.hf, ok.bd.ex⟩, takes0.imp fun cls d σ H ⟨_, _, _, _, _, _, _, z⟩ => z.elim, PassesOwn.never⟩ pins s I
  · refine ⟨?_, hb F W σ S⟩
    rintro cls d σ' H' ⟨W', Γ', a, rfl, rfl, rfl, S', z⟩
    obtain ⟨b, h1, h2, h3⟩ := hx a Γ' z
    refine ⟨b, by rw [ok.ok.K]; exact h1, fun hb' a' _ => ?_, fun hb' => ⟨W', Γ', a, rfl, rfl, rfl, S', h3 hb'⟩⟩
    have q := h2 hb' F W' σ' S'.hot
    exact tSs_mono q (fun σ H ⟨W', Γ', e, S', q⟩ => ⟨W', Γ', e, ⟨⟨S'.ok, S'.up, S'.bs, S'.bh, S'.js, S'.sb⟩, S'.len, S'.sl, S'.od⟩, q⟩) (fun v H ⟨W', d, e, R, r, q⟩ => ⟨W', d, e, ⟨R.ok, R.up, R.bs, R.bh, R.js, R.sb⟩, r, q⟩) (fun σ H ⟨W', Γ', e, S', q⟩ => ⟨W', Γ', e, ⟨⟨S'.ok, S'.up, S'.bs, S'.bh, S'.js, S'.sb⟩, S'.len, S'.sl, S'.od⟩, q⟩) (fun σ H ⟨W', Γ', e, S', q⟩ => ⟨W', Γ', e, ⟨⟨S'.ok, S'.up, S'.bs, S'.bh, S'.js, S'.sb⟩, S'.len, S'.sl, S'.od⟩, q⟩)
/-! ### defs -/
/-- a def's body's configuration -/
def Gb.cfg (G : Gb) (N : List Str) (st : Stmt) (k : Nat) (cd : Value) : Cfg := { G with N := N, sc := defScope st, k := k, cd := cd, hot := false, fnc := fun _ => true }
def slots0 (N : List Str) (ds : List D) : List SV := ds.map SV.imm ++ List.replicate (N.length - ds.length) SV.any
theorem start_get {N : List Str} {vs : List V} {ds : List D} {K : PySem.W.Frag} {I : Hp} (r : RpA K I vs ds) {i : Nat} {x : SV} (h : (slots0 N ds)[i]? = some x) : ∃ o, (L2.start N vs)[i]? = some o ∧ ((x = .any) ∨ ∃ v d, o = some v ∧ x = .imm d ∧ Rp K I v d) := by
  unfold slots0 at h
  unfold L2.start
  have hl := r.length
  by_cases z : i < ds.length
  · rw [List.getElem?_append_left (by simpa using z), List.getElem?_map] at h
    cases e : ds[i]? with
    | none => rw [e] at h; cases h
    | some d =>
      rw [e] at h
      obtain ⟨v, hv, rv⟩ := r.get' e
      refine ⟨some v, ?_, .inr ⟨v, d, rfl, (Option.some.inj h).symm, rv⟩⟩
      rw [List.getElem?_append_left (by simpa [hl] using z), List.getElem?_map, hv]
      rfl
  · have z' : ds.length ≤ i := Nat.le_of_not_lt z
    rw [List.getElem?_append_right (by simpa using z')] at h
    have hx := List.mem_replicate.mp (List.mem_of_getElem? h)
    have hi := (List.getElem?_eq_some_iff.mp h).1
    refine ⟨none, ?_, .inl hx.2⟩
    rw [List.getElem?_append_right (by simpa [hl] using z'), List.getElem?_replicate]
    rw [if_pos]
    simpa [hl] using hi
theorem start_len (N : List Str) (vs : List V) (ds : List D) (h : vs.length = ds.length) : (L2.start N vs).length = (slots0 N ds).length := by
  unfold L2.start slots0
  simp [h]
theorem sto_start {C : Cfg} {W : Wd} {N : List Str} {vs : List V} {ds : List D} (k : WOk C.tabs W) (r : RpA C.K W.I vs ds) {F : Fr} (R : RetOk C F W) : Sto C F W (L2.start N vs) (slots0 N ds) where
  toRetOk := R
  len := start_len N vs ds r.length
  sl := fun i x h => by
    obtain ⟨o, h1, h2⟩ := start_get (N := N) r h
    refine ⟨o, h1, ?_⟩
    rcases h2 with h2 | ⟨v, d, e1, e2, h2⟩
    · subst h2; trivial
    · subst e2
      exact ⟨v, e1, h2⟩
  od := fun i j p ⟨d1, h1, _⟩ _ => by
    obtain ⟨o, _, h2⟩ := start_get (N := N) r h1
    rcases h2 with h2 | ⟨v, d, e1, e2, h2⟩ <;> cases h2 <;> contradiction
end
end Dl

/-! Dl: defs from bodies, the draws' list, the law's end. -/
namespace Dl
open PySem PySem.Spec PyProof.Rows L2
section
variable {C : Cfg} {Γ : List SV} {a b c e : Expr} {es : List Expr} {rest : List Stmt} {F : Fr} {W W' : Wd} {σ : L2.St} {pos : Pos} {K : Kt} {X : Cx} {P : D → Prop}
/-! ### the draws' list -/
theorem ev_stx {i : Nat} {x : Str} {p1 : Pos} (z : Int) (n : NameOk C.N C.sc i x) {ns : List Int} (hi : Γ[i]? = some (.st ns)) (hb : Ev C Γ b fun y => y = .int z) (sel : ∀ (W : Wd) (a b c : Int) (q : V), 0 ≤ b → Rp C.K W.I q (.list (ns.map PyData.int)) → ∃ v d, atI [V.int a, .int b, q, .int c] z = some v ∧ Rp C.K W.I v d ∧ P d) (hs : PlainIx b := by intro _ _; rfl) : Ev C Γ (.Subscript (.Name x p1) b pos) P := fun F W σ S Q k =>
  tE_of (t := fun X => tOp (rIxL X.K) (tVar i) (tE C b)) (fun X ok => pe_ix ix_list (pe_var (by rw [ok.N]; exact n.ix) (by rw [ok.sc]; exact n.vis) n.d1 n.d2) (pe_t ok) hs) fun X ok => by
    obtain ⟨o, h1, p, h2, h3, h4⟩ := S.sl i _ hi
    subst h2
    refine ⟨_, h1, hb F W σ S _ fun W2 u y S2 L2 r2 e => ?_⟩
    subst e
    cases r2
    obtain ⟨_, hI, a, b, c, q, xs, hH, hq, hb0, hx⟩ := S2.sb p h3
    rw [h4] at hx
    subst hx
    obtain ⟨v, d, h5, h6, h7⟩ := sel W2 a b c q hb0 hq
    exact ⟨p, _, z, v, rfl, rfl, SqL.of hH, h5, k W2 v d S2 L2 h6 h7⟩
theorem ev_st0 {i : Nat} {x : Str} {p1 : Pos} (n : NameOk C.N C.sc i x) {ns : List Int} (hi : Γ[i]? = some (.st ns)) (hb : Ev C Γ b fun y => y = .int 0) (p : ∀ m : Int, P (.int m)) (hs : PlainIx b := by intro _ _; rfl) : Ev C Γ (.Subscript (.Name x p1) b pos) P :=
  ev_stx 0 n hi hb (fun W a b c q h0 hq => ⟨_, .int a, rfl, .int a, p a⟩) hs
theorem ev_st1 {i : Nat} {x : Str} {p1 : Pos} (n : NameOk C.N C.sc i x) {ns : List Int} (hi : Γ[i]? = some (.st ns)) (hb : Ev C Γ b fun y => y = .int 1) (p : ∀ m : Int, 0 ≤ m → P (.int m)) (hs : PlainIx b := by intro _ _; rfl) : Ev C Γ (.Subscript (.Name x p1) b pos) P :=
  ev_stx 1 n hi hb (fun W a b c q h0 hq => ⟨_, .int b, rfl, .int b, p b h0⟩) hs
theorem ev_st2 {i : Nat} {x : Str} {p1 : Pos} (n : NameOk C.N C.sc i x) {ns : List Int} (hi : Γ[i]? = some (.st ns)) (hb : Ev C Γ b fun y => y = .int 2) (p : P (.list (ns.map PyData.int))) (hs : PlainIx b := by intro _ _; rfl) : Ev C Γ (.Subscript (.Name x p1) b pos) P :=
  ev_stx 2 n hi hb (fun W a b c q h0 hq => ⟨_, _, rfl, hq, p⟩) hs
theorem ev_st3 {i : Nat} {x : Str} {p1 : Pos} (n : NameOk C.N C.sc i x) {ns : List Int} (hi : Γ[i]? = some (.st ns)) (hb : Ev C Γ b fun y => y = .int 3) (p : ∀ m : Int, P (.int m)) (hs : PlainIx b := by intro _ _; rfl) : Ev C Γ (.Subscript (.Name x p1) b pos) P :=
  ev_stx 3 n hi hb (fun W a b c q h0 hq => ⟨_, .int c, rfl, .int c, p c⟩) hs
/-- the draws' list has changed -/
theorem Sto.updSt (S : Sto C F W σ Γ) {p : Addr} (hs : F.s = some p) {vs : List V} (st : StAt C.K ⟨W.I, upd W.H p (.lst vs)⟩ p F.l) : Sto C F ⟨W.I, upd W.H p (.lst vs)⟩ σ Γ := by
  obtain ⟨hB, hI, a, b, c, q, xs, hH, _, _⟩ := S.sb p hs
  refine S.afterS hs ⟨fun a u e => ?_, S.ok.nt, fun P hP => tabG_upd (S.ok.tb P hP) fun z => ?_⟩ Le.newH (fun a u h n => ?_) st
  · have z : a ≠ p := fun z => by rw [z, hI] at e; cases e
    exact (upd_ne z).trans (S.ok.im a u e)
  · obtain ⟨ps, e, _⟩ := S.ok.tb P hP
    rw [z, hH] at e
    cases e
  · by_cases z : a = p
    · subst z
      have h' : (if a = a then none else W.H a) = some u := h
      rw [if_pos rfl] at h'
      cases h'
    · have h' : (if a = p then none else W.H a) = some u := h
      rw [if_neg z] at h'
      exact (upd_ne z).trans h'
theorem st_itemS {i : Nat} {x : Str} {p1 p2 : Pos} (n : NameOk C.N C.sc i x) {ns : List Int} (hi : Γ[i]? = some (.st ns)) (h : Ev C Γ e fun d => ∃ m : Int, d = .int m ∧ Ev C Γ a fun k => (k = .int 0 ∨ (k = .int 1 ∧ 0 ≤ m) ∨ k = .int 3) ∧ K.nx Γ)
    (hs : ∀ env, swapsWithSole [.Subscript (.Name x p1) a p2] e pos.line env = pure false := by intro _; rfl) (hw : ∀ env, swappedStores [.Subscript (.Name x p1) a p2] e env = pure none := by intro _; rfl)
    (h1 : ∀ env, (assignEach [.Subscript (.Name x p1) a p2] env).map (·.2) = [assign (.Subscript (.Name x p1) a p2) env] := by intro _; rfl)
    (ha : ∀ env v, assign (.Subscript (.Name x p1) a p2) env v = (do
      let ov ← holding [v] (eval (.Name x p1) env)
      let iv ← holding [v, ov] (eval a env)
      standAt p2
      holding [v, ov, iv] (setItem ov iv v)
      release [v, ov, iv] []) := by intro _ _; rfl) : St C Γ (.Assign [.Subscript (.Name x p1) a p2] e pos) K := fun F W σ S =>
  tS_of (t := fun X => tAsg (tE C e) (gSub (tVar i) (tE C a) rSetL)) (fun X ok => ps_asg (pe_t ok.ok) (pg_sub (pe_var (by rw [ok.ok.N]; exact n.ix) (by rw [ok.ok.sc]; exact n.vis) n.d1 n.d2) (pe_t ok.ok) set_list (ha X.env)) (hs X.env) (hw X.env) (h1 X.env)) fun X ok => h F W σ S _ fun W1 v d S1 L1 r1 ⟨m, e0, h'⟩ => by
    subst e0
    cases r1
    obtain ⟨o, e1, p, e2, h3, _⟩ := S1.sl i _ hi
    subst e2
    refine ⟨_, e1, h' F W1 σ S1 _ fun W2 u k S2 L2 r2 ⟨hk, q⟩ => ?_⟩
    obtain ⟨hB, hI, a, b, c, l, xs, hH, hl, h0, hx⟩ := S2.sb p h3
    rcases hk with hk | ⟨hk, hm⟩ | hk <;> subst hk <;> cases r2
    · exact ⟨p, _, 0, 0, rfl, rfl, hH, rfl, _, Γ, rfl, S2.updSt h3 ⟨hI, m, b, c, l, xs, upd_same, hl, h0, hx⟩, q⟩
    · exact ⟨p, _, 1, 1, rfl, rfl, hH, rfl, _, Γ, rfl, S2.updSt h3 ⟨hI, a, m, c, l, xs, upd_same, hl, hm, hx⟩, q⟩
    · exact ⟨p, _, 3, 3, rfl, rfl, hH, rfl, _, Γ, rfl, S2.updSt h3 ⟨hI, a, b, m, l, xs, upd_same, hl, h0, hx⟩, q⟩
end
/-! ### a def from its body -/
section
variable {G : Gb} {x qual : Str} {st : Stmt} {f : Addr} {fd : FuncData} {N ps : List Str} {k : Nat} {S : SpD}
theorem okS_def {Xx : Cx} {C : Cfg} {F : Fr} {ex : Addr → List SV → Prop} {E : XK} (ok : OkX C Xx) (bd : Body Xx) (tk : Takes Xx (fun cls d _ H => E cls d H)) (pa : PassesOwn (model Xx.prog Xx.w) Xx.A Xx.env Xx.xe) (hE : ∀ W Γ σ a, Sto C F W σ Γ → ex a Γ → E (.ref a) none W.H) : OkS C F ex Xx :=
  ⟨ok, bd, tk.imp fun cls d σ H ⟨W, Γ, a, e1, e2, e3, S', z⟩ => by subst e1; subst e2; subst e3; exact hE W Γ σ a S' z, pa⟩
theorem fnE_P (Fu : Fun G.K x qual st f fd) (sc : FnScope N ps (defScope st)) (gl : G.mg x = some (.ref f)) (hb : Binds G.K fd ps [])
    (h : ∀ cd ds Post EX, ds.length = ps.length → S ds Post EX → Sts (G.cfg N st k cd) (slots0 N ds) (defBody st) { nx := fun _ => Post .none, rt := Post, ex := fun c _ => EX c }) : FnE G x ps (k + 1) (spP G.K G.tabs ps.length S) where
  ex := by
    refine ⟨f, fd, ?_, gl, Fu.kp, hb⟩
    refine Fu.okX sc (fun vs H Q E ⟨W, ds, Post, EX, e, k1, r, hn, hS, _⟩ => by rw [r.length, hn]) (fun cdv A outer s H vs Q E hr ⟨W, ds, Post, EX, eH, k1, r, hn, hS, hq, he⟩ => ?_)
    subst eH
    have R : RetOk (G.cfg N st k cdv) ⟨W.H, fun _ => none, W, none, []⟩ W := ⟨k1, Le.refl W, Ext.refl _, fun p h => h, fun _ _ h => (by cases h), fun _ h => (by cases h)⟩
    have S0 : Sto (G.cfg N st k cdv) ⟨W.H, fun _ => none, W, none, []⟩ W (L2.start N vs) (slots0 N ds) := sto_start k1 r R
    refine ⟨tSs (G.cfg N st k cdv) ⟨W.H, fun _ => none, W, none, []⟩ (fun c _ => EX c) (defBody st), pss_t (okS_def (E := E) ⟨rfl, rfl, rfl, rfl, rfl, rfl, rfl, rfl, sc.nd, fun _ _ => rfl, fun _ => ⟨rfl, hr⟩⟩ ⟨rfl, rfl, rfl⟩ (takes_of rfl rfl rfl rfl) (passes_of rfl) fun W' Γ σ a S' z => he a W' z S'.ok S'.up S'.bs), ?_⟩
    exact tSs_mono (h cdv ds Post EX hn hS _ W _ S0) (fun σ H ⟨W', Γ', e, S', z⟩ => by subst e; exact hq W' .non .none S'.ok S'.up S'.bs .non z) (fun v H ⟨W', d, e, R', r', z⟩ => by subst e; exact hq W' v d R'.ok R'.up R'.bs r' z) (fun σ H ⟨_, _, _, _, z⟩ => z.elim) (fun σ H ⟨_, _, _, _, z⟩ => z.elim)
theorem fnE_S {p0 : Str} {N' : List Str} (Fu : Fun G.K x qual st f fd) (sc : FnScope (p0 :: N') (p0 :: ps) (defScope st)) (gl : G.mg x = some (.ref f)) (hb : Binds G.K fd (p0 :: ps) [])
    (h : ∀ cd ns ds Post, ds.length = ps.length → S ds Post (fun _ => False) → Sts (G.cfg (p0 :: N') st k cd) (.st ns :: slots0 N' ds) (defBody st) { nx := fun _ => Post .none, rt := Post }) : FnE G x (p0 :: ps) (k + 1) (spS G.K G.tabs ps.length S) where
  ex := by
    refine ⟨f, fd, ?_, gl, Fu.kp, hb⟩
    refine Fu.okX sc (fun vs H Q E ⟨W, p, ns, us, ds, Post, e0, e, k1, st, r, hn, hS, _⟩ => by rw [e0, List.length_cons, List.length_cons, r.length, hn]) (fun cdv A outer s H vs Q E hr ⟨W, p, ns, us, ds, Post, e0, eH, k1, sta, r, hn, hS, hq⟩ => ?_)
    subst eH
    subst e0
    have R : RetOk (G.cfg (p0 :: N') st k cdv) ⟨without p W.H, fun _ => none, W, some p, ns⟩ W := by
      refine ⟨k1, Le.refl W, fun a o h n => ?_, fun q h => ?_, fun _ _ h => ?_, fun q h => ?_⟩
      · have h' : (if a = p then none else W.H a) = some o := h
        by_cases z : a = p
        · rw [if_pos z] at h'; cases h'
        · rw [if_neg z] at h'; exact h'
      · show (if q = p then none else W.H q) = none
        by_cases z : q = p
        · rw [if_pos z]
        · rw [if_neg z]; exact h
      · cases h
      · cases h
        exact ⟨by show (if p = p then none else W.H p) = none; rw [if_pos rfl], sta⟩
    have S1 : Sto (G.cfg N' st k cdv) ⟨without p W.H, fun _ => none, W, some p, ns⟩ W (L2.start N' us) (slots0 N' ds) := sto_start k1 r ⟨R.ok, R.up, R.bs, R.bh, R.js, R.sb⟩
    have S0 : Sto (G.cfg (p0 :: N') st k cdv) ⟨without p W.H, fun _ => none, W, some p, ns⟩ W (L2.start (p0 :: N') (.ref p :: us)) (.st ns :: slots0 N' ds) := by
      have es : L2.start (p0 :: N') (.ref p :: us) = some (.ref p) :: L2.start N' us := by
        unfold L2.start
        simp
      rw [es]
      refine ⟨R, by rw [List.length_cons, List.length_cons, S1.len], fun i y h => ?_, fun i j q ⟨d1, h1, h2⟩ ⟨d2, h3, h4⟩ => ?_⟩
      · cases i with
        | zero =>
          cases h
          exact ⟨_, rfl, p, rfl, rfl, rfl⟩
        | succ i =>
          obtain ⟨o, h1, h2⟩ := S1.sl i y h
          exact ⟨o, h1, h2⟩
      · cases i with
        | zero => cases h1
        | succ i =>
          cases j with
          | zero => cases h3
          | succ j => rw [S1.od i j q ⟨d1, h1, h2⟩ ⟨d2, h3, h4⟩]
    refine ⟨tSs (G.cfg (p0 :: N') st k cdv) ⟨without p W.H, fun _ => none, W, some p, ns⟩ (fun c _ => False) (defBody st), pss_t (okS_def (E := E) ⟨rfl, rfl, rfl, rfl, rfl, rfl, rfl, rfl, sc.nd, fun _ _ => rfl, fun _ => ⟨rfl, hr⟩⟩ ⟨rfl, rfl, rfl⟩ (takes_of rfl rfl rfl rfl) (passes_of rfl) fun W' Γ σ a S' z => z.elim), ?_⟩
    exact tSs_mono (h cdv ns ds Post hn hS _ W _ S0) (fun σ H ⟨W', Γ', e, S', z⟩ => by subst e; exact hq W' .non .none S'.ok S'.up S'.bs (S'.sb p rfl).2 .non z) (fun v H ⟨W', d, e, R', r', z⟩ => by subst e; exact hq W' v d R'.ok R'.up R'.bs (R'.sb p rfl).2 r' z) (fun σ H ⟨_, _, _, _, z⟩ => z.elim) (fun σ H ⟨_, _, _, _, z⟩ => z.elim)
/-- _law_draw: any of 0 .. limit - 1 -/
abbrev SDraw : SpD := fun ds Post _ => ∃ n : Int, ds = [.int n] ∧ 0 < n ∧ n.natAbs.log2 < 9000 ∧ ∀ r : Int, 0 ≤ r → r < n → Post (.int r)
/-- the law: from any list of ints it is True -/
def spLaw (tabs : List Addr) (K : PySem.W.Frag) : Sp := fun vs H Q _ => ∃ (a : Addr) (ns : List Int), vs = [.ref a] ∧ SqL K H a (ns.map V.int) ∧ (∀ P ∈ tabs, GxR.TabG H P) ∧ ∀ H', Q (.bl true) H'
theorem fn_law {p1 p2 p3 p4 p5 p6 p7 pp pos : Pos} {k0 k1 k3 : Nat} {rest : List Stmt} {N' : List Str} {cd0 : Value} (Fu : Fun G.K x qual st f fd) (sc : FnScope ("script" :: "state" :: N') ["script"] (defScope st))
    (hbody : defBody st = .Assign [.Name "state" p1] (.List [.Constant (.int 0) k0 p2, .Constant (.int 0) k1 p3, .Call (.Name "list" p4) [.Name "script" p5] [] p6, .Constant (.int 1) k3 p7] pp) pos :: rest)
    (n0 : NameOk ("script" :: "state" :: N') (defScope st) 0 "script") (ns1 : StoreOk (G.cfg ("script" :: "state" :: N') st k cd0) 1 "state") (gli : GlobOk (defScope st) "list") (hm : G.mg "list" = none)
    (h : ∀ cd ns, Sts (G.cfg ("script" :: "state" :: N') st k cd) (.any :: .st ns :: List.replicate N'.length .any) rest { nx := fun _ => False, rt := fun d => d = .bool true }) : FnOk G.P G.w G.K G.mg G.base (L2.CX G.P G.w) (k + 1) f fd ["script"] (spLaw G.tabs G.K) := by
  refine Fu.okX sc (fun vs H Q E ⟨a, ns, e, _⟩ => by rw [e]; rfl) (fun cdv A outer s H vs Q E hr ⟨a, ns, e, hs, ht, hq⟩ => ?_)
  subst e
  rw [hbody]
  have okX : OkX (G.cfg ("script" :: "state" :: N') st k cdv) (cxOf (L2.CX G.P G.w) G.P G.w G.K G.mg G.base ("script" :: "state" :: N') qual (defScope st) f cdv A outer s H E) := ⟨rfl, rfl, rfl, rfl, rfl, rfl, rfl, rfl, sc.nd, fun _ _ => rfl, fun _ => ⟨rfl, hr⟩⟩
  have okS : ∀ F, OkS (G.cfg ("script" :: "state" :: N') st k cdv) F (fun _ _ => False) (cxOf (L2.CX G.P G.w) G.P G.w G.K G.mg G.base ("script" :: "state" :: N') qual (defScope st) f cdv A outer s H E) := fun F => okS_def (E := E) okX ⟨rfl, rfl, rfl⟩ (takes_of rfl rfl rfl rfl) (passes_of rfl) fun W' Γ σ a S' z => z.elim
  refine ⟨tSeq (tAsg (tLst (tCons (tC (.int 0)) (tCons (tC (.int 0)) (tCons (tCB (fun xs H Q => ∃ p ys, xs = [.ref p] ∧ (SqL G.K H p ys ∨ SqT G.K H p ys) ∧ ∀ l, H l = none → Q (.ref l) (upd H l (.lst ys))) (tCons (tVar 0) tNil)) (tCons (tC (.int 1)) tNil))))) (gName 1)) (fun D σ H => ∃ F, tSs (G.cfg ("script" :: "state" :: N') st k cdv) F (fun _ _ => False) rest D σ H), pss_cons (ps_set sc.nd rfl ns1.loc (pe_lst (pa_cons pe_int (pa_cons pe_int (pa_cons (pe_callTy call_list_of (gli.gl okX) hm bt_list (pa_cons (pe_var rfl n0.vis n0.d1 n0.d2) pa_nil)) (pa_cons pe_int pa_nil)))))) ⟨fun pins s σ H D I ⟨F, h⟩ => h _ (okS F) pins s I⟩, ?_⟩
  refine ⟨_, rfl, a, ns.map V.int, rfl, .inl hs, fun l hl => ⟨by show 4 ≤ sizeLine; rw [sizeLine_eq]; omega, fun p hp => ?_⟩⟩
  have hpl : p ≠ l := fun z => by rw [z, upd_same] at hp; cases hp
  have hpH : H p = none := by rw [upd_ne hpl] at hp; exact hp
  let W : Wd := ⟨upd (fun _ => none) l (.lst (ns.map V.int)), upd (upd H l (.lst (ns.map V.int))) p (.lst [.int 0, .int 0, .ref l, .int 1])⟩
  have k1 : WOk G.tabs W := by
    refine ⟨fun a o e => ?_, fun a ps e => ?_, fun P hP => ?_⟩
    · by_cases z : a = l
      · subst z
        have e' : (upd (fun _ => none) a (.lst (ns.map V.int)) : Hp) a = some o := e
        rw [upd_same] at e'
        cases e'
        exact (upd_ne (Ne.symm hpl)).trans upd_same
      · have e' : (upd (fun _ => none) l (.lst (ns.map V.int)) : Hp) a = some o := e
        rw [upd_ne z] at e'
        cases e'
    · by_cases z : a = l
      · subst z
        have e' : (upd (fun _ => none) a (.lst (ns.map V.int)) : Hp) a = some (.tbl ps) := e
        rw [upd_same] at e'
        cases e'
      · have e' : (upd (fun _ => none) l (.lst (ns.map V.int)) : Hp) a = some (.tbl ps) := e
        rw [upd_ne z] at e'
        cases e'
    · have hT := ht P hP
      have z1 : P ≠ l := fun z => tabG_some hT (z ▸ hl)
      have z2 : P ≠ p := fun z => tabG_some hT (z ▸ hpH)
      exact tabG_upd (tabG_upd hT z1) z2
  have sta : StAt G.K W p ns := ⟨(upd_ne (H := fun _ => none) (a := l) (b := p) (o := .lst (ns.map V.int)) hpl), 0, 0, 1, .ref l, ns, upd_same, .lst (xs := ns.map V.int) (upd_same (H := fun _ => none) (a := l) (o := .lst (ns.map V.int))) (RpA.ofInts ns), Int.le_refl 0, rfl⟩
  have R : RetOk (G.cfg ("script" :: "state" :: N') st k cdv) ⟨fun _ => none, fun _ => none, W, some p, ns⟩ W := by
    refine ⟨k1, Le.refl W, fun a o h n => ?_, fun q h => rfl, fun _ _ h => ?_, fun q h => ?_⟩
    · cases h
    · cases h
    · cases h
      exact ⟨rfl, sta⟩
  have S0 : Sto (G.cfg ("script" :: "state" :: N') st k cdv) ⟨fun _ => none, fun _ => none, W, some p, ns⟩ W ((L2.start ("script" :: "state" :: N') [.ref a]).set 1 (some (.ref p))) (.any :: .st ns :: List.replicate N'.length .any) := by
    have es : (L2.start ("script" :: "state" :: N') [.ref a]).set 1 (some (.ref p)) = some (.ref a) :: some (.ref p) :: List.replicate N'.length none := by
      unfold L2.start
      show (some (V.ref a) :: List.replicate (N'.length + 1 + 1 - 1) none).set 1 (some (.ref p)) = _
      rw [Nat.add_sub_cancel, List.replicate_succ]
      rfl
    rw [es]
    refine ⟨R, by simp, fun i y h => ?_, fun i j q ⟨d1, h1, _⟩ _ => ?_⟩
    · match i, h with
      | 0, h => cases h; exact ⟨_, rfl, trivial⟩
      | 1, h => cases h; exact ⟨_, rfl, p, rfl, rfl, rfl⟩
      | i + 2, h =>
        have h' : (List.replicate N'.length SV.any)[i]? = some y := h
        have hx := List.mem_replicate.mp (List.mem_of_getElem? h')
        have hi := (List.getElem?_eq_some_iff.mp h').1
        rw [List.length_replicate] at hi
        refine ⟨none, ?_, by rw [hx.2]; trivial⟩
        show (List.replicate N'.length none)[i]? = some none
        rw [List.getElem?_replicate, if_pos hi]
    · match i, h1 with
      | 0, h => cases h
      | 1, h => cases h
      | i + 2, h =>
        have h' : (List.replicate N'.length SV.any)[i]? = some (.own d1) := h
        have hx := List.mem_replicate.mp (List.mem_of_getElem? h')
        cases hx.2
  refine ⟨⟨fun _ => none, fun _ => none, W, some p, ns⟩, ?_⟩
  exact tSs_mono (h cdv ns _ W _ S0) (fun σ H ⟨_, _, _, _, z⟩ => z.elim) (fun v H ⟨W', d, e, R', r', z⟩ => by
    subst e
    subst z
    cases r'
    exact hq _) (fun σ H ⟨_, _, _, _, z⟩ => z.elim) (fun σ H ⟨_, _, _, _, z⟩ => z.elim)
end
end Dl

/-! Dl: more built-ins. -/
namespace Dl
open PySem PySem.Spec PyProof.Rows L2
section
variable {C : Cfg} {Γ : List SV} {a b c e : Expr} {es : List Expr} {F : Fr} {W W' : Wd} {σ : L2.St} {pos : Pos} {X : Cx} {P : D → Prop}
/-! ### isinstance -/
def tyD : D → String
  | .none => "NoneType"
  | .bool _ => "bool"
  | .int _ => "int"
  | .str _ => "str"
  | .list _ => "list"
  | .tuple _ => "tuple"
  | .dict _ => "dict"
theorem Now.ty {v : V} {d : D} (h : Now C.K W v d) (k : WOk C.tabs W) : TyX C.K W.H v (.type (tyD d)) := by
  cases d with
  | none => rw [h.non]; exact .base .non
  | bool b => rw [h.bool]; exact .base (.bl b)
  | int i => rw [h.int]; exact .base (.int i)
  | str s => rw [h.str]; exact .base (.str s)
  | list ds =>
    obtain ⟨p, vs, e, h1, h2⟩ := h.list k
    rw [e]
    exact .base (.lst h1)
  | tuple ds =>
    obtain ⟨p, vs, e, h1, h2⟩ := h.tuple k
    rw [e]
    rcases h1 with (h1 | ⟨o, h1⟩) | ⟨o, its, n, h1, h3, _⟩
    · exact .base (.tup h1)
    · exact .fTuple h1
    · exact .kTuple h1 h3
  | dict _ =>
    rcases h with h | ⟨_, _, _, e, _⟩
    · cases h
    · cases e
theorem ev_isi {x : Str} {t : String} {p p2 : Pos} (f : D → Bool) (hf : ∀ K d, PySem.W.kitOne K (.type (tyD d)) (.type t) = some (f d)) (g : GlobOk C.sc "isinstance") (hm : C.mg "isinstance" = none) (g2 : GlobOk C.sc x) (hm2 : C.mg x = none) (hv : bootBuiltins x = some (.type t)) (ha : EvO C Γ a fun d => P (.bool (f d)))
    (he : ∀ env, starEach [a, .Name x p2] env = (false, eval a env) :: starEach [.Name x p2] env := by intro _; rfl) (he2 : ∀ env, starEach [.Name x p2] env = (false, eval (.Name x p2) env) :: starEach [] env := by intro _; rfl) (hpl : ∀ env, (backTo pos (starEach [.Name x p2] env)).any (·.1) = false := by intro _; rfl) : Ev C Γ (.Call (.Name "isinstance" p) [a, .Name x p2] [] pos) P := fun F W σ S Q k =>
  tE_of (t := fun X => tCB (rIsi X.K) (tCons (tE C a) (tCons (tC (.ty t)) tNil))) (fun X ok => pe_callB call_isi (g.gl ok) (by rw [ok.mg]; exact hm) (by decide +kernel) (pa_cons (pe_t ok) (pa_cons (pe_bltn (g2.gl ok) (by rw [ok.mg]; exact hm2) hv rfl g2.d2 g2.d1) pa_nil (he2 X.env)) (he X.env)) g.d2 g.d1 (he X.env) (hpl X.env)) fun X ok => ha F W σ S _ fun W1 v d S1 L1 r1 p1 =>
    ⟨v, .ty t, .type (tyD d), .type t, f d, rfl, .ty t, by rw [ok.K]; exact (r1.now S1).ty S1.ok, by rw [ok.K]; exact hf _ _, k W1 _ _ S1 L1 (.bl _) p1⟩
theorem bt_tbool : bootBuiltins "bool" = some (.type "bool") := by decide +kernel
theorem bt_tstr : bootBuiltins "str" = some (.type "str") := by decide +kernel
theorem bt_tdict : bootBuiltins "dict" = some (.type "dict") := by decide +kernel
theorem bt_tint : bootBuiltins "int" = some (.type "int") := by decide +kernel
theorem bt_tlist : bootBuiltins "list" = some (.type "list") := by decide +kernel
theorem bt_ttuple : bootBuiltins "tuple" = some (.type "tuple") := by decide +kernel
def isIntD : D → Bool | .int _ => true | .bool _ => true | _ => false
def isBoolD : D → Bool | .bool _ => true | _ => false
def isStrD : D → Bool | .str _ => true | _ => false
def isListD : D → Bool | .list _ => true | _ => false
def isTupleD : D → Bool | .tuple _ => true | _ => false
def isDictD : D → Bool | .dict _ => true | _ => false
theorem kit_int (K : PySem.W.Frag) (d : D) : PySem.W.kitOne K (.type (tyD d)) (.type "int") = some (isIntD d) := by cases d <;> rfl
theorem kit_bool (K : PySem.W.Frag) (d : D) : PySem.W.kitOne K (.type (tyD d)) (.type "bool") = some (isBoolD d) := by cases d <;> rfl
theorem kit_str (K : PySem.W.Frag) (d : D) : PySem.W.kitOne K (.type (tyD d)) (.type "str") = some (isStrD d) := by cases d <;> rfl
theorem kit_list (K : PySem.W.Frag) (d : D) : PySem.W.kitOne K (.type (tyD d)) (.type "list") = some (isListD d) := by cases d <;> rfl
theorem kit_tuple (K : PySem.W.Frag) (d : D) : PySem.W.kitOne K (.type (tyD d)) (.type "tuple") = some (isTupleD d) := by cases d <;> rfl
theorem kit_dict (K : PySem.W.Frag) (d : D) : PySem.W.kitOne K (.type (tyD d)) (.type "dict") = some (isDictD d) := by cases d <;> rfl
/-! ### list + list -/
theorem evl_cat {P : List D → Prop} (ha : EvO C Γ a fun x => ∃ xs, x = .list xs ∧ EvO C Γ b fun y => ∃ ys, y = .list ys ∧ xs.length + ys.length ≤ sizeLine ∧ P (xs ++ ys)) : EvL C Γ (.BinOp a .Add b pos) P := evl_add ha
/-! ### loops and comprehensions over typed items -/
theorem map_at {α : Type} {xs : List α} {enc : α → D} {i : Nat} {d : D} (h : (xs.map enc)[i]? = some d) : ∃ x, xs[i]? = some x ∧ d = enc x := by
  rw [List.getElem?_map] at h
  cases e : xs[i]? with
  | none => rw [e] at h; cases h
  | some x => rw [e] at h; exact ⟨x, rfl, (Option.some.inj h).symm⟩
theorem take_succ' {α : Type} {xs : List α} {i : Nat} {x : α} (h : xs[i]? = some x) : xs.take (i + 1) = xs.take i ++ [x] := by
  rw [List.take_succ, h]; rfl
/-- [elt for tg in iter if ..] over xs, item by item -/
theorem evl_lcD {α : Type} {elt iter tg : Expr} {ifs : List Expr} {scope : Scope} {own : List (Str × Nat)} {Post : List D → Prop} (fr : Free Γ (own.map (·.2)))
    (hi : EvItO C Γ tg iter fun ds => ∃ (xs : List α) (enc : α → D), ds = xs.map enc ∧ xs.length < sizeLine ∧ ∃ (c : α → Bool) (f : α → D),
      (∀ x ∈ xs, EvG (C.blk scope) (own.map (·.2)) (wipeG Γ (own.map (·.2))) tg (enc x) fun Γ' => EvTs (C.blk scope) Γ' ifs fun b => b = c x ∧ (b = true → Ev (C.blk scope) Γ' elt fun y => y = f x)) ∧ Post ((xs.filter c).map f))
    : EvLc C Γ elt tg iter ifs scope own Post :=
  evl_lc fr (hi.imp fun ds ⟨xs, enc, e, hl, c, f, hx, p⟩ => by
    subst e
    refine ⟨by rw [List.length_map]; exact hl, fun i acc => acc = ((xs.take i).filter c).map f, rfl, fun i acc d hd hi iv => ?_, fun acc _ iv => ?_⟩
    · obtain ⟨x, h1, h2⟩ := map_at hd
      subst h2
      have hm := List.mem_of_getElem? h1
      refine fun F W σ v S r Q k => hx x hm F W σ v S r Q fun σ' Γ' S' o g p' => k σ' Γ' S' o g ?_
      refine fun F W σ S Q k => p' F W σ S Q fun W' b S' L ⟨hb, he⟩ => k W' b S' L ⟨fun h => (he h).imp fun y hy => ?_, fun h => ?_⟩
      · have iv' : acc = ((xs.take i).filter c).map f := iv
        show acc ++ [y] = ((xs.take (i + 1)).filter c).map f
        rw [take_succ' h1, List.filter_append, List.map_append, ← iv', hy]
        rw [hb] at h
        simp [h]
      · have iv' : acc = ((xs.take i).filter c).map f := iv
        show acc = ((xs.take (i + 1)).filter c).map f
        rw [take_succ' h1, List.filter_append, List.map_append, ← iv']
        rw [hb] at h
        simp [h]
    · have iv' : acc = ((xs.take (xs.map enc).length).filter c).map f := iv
      rw [List.length_map, List.take_length] at iv'
      rw [iv']; exact p)
/-- [elt for tg in iter] -/
theorem evl_lcM {α : Type} {elt iter tg : Expr} {scope : Scope} {own : List (Str × Nat)} {Post : List D → Prop} (fr : Free Γ (own.map (·.2)))
    (hi : EvItO C Γ tg iter fun ds => ∃ (xs : List α) (enc : α → D), ds = xs.map enc ∧ xs.length < sizeLine ∧ ∃ (f : α → D),
      (∀ x ∈ xs, EvG (C.blk scope) (own.map (·.2)) (wipeG Γ (own.map (·.2))) tg (enc x) fun Γ' => Ev (C.blk scope) Γ' elt fun y => y = f x) ∧ Post (xs.map f))
    : EvLc C Γ elt tg iter [] scope own Post :=
  evl_lcD (α := α) fr (hi.imp fun ds ⟨xs, enc, e, hl, f, hx, p⟩ => ⟨xs, enc, e, hl, fun _ => true, f, fun x hm F W σ v S r Q k => hx x hm F W σ v S r Q fun σ' Γ' S' o g p' => k σ' Γ' S' o g (evts_nil ⟨rfl, fun _ => p'⟩), by rw [List.filter_eq_self.mpr fun _ _ => rfl]; exact p⟩)
/-- .. of draws and the like: any items of which R holds -/
theorem evl_lcR {α β : Type} {elt iter tg : Expr} {scope : Scope} {own : List (Str × Nat)} {Post : List D → Prop} (fr : Free Γ (own.map (·.2)))
    (hi : EvItO C Γ tg iter fun ds => ∃ (xs : List α) (enc : α → D), ds = xs.map enc ∧ xs.length < sizeLine ∧ ∃ (R : β → Prop) (f : β → D),
      (∀ x ∈ xs, EvG (C.blk scope) (own.map (·.2)) (wipeG Γ (own.map (·.2))) tg (enc x) fun Γ' => Ev (C.blk scope) Γ' elt fun y => ∃ z, R z ∧ y = f z) ∧ ∀ zs : List β, zs.length = xs.length → (∀ z ∈ zs, R z) → Post (zs.map f))
    : EvLc C Γ elt tg iter [] scope own Post :=
  evl_lc fr (hi.imp fun ds ⟨xs, enc, e, hl, R, f, hx, p⟩ => by
    subst e
    refine ⟨by rw [List.length_map]; exact hl, fun i acc => ∃ zs : List β, acc = zs.map f ∧ zs.length = min i xs.length ∧ ∀ z ∈ zs, R z, ⟨[], rfl, by simp, fun _ h => by cases h⟩, fun i acc d hd hi iv => ?_, fun acc _ iv => ?_⟩
    · obtain ⟨x, h1, h2⟩ := map_at hd
      subst h2
      have hm := List.mem_of_getElem? h1
      have hlt : i < xs.length := (List.getElem?_eq_some_iff.mp h1).1
      obtain ⟨zs, e1, e2, e3⟩ := iv
      refine fun F W σ v S r Q k => hx x hm F W σ v S r Q fun σ' Γ' S' o g p' => k σ' Γ' S' o g (evts_nil ⟨fun _ => p'.imp fun y ⟨z, hz, hy⟩ => ⟨zs ++ [z], by rw [e1, hy]; simp, by rw [List.length_append, e2, List.length_singleton]; omega, fun w hw => ?_⟩, fun h => by cases h⟩)
      rcases List.mem_append.mp hw with h | h
      · exact e3 w h
      · rw [List.mem_singleton.mp h]; exact hz
    · obtain ⟨zs, e1, e2, e3⟩ := iv
      subst e1
      exact p zs (by rw [e2, List.length_map]; omega) e3)
variable {tg : Expr} {body : List Stmt} {K : Kt}
/-- for: the slots by what is carried, a fold -/
theorem st_forD {α β : Type} (hh : C.hot = false) (hi : EvIt C Γ tg e fun ds => ∃ (xs : List α) (enc : α → D), ds = xs.map enc ∧ ∃ (G : β → List SV) (I : Nat → β → Prop) (step : β → α → β) (s0 : β), Weak Γ (G s0) ∧ I 0 s0 ∧
      (∀ i x s, xs[i]? = some x → I i s → ∃ vs, EvG C vs (G s) tg (enc x) fun Γ' => Sts C Γ' body { K with nx := fun Γ2 => Weak Γ2 (G (step s x)) ∧ I (i + 1) (step s x), ct := fun Γ2 => Weak Γ2 (G (step s x)) ∧ I (i + 1) (step s x), bk := fun _ => False }) ∧ (I xs.length (xs.foldl step s0) → K.nx (G (xs.foldl step s0))))
    (hs : ∀ env x, foldedSetIterable e env x = pure x := by intro _ _; rfl) : St C Γ (.For tg e body [] pos) K :=
  st_for hh (fun F W σ S R k => hi F W σ S R fun W' J ds G S' L w g ⟨xs, enc, e, Gs, I, step, s0, w0, i0, hx, p⟩ => k W' J ds G S' L w g ⟨fun i Γi => Γi = Gs ((xs.take i).foldl step s0) ∧ I i ((xs.take i).foldl step s0), ⟨_, w0, rfl, i0⟩, fun i d Γi hd ⟨e1, hI⟩ => by
    subst e
    subst e1
    obtain ⟨x, h1, h2⟩ := map_at hd
    subst h2
    obtain ⟨vs, hg⟩ := hx i x _ h1 hI
    refine ⟨vs, fun F W σ v S r Q k => hg F W σ v S r Q fun σ' Γ' S' o g p' => k σ' Γ' S' o g fun F W σ S => ?_⟩
    have es : (xs.take (i + 1)).foldl step s0 = step ((xs.take i).foldl step s0) x := by rw [take_succ' h1, List.foldl_append]; rfl
    refine tSs_mono (p' F W σ S) (fun σ H ⟨W', Γ2, e, S', w2, i2⟩ => ⟨W', Γ2, e, S', _, w2, by rw [es], by rw [es]; exact i2⟩) (fun _ _ z => z) (fun σ H ⟨_, _, _, _, z⟩ => z.elim) (fun σ H ⟨W', Γ2, e, S', w2, i2⟩ => ⟨W', Γ2, e, S', _, w2, by rw [es], by rw [es]; exact i2⟩), fun Γn ⟨e1, hI⟩ => by
    subst e
    rw [List.length_map, List.take_length] at e1 hI
    subst e1
    exact p hI⟩) hs
end
/-! ### checks -/
def storeC (N : List Str) (sc : Scope) (i : Nat) (x : Str) : Bool := decide (N[i]? = some x) && (decide (sc.names.lookup x = some .local) || decide (sc.names.lookup x = some .cell))
theorem storeOk {C : Cfg} {i : Nat} {x : Str} (h : storeC C.N C.sc i x = true) (hf : C.fnc x = true ∨ C.sc.names.lookup x = some .local) : StoreOk C i x := by
  unfold storeC at h
  simp only [Bool.and_eq_true, Bool.or_eq_true, decide_eq_true_eq] at h
  exact ⟨h.1, h.2, hf⟩
def freeC (Γ : List SV) : List Nat → Bool
  | [] => true
  | v :: vs => (match Γ[v]? with
    | some .any => true
    | some (.imm _) => true
    | _ => false) && freeC Γ vs
theorem free_of {Γ : List SV} : ∀ {vs : List Nat}, freeC Γ vs = true → Free Γ vs
  | [], _ => fun _ h => by cases h
  | v :: vs, h => fun w hw => by
    unfold freeC at h
    rw [Bool.and_eq_true] at h
    rcases List.mem_cons.mp hw with z | z
    · subst z
      have h1 := h.1
      split at h1
      · exact .inl ‹_›
      · exact .inr ⟨_, ‹_›⟩
      · cases h1
    · exact free_of h.2 w z
def blkC (N : List Str) (sc scope : Scope) (own : List (Str × Nat)) : Bool :=
  decide (scope.kind = .function) && scope.names.all (fun y => decide (scope.names.lookup y.1 = some y.2)) && own.all (fun p => decide (N[p.2]? = some p.1)) &&
  scope.names.all (fun y => !decide (y.2 = .free) || (decide (sc.names.lookup y.1 = some .cell) || decide (sc.names.lookup y.1 = some .free))) &&
  scope.names.all (fun y => !(decide (y.2 = .local) || decide (y.2 = .cell)) || ((own.map (·.1)).contains y.1 || !N.contains y.1))
theorem blkOk {N : List Str} {sc scope : Scope} {own : List (Str × Nat)} (h : blkC N sc scope own = true) : BlkOk N sc scope own := by
  unfold blkC at h
  simp only [Bool.and_eq_true, decide_eq_true_eq, List.all_eq_true, Bool.or_eq_true, Bool.not_eq_true', decide_eq_false_iff_not, Bool.or_eq_false_iff] at h
  obtain ⟨⟨⟨⟨h1, h2⟩, h3⟩, h4⟩, h5⟩ := h
  refine ⟨h1, fun y hy => h2 y hy, fun p hp => h3 p hp, fun y hy hf => ?_, fun y hy hf => ?_⟩
  · rcases h4 y hy with z | z
    · exact absurd hf z
    · exact z
  · rcases h5 y hy with z | z
    · rcases hf with q | q
      · exact absurd q z.1
      · exact absurd q z.2
    · rcases z with z | z
      · exact .inl (by simpa using z)
      · exact .inr (by simpa using z)
section
variable {C : Cfg} {Γ : List SV} {a b c e tg : Expr} {es : List Expr} {F : Fr} {W W' : Wd} {σ : L2.St} {pos : Pos} {X : Cx} {P : D → Prop} {body : List Stmt} {K : Kt}
/-! ### typed values -/
theorem evl_lcT {α β : Type} {elt iter tg : Expr} {ifs : List Expr} {scope : Scope} {Post : List D → Prop} (own : List (Str × Nat)) (enc : α → D) (enc2 : β → D) (fr : Free Γ (own.map (·.2)))
    (hi : EvItO C Γ tg iter fun ds => ∃ (xs : List α), ds = xs.map enc ∧ xs.length < sizeLine ∧ ∃ (c : α → Bool) (f : α → β),
      (∀ x ∈ xs, EvG (C.blk scope) (own.map (·.2)) (wipeG Γ (own.map (·.2))) tg (enc x) fun Γ' => EvTs (C.blk scope) Γ' ifs fun b => b = c x ∧ (b = true → Ev (C.blk scope) Γ' elt fun y => y = enc2 (f x))) ∧ Post (((xs.filter c).map f).map enc2))
    : EvLc C Γ elt tg iter ifs scope own Post :=
  evl_lcD (α := α) fr (hi.imp fun ds ⟨xs, e, hl, c, f, hx, p⟩ => ⟨xs, enc, e, hl, c, fun x => enc2 (f x), hx, by rw [List.map_map] at p; exact p⟩)
theorem evl_lcTM {α β : Type} {elt iter tg : Expr} {scope : Scope} {Post : List D → Prop} (own : List (Str × Nat)) (enc : α → D) (enc2 : β → D) (fr : Free Γ (own.map (·.2)))
    (hi : EvItO C Γ tg iter fun ds => ∃ (xs : List α), ds = xs.map enc ∧ xs.length < sizeLine ∧ ∃ (f : α → β),
      (∀ x ∈ xs, EvG (C.blk scope) (own.map (·.2)) (wipeG Γ (own.map (·.2))) tg (enc x) fun Γ' => Ev (C.blk scope) Γ' elt fun y => y = enc2 (f x)) ∧ Post ((xs.map f).map enc2))
    : EvLc C Γ elt tg iter [] scope own Post :=
  evl_lcM (α := α) fr (hi.imp fun ds ⟨xs, e, hl, f, hx, p⟩ => ⟨xs, enc, e, hl, fun x => enc2 (f x), hx, by rw [List.map_map] at p; exact p⟩)
/-- tuples of one kind of item -/
theorem ev_addTT {α : Type} (enc : α → D) (ha : EvO C Γ a fun x => ∃ xs : List α, x = .tuple (xs.map enc) ∧ EvO C Γ b fun y => ∃ ys : List α, y = .tuple (ys.map enc) ∧ xs.length + ys.length ≤ sizeLine ∧ P (.tuple ((xs ++ ys).map enc))) : Ev C Γ (.BinOp a .Add b pos) P :=
  ev_addT (ha.imp fun x ⟨xs, e, h⟩ => ⟨_, e, h.imp fun y ⟨ys, e2, hl, p⟩ => ⟨_, e2, by simpa using hl, by rw [List.map_append] at p; exact p⟩⟩)
theorem map_rep {α : Type} (enc : α → D) (xs : List α) : ∀ n : Nat, (List.replicate n (xs.map enc)).flatten = ((List.replicate n xs).flatten).map enc := fun n => by
  rw [List.map_flatten, List.map_replicate]
theorem ev_repTT {α : Type} (enc : α → D) (ha : EvO C Γ a fun x => ∃ xs : List α, x = .tuple (xs.map enc) ∧ EvO C Γ b fun y => ∃ j : Int, y = .int j ∧ -(2 ^ 62) ≤ j ∧ j ≤ 1000 ∧ xs.length ≤ 1000 ∧ P (.tuple ((List.replicate j.toNat xs).flatten.map enc))) : Ev C Γ (.BinOp a .Mult b pos) P :=
  ev_repT (ha.imp fun x ⟨xs, e, h⟩ => ⟨_, e, h.imp fun y ⟨j, e2, h1, h2, hl, p⟩ => ⟨j, e2, h1, h2, by simpa using hl, by rw [map_rep]; exact p⟩⟩)
theorem evl_catT {α : Type} {P : List D → Prop} (enc : α → D) (ha : EvO C Γ a fun x => ∃ xs : List α, x = .list (xs.map enc) ∧ EvO C Γ b fun y => ∃ ys : List α, y = .list (ys.map enc) ∧ xs.length + ys.length ≤ sizeLine ∧ P ((xs ++ ys).map enc)) : EvL C Γ (.BinOp a .Add b pos) P :=
  evl_cat (ha.imp fun x ⟨xs, e, h⟩ => ⟨_, e, h.imp fun y ⟨ys, e2, hl, p⟩ => ⟨_, e2, by simpa using hl, by rw [List.map_append] at p; exact p⟩⟩)
theorem evl_repTT {α : Type} {P : List D → Prop} (enc : α → D) (ha : EvO C Γ a fun x => ∃ xs : List α, x = .list (xs.map enc) ∧ EvO C Γ b fun y => ∃ j : Int, y = .int j ∧ -(2 ^ 63) ≤ j ∧ j < 2 ^ 63 ∧ xs.length * j.toNat ≤ sizeLine ∧ P ((List.replicate j.toNat xs).flatten.map enc)) : EvL C Γ (.BinOp a .Mult b pos) P :=
  evl_rep (ha.imp fun x ⟨xs, e, h⟩ => ⟨_, e, h.imp fun y ⟨j, e2, h1, h2, hl, p⟩ => ⟨j, e2, h1, h2, by simpa using hl, by rw [map_rep]; exact p⟩⟩)
/-- an item at a place that is there -/
theorem atI_map {α : Type} (enc : α → D) {xs : List α} {i : Int} {x : α} (h : atI xs i = some x) : atI (xs.map enc) i = some (enc x) := by
  unfold atI at h ⊢
  rw [List.length_map]
  cases e : ixN xs.length i with
  | none => rw [e] at h; cases h
  | some j =>
    rw [e] at h
    have h' : xs[j]? = some x := h
    show (xs.map enc)[j]? = some (enc x)
    rw [List.getElem?_map, h']; rfl
theorem atI_pos {α : Type} {xs : List α} {i : Int} (h0 : 0 ≤ i) (h : i < xs.length) {x : α} (hx : xs[i.toNat]? = some x) : atI xs i = some x := by
  unfold atI ixN
  rw [if_pos h0, if_pos h]
  exact hx
theorem ev_ixT {α : Type} (enc : α → D) (ha : EvO C Γ a fun x => ∃ xs : List α, x = .tuple (xs.map enc) ∧ EvO C Γ b fun y => ∃ i v, y = .int i ∧ atI xs i = some v ∧ P (enc v)) (hs : PlainIx b := by intro _ _; rfl) : Ev C Γ (.Subscript a b pos) P :=
  ev_ix (ha.imp fun x ⟨xs, e, h⟩ => ⟨by rw [e]; rfl, h.imp fun y ⟨i, v, e2, h1, p⟩ => ⟨i, _, e2, by rw [e]; exact atI_map enc h1, p⟩⟩) hs
theorem ev_ixL {α : Type} (enc : α → D) (ha : EvO C Γ a fun x => ∃ xs : List α, x = .list (xs.map enc) ∧ EvO C Γ b fun y => ∃ i v, y = .int i ∧ atI xs i = some v ∧ P (enc v)) (hs : PlainIx b := by intro _ _; rfl) : Ev C Γ (.Subscript a b pos) P :=
  ev_ix (ha.imp fun x ⟨xs, e, h⟩ => ⟨by rw [e]; rfl, h.imp fun y ⟨i, v, e2, h1, p⟩ => ⟨i, _, e2, by rw [e]; exact atI_map enc h1, p⟩⟩) hs
end
end Dl

/-! Dl: codecs, determined tests, what the top has left. -/
namespace Dl
open PySem PySem.Spec PyProof.Rows L2
/-- how values of a Lean type stand as data: == is equality -/
structure Cd {α : Type} [DecidableEq α] (enc : α → D) (n : Nat) : Prop where
  plain : ∀ a, (enc a).plain = true
  eqv : ∀ a b, PyData.eqv (enc a) (enc b) = decide (a = b)
  dep : ∀ a, (enc a).depth ≤ n
  nn : ∀ a, isNon (enc a) = false
theorem beqD {α : Type} [BEq α] [LawfulBEq α] [DecidableEq α] (a b : α) : (a == b) = decide (a = b) := by
  rw [Bool.eq_iff_iff, beq_iff_eq, decide_eq_true_eq]
abbrev encO {α : Type} (e : α → D) : Option α → D
  | some x => e x
  | none => .none
theorem eqv_non (d : D) : PyData.eqv .none d = isNon d := by cases d <;> simp only [PyData.eqv] <;> rfl
theorem eqv_non' (d : D) : PyData.eqv d .none = isNon d := by cases d <;> simp only [PyData.eqv] <;> rfl
section
variable {α β γ δ ε : Type} [DecidableEq α] [DecidableEq β] [DecidableEq γ] [DecidableEq δ] [DecidableEq ε] {e1 : α → D} {e2 : β → D} {e3 : γ → D} {e4 : δ → D} {e5 : ε → D} {n1 n2 n3 n4 n5 : Nat}
theorem cd_int : Cd PyData.int 0 := ⟨fun _ => rfl, fun a b => by simp only [PyData.eqv]; exact beqD a b, fun _ => Nat.le_refl _, fun _ => rfl⟩
theorem cd_bool : Cd PyData.bool 0 := ⟨fun _ => rfl, fun a b => by simp only [PyData.eqv]; exact beqD a b, fun _ => Nat.le_refl _, fun _ => rfl⟩
theorem cd_str : Cd PyData.str 0 := ⟨fun _ => rfl, fun a b => by simp only [PyData.eqv]; exact beqD a b, fun _ => Nat.le_refl _, fun _ => rfl⟩
theorem Cd.plainAll (h : Cd e1 n1) : ∀ xs : List α, PyData.plainAll (xs.map e1) = true
  | [] => rfl
  | x :: xs => by
    rw [List.map_cons, PyData.plainAll, h.plain x, h.plainAll xs]
    rfl
theorem Cd.depthAll (h : Cd e1 n1) : ∀ xs : List α, PyData.depthAll (xs.map e1) ≤ n1
  | [] => Nat.zero_le _
  | x :: xs => by
    rw [List.map_cons, PyData.depthAll]
    exact Nat.max_le.mpr ⟨h.dep x, h.depthAll xs⟩
theorem Cd.eqvAll (h : Cd e1 n1) : ∀ xs ys : List α, PyData.eqvAll (xs.map e1) (ys.map e1) = decide (xs = ys)
  | [], [] => by simp only [List.map_nil, PyData.eqvAll, decide_true]
  | [], _ :: _ => by simp [PyData.eqvAll]
  | _ :: _, [] => by simp [PyData.eqvAll]
  | x :: xs, y :: ys => by
    rw [List.map_cons, List.map_cons, PyData.eqvAll, h.eqv x y, h.eqvAll xs ys, ← Bool.decide_and]
    exact decide_eq_decide.mpr (by rw [List.cons.injEq])
theorem cd_list (h : Cd e1 n1) : Cd (fun xs : List α => PyData.list (xs.map e1)) (n1 + 1) :=
  ⟨fun xs => by simp only [PyData.plain]; exact h.plainAll xs, fun xs ys => by simp only [PyData.eqv]; exact h.eqvAll xs ys, fun xs => by simp only [PyData.depth]; exact Nat.succ_le_succ (h.depthAll xs), fun _ => rfl⟩
theorem cd_vtup (h : Cd e1 n1) : Cd (fun xs : List α => PyData.tuple (xs.map e1)) (n1 + 1) :=
  ⟨fun xs => by simp only [PyData.plain]; exact h.plainAll xs, fun xs ys => by simp only [PyData.eqv]; exact h.eqvAll xs ys, fun xs => by simp only [PyData.depth]; exact Nat.succ_le_succ (h.depthAll xs), fun _ => rfl⟩
theorem cd_t2 (h1 : Cd e1 n1) (h2 : Cd e2 n2) : Cd (fun x : α × β => PyData.tuple [e1 x.1, e2 x.2]) (n1 + n2 + 1) :=
  ⟨fun x => by simp only [PyData.plain, PyData.plainAll, h1.plain, h2.plain]; rfl, fun x y => by
    simp only [PyData.eqv, PyData.eqvAll, h1.eqv, h2.eqv, Bool.and_true, ← Bool.decide_and]
    exact decide_eq_decide.mpr ⟨fun e => Prod.ext e.1 e.2, fun e => by rw [e]; exact ⟨rfl, rfl⟩⟩, fun x => by
    have := h1.dep x.1
    have := h2.dep x.2
    simp only [PyData.depth, PyData.depthAll]
    omega, fun _ => rfl⟩
theorem cd_t3 (h1 : Cd e1 n1) (h2 : Cd e2 n2) (h3 : Cd e3 n3) : Cd (fun x : α × β × γ => PyData.tuple [e1 x.1, e2 x.2.1, e3 x.2.2]) (n1 + n2 + n3 + 1) :=
  ⟨fun x => by simp only [PyData.plain, PyData.plainAll, h1.plain, h2.plain, h3.plain]; rfl, fun x y => by
    simp only [PyData.eqv, PyData.eqvAll, h1.eqv, h2.eqv, h3.eqv, Bool.and_true, ← Bool.decide_and]
    exact decide_eq_decide.mpr ⟨fun e => Prod.ext e.1 (Prod.ext e.2.1 e.2.2), fun e => by rw [e]; exact ⟨rfl, rfl, rfl⟩⟩, fun x => by
    have := h1.dep x.1
    have := h2.dep x.2.1
    have := h3.dep x.2.2
    simp only [PyData.depth, PyData.depthAll]
    omega, fun _ => rfl⟩
theorem cd_t4 (h1 : Cd e1 n1) (h2 : Cd e2 n2) (h3 : Cd e3 n3) (h4 : Cd e4 n4) : Cd (fun x : α × β × γ × δ => PyData.tuple [e1 x.1, e2 x.2.1, e3 x.2.2.1, e4 x.2.2.2]) (n1 + n2 + n3 + n4 + 1) :=
  ⟨fun x => by simp only [PyData.plain, PyData.plainAll, h1.plain, h2.plain, h3.plain, h4.plain]; rfl, fun x y => by
    simp only [PyData.eqv, PyData.eqvAll, h1.eqv, h2.eqv, h3.eqv, h4.eqv, Bool.and_true, ← Bool.decide_and]
    exact decide_eq_decide.mpr ⟨fun e => Prod.ext e.1 (Prod.ext e.2.1 (Prod.ext e.2.2.1 e.2.2.2)), fun e => by rw [e]; exact ⟨rfl, rfl, rfl, rfl⟩⟩, fun x => by
    have := h1.dep x.1
    have := h2.dep x.2.1
    have := h3.dep x.2.2.1
    have := h4.dep x.2.2.2
    simp only [PyData.depth, PyData.depthAll]
    omega, fun _ => rfl⟩
/-- the equality of something that may be None -/
structure CdO {α : Type} [DecidableEq α] (enc : α → D) (n : Nat) : Prop where
  plain : ∀ a, (enc a).plain = true
  eqv : ∀ a b, PyData.eqv (enc a) (enc b) = decide (a = b)
  dep : ∀ a, (enc a).depth ≤ n
theorem Cd.o (h : Cd e1 n1) : CdO e1 n1 := ⟨h.plain, h.eqv, h.dep⟩
theorem cd_opt (h : Cd e1 n1) : CdO (encO e1) n1 :=
  ⟨fun a => by cases a with
    | none => rfl
    | some a => exact h.plain a, fun a b => by
    cases a with
    | none =>
      cases b with
      | none => show PyData.eqv .none .none = _; rw [eqv_non]; rfl
      | some b => show PyData.eqv .none (e1 b) = _; rw [eqv_non, h.nn]; rfl
    | some a =>
      cases b with
      | none => show PyData.eqv (e1 a) .none = _; rw [eqv_non', h.nn]; rfl
      | some b => show PyData.eqv (e1 a) (e1 b) = _; rw [h.eqv]; exact decide_eq_decide.mpr (by rw [Option.some.injEq]), fun a => by
    cases a with
    | none => exact Nat.zero_le _
    | some a => exact h.dep a⟩
theorem cdEq (h : CdO e1 n1) (hn : n1 ≤ 50) (a b : α) : REq (e1 a) (e1 b) (decide (a = b)) := ⟨⟨h.plain a, Nat.le_trans (h.dep a) hn⟩, ⟨h.plain b, Nat.le_trans (h.dep b) hn⟩, (h.eqv a b).symm⟩
theorem cdNe (h : CdO e1 n1) (hn : n1 ≤ 50) (a b : α) : RNe (e1 a) (e1 b) (!decide (a = b)) := ⟨⟨h.plain a, Nat.le_trans (h.dep a) hn⟩, ⟨h.plain b, Nat.le_trans (h.dep b) hn⟩, by rw [h.eqv a b]⟩
theorem Cd.any (h : Cd e1 n1) (a : α) : ∀ xs : List α, ((xs.map e1).any fun z => PyData.eqv z (e1 a)) = decide (a ∈ xs)
  | [] => rfl
  | x :: xs => by
    rw [List.map_cons, List.any_cons, h.any a xs, h.eqv, ← Bool.decide_or]
    exact decide_eq_decide.mpr (by rw [List.mem_cons]; exact ⟨fun z => z.imp Eq.symm id, fun z => z.imp Eq.symm id⟩)
theorem cdInL (h : Cd e1 n1) (hn : n1 ≤ 50) (a : α) (xs : List α) : RIn (e1 a) (.list (xs.map e1)) (decide (a ∈ xs)) := ⟨rfl, ⟨h.plain a, Nat.le_trans (h.dep a) hn⟩, h.plainAll xs, (h.any a xs).symm⟩
theorem cdInT (h : Cd e1 n1) (hn : n1 ≤ 50) (a : α) (xs : List α) : RIn (e1 a) (.tuple (xs.map e1)) (decide (a ∈ xs)) := ⟨rfl, ⟨h.plain a, Nat.le_trans (h.dep a) hn⟩, h.plainAll xs, (h.any a xs).symm⟩
theorem cdNotInL (h : Cd e1 n1) (hn : n1 ≤ 50) (a : α) (xs : List α) : RNotIn (e1 a) (.list (xs.map e1)) (!decide (a ∈ xs)) := ⟨rfl, ⟨h.plain a, Nat.le_trans (h.dep a) hn⟩, h.plainAll xs, by rw [← h.any a xs]; rfl⟩
theorem cdNotInT (h : Cd e1 n1) (hn : n1 ≤ 50) (a : α) (xs : List α) : RNotIn (e1 a) (.tuple (xs.map e1)) (!decide (a ∈ xs)) := ⟨rfl, ⟨h.plain a, Nat.le_trans (h.dep a) hn⟩, h.plainAll xs, by rw [← h.any a xs]; rfl⟩
theorem cdIsN (h : Cd e1 n1) (o : Option α) : RIsN (encO e1 o) .none o.isNone := ⟨rfl, by cases o with
  | none => rfl
  | some a => exact (h.nn a).symm⟩
theorem cdNotN (h : Cd e1 n1) (o : Option α) : RNotN (encO e1 o) .none (!o.isNone) := ⟨rfl, by cases o with
  | none => rfl
  | some a => show (!false) = !isNon (e1 a); rw [h.nn a]⟩
end
section
variable {C : Cfg} {Γ : List SV} {a b c e tg : Expr} {es : List Expr} {F : Fr} {W W' : Wd} {σ : L2.St} {pos : Pos} {X : Cx} {P : D → Prop} {body rest : List Stmt} {K : Kt} {α : Type}
theorem ev_ofL (h : EvL C Γ e fun ds => P (.list ds)) : Ev C Γ e P := h.ev.imp fun d ⟨ds, e, p⟩ => by rw [e]; exact p
theorem ev_det {d0 : D} (h : Ev C Γ e fun d => d = d0) (p : P d0) : Ev C Γ e P := h.imp fun d e => by rw [e]; exact p
theorem evt_det {P : Bool → Prop} (b0 : Bool) (h : EvT C Γ e fun d => d = b0) (p : P b0) : EvT C Γ e P := h.imp fun d e => by rw [e]; exact p
theorem ev_lenL {p : Pos} (enc : α → D) (g : GlobOk C.sc "len") (hm : C.mg "len" = none) (ha : EvO C Γ a fun x => ∃ xs : List α, x = .list (xs.map enc) ∧ P (.int xs.length)) (hs : ∀ env, starEach [a] env = (false, eval a env) :: starEach [] env := by intro _; rfl) : Ev C Γ (.Call (.Name "len" p) [a] [] pos) P :=
  ev_len g hm (ha.imp fun x ⟨xs, e, p⟩ => ⟨xs.length, by rw [e]; show some (((xs.map enc).length : Nat) : Int) = _; rw [List.length_map], p⟩) hs
theorem ev_lenT {p : Pos} (enc : α → D) (g : GlobOk C.sc "len") (hm : C.mg "len" = none) (ha : EvO C Γ a fun x => ∃ xs : List α, x = .tuple (xs.map enc) ∧ P (.int xs.length)) (hs : ∀ env, starEach [a] env = (false, eval a env) :: starEach [] env := by intro _; rfl) : Ev C Γ (.Call (.Name "len" p) [a] [] pos) P :=
  ev_len g hm (ha.imp fun x ⟨xs, e, p⟩ => ⟨xs.length, by rw [e]; show some (((xs.map enc).length : Nat) : Int) = _; rw [List.length_map], p⟩) hs
theorem evt_truL {P : Bool → Prop} (enc : α → D) (h : EvO C Γ e fun x => ∃ xs : List α, x = .list (xs.map enc) ∧ P (!xs.isEmpty)) (he : ∀ env whole, isTrue e env whole = (do let v ← whole; standAt e.pos; holding [v] (truthy v)) := by intro _ _; rfl) : EvT C Γ e P :=
  evt_tru (h.imp fun x ⟨xs, e, p⟩ => by rw [e]; exact ⟨trivial, by cases xs <;> exact p⟩) he
theorem evt_truT {P : Bool → Prop} (enc : α → D) (h : EvO C Γ e fun x => ∃ xs : List α, x = .tuple (xs.map enc) ∧ P (!xs.isEmpty)) (he : ∀ env whole, isTrue e env whole = (do let v ← whole; standAt e.pos; holding [v] (truthy v)) := by intro _ _; rfl) : EvT C Γ e P :=
  evt_tru (h.imp fun x ⟨xs, e, p⟩ => by rw [e]; exact ⟨trivial, by cases xs <;> exact p⟩) he
theorem evt_truI {P : Bool → Prop} (h : EvO C Γ e fun x => ∃ i : Int, x = .int i ∧ P (i != 0)) (he : ∀ env whole, isTrue e env whole = (do let v ← whole; standAt e.pos; holding [v] (truthy v)) := by intro _ _; rfl) : EvT C Γ e P :=
  evt_tru (h.imp fun x ⟨i, e, p⟩ => by rw [e]; exact ⟨trivial, p⟩) he
end
/-! ### small facts for printed walks -/
theorem sts_drop {C : Cfg} {Γ : List SV} {K : Kt} {B : List Stmt} {k : Nat} (h : k < B.length) (p : Sts C Γ (B[k] :: B.drop (k + 1)) K) : Sts C Γ (B.drop k) K := by
  rw [List.drop_eq_getElem_cons h]
  exact p
theorem szOk {n : Nat} (h : n ≤ 1000000) : n ≤ sizeLine := by rw [sizeLine_eq]; omega
theorem szLt {n : Nat} (h : n ≤ 1000000) : n < sizeLine := by rw [sizeLine_eq]; omega
theorem rng_len (lo : Int) (n : Nat) : (rng lo n).length = n := by unfold rng; simp
theorem mem_rng {lo x : Int} {n : Nat} (h : x ∈ rng lo n) : lo ≤ x ∧ x < lo + n := by
  unfold rng at h
  obtain ⟨i, h1, h2⟩ := List.mem_map.mp h
  have := List.mem_range.mp h1
  omega
theorem mem_rng' {lo x : Int} {n : Nat} (h1 : lo ≤ x) (h2 : x < lo + n) : x ∈ rng lo n := by
  unfold rng
  exact List.mem_map.mpr ⟨(x - lo).toNat, List.mem_range.mpr (by omega), by omega⟩
theorem log_ok {n : Int} (h : n.natAbs < 2 ^ 64) : n.natAbs.log2 < 9000 := by
  by_cases z : n.natAbs = 0
  · rw [z]; decide
  · have := (Nat.log2_lt z).mpr h
    omega
/-- x.append(..): the list as it is told of -/
theorem own_app {C : Cfg} {Γ : List SV} {rest : List Stmt} {K : Kt} {i : Nat} {α : Type} (xs : List α) (x : α) (enc : α → D) (h : Sts C (Γ.set i (.own ((xs ++ [x]).map enc))) rest K) : Sts C (Γ.set i (.own (xs.map enc ++ [enc x]))) rest K := by
  rw [List.map_append] at h
  exact h
theorem rng_get {lo x : Int} {n i : Nat} (h : (rng lo n)[i]? = some x) : x = lo + i ∧ i < n := by
  unfold rng at h
  rw [List.getElem?_map] at h
  have hl : i < n := by
    cases e : (List.range n)[i]? with
    | none => rw [e] at h; cases h
    | some j => simpa using (List.getElem?_eq_some_iff.mp e).1
  rw [List.getElem?_range hl] at h
  exact ⟨(Option.some.inj h).symm, hl⟩
theorem sts_cut {C : Cfg} {Γ : List SV} {st : Stmt} {rest : List Stmt} {K : Kt} (N : List SV → Prop) (h : St C Γ st { K with nx := N }) (r : ∀ Γ', N Γ' → Sts C Γ' rest K) : Sts C Γ (st :: rest) K := sts_cons fun F W σ S X ok pins s I => thn (h F W σ S X ok pins s I) fun f s' q => sp_mono q (fun σ' H' ⟨W', Γ', e, S', z⟩ => ⟨W', Γ', e, S', r Γ' z⟩) (fun _ _ z => z) (fun _ _ z => z) (fun _ _ z => z)
theorem mul_bd {a b A B : Int} (h1 : 0 ≤ a) (h2 : a ≤ A) (h3 : 0 ≤ b) (h4 : b ≤ B) : 0 ≤ a * b ∧ a * b ≤ A * B := ⟨Int.mul_nonneg h1 h3, Int.le_trans (Int.mul_le_mul_of_nonneg_right h2 h3) (Int.mul_le_mul_of_nonneg_left h4 (Int.le_trans h1 h2))⟩
theorem div_bd {a b A : Int} (h1 : 0 ≤ a) (h2 : a ≤ A) (h3 : 0 < b) : 0 ≤ a / b ∧ a / b ≤ A := ⟨Int.ediv_nonneg h1 (by omega), Int.le_trans (Int.ediv_le_self b h1) h2⟩
/-! ### values of any kind -/
instance : Inhabited D := ⟨.none⟩
def intOf : D → Int
  | .int i => i
  | _ => 0
theorem int_of {d : D} (h1 : isIntD d = true) (h2 : isBoolD d = false) : d = .int (intOf d) := by
  cases d <;> first | rfl | (cases h1; done) | (cases h2; done)
theorem lenT_of {d : D} (h : isTupleD d = true) : lenD d = some (((seqD d).length : Nat) : Int) := by
  cases d <;> first | rfl | cases h
theorem lenL_of {d : D} (h : isListD d = true) : lenD d = some (((seqD d).length : Nat) : Int) := by
  cases d <;> first | rfl | cases h
theorem seqT_of {d : D} (h : isTupleD d = true) : isSeq d = true := by
  cases d <;> first | rfl | cases h
theorem seqL_of {d : D} (h : isListD d = true) : isSeq d = true := by
  cases d <;> first | rfl | cases h
/-- the item at a place -/
def atD {α : Type} [Inhabited α] (xs : List α) (i : Int) : α := (atI xs i).getD default
theorem atD_ok {α : Type} [Inhabited α] {xs : List α} {i : Int} (h1 : -(xs.length : Int) ≤ i) (h2 : i < xs.length) : atI xs i = some (atD xs i) := by
  unfold atD
  cases e : atI xs i with
  | some x => rfl
  | none =>
    exfalso
    unfold atI ixN at e
    by_cases h0 : 0 ≤ i
    · rw [if_pos h0, if_pos h2] at e
      have e' : xs[i.toNat]? = none := e
      rw [List.getElem?_eq_none_iff] at e'
      omega
    · rw [if_neg h0, if_pos h1] at e
      have e' : xs[(i + xs.length).toNat]? = none := e
      rw [List.getElem?_eq_none_iff] at e'
      omega
theorem atD_pos {α : Type} [Inhabited α] {xs : List α} {i : Int} (h1 : 0 ≤ i) (h2 : i < xs.length) : xs[i.toNat]? = some (atD xs i) := by
  have h := atD_ok (xs := xs) (i := i) (by omega) h2
  unfold atI ixN at h
  rw [if_pos h1, if_pos h2] at h
  exact h
theorem ev_globI {C : Cfg} {Γ : List SV} {x : Str} {n : Int} {pos : Pos} {P : D → Prop} (g : GlobOk C.sc x) (hm : ∃ t, C.mg x = some (.int n t)) (p : P (.int n)) : Ev C Γ (.Name x pos) P := by
  obtain ⟨t, hm⟩ := hm
  exact ev_glob (v := .int n) g hm ⟨t, rfl⟩ (fun _ => .int n) p
/-- (xs + [None])[0] -/
theorem ev_headOr {C : Cfg} {Γ : List SV} {a b : Expr} {p1 p2 p3 : Pos} {k : Nat} {α : Type} {P : D → Prop} (enc : α → D) (ha : EvO C Γ a fun x => ∃ xs : List α, x = .list (xs.map enc) ∧ xs.length ≤ 1000000 ∧ EvO C Γ b fun y => y = .int 0 ∧ P (encO enc xs.head?)) (hs : PlainIx b := by intro _ _; rfl) : Ev C Γ (.Subscript (.BinOp a .Add (.List [.Constant .none k p1] p2) p3) b pos) P :=
  ev_ix (Ev.o (ev_ofL (evl_cat (ha.imp fun x ⟨xs, e, hl, h⟩ => ⟨_, e, Ev.o (ev_ofL (evl_lst (eva_cons (ev_non (eva_nil ⟨szOk (by show 1 ≤ 1000000; omega), [.none], rfl, by rw [sizeLine_eq, List.length_map]; show xs.length + 1 ≤ _; omega, rfl, h.imp fun y ⟨e2, p⟩ => by
    subst e2
    cases xs with
    | nil => exact ⟨0, .none, rfl, rfl, p⟩
    | cons x r => exact ⟨0, enc x, rfl, by
        show atI (enc x :: (r.map enc ++ [.none])) 0 = some (enc x)
        unfold atI ixN
        rw [if_pos (Int.le_refl 0), if_pos (by simp; omega)]
        rfl, p⟩⟩)))))⟩)))) hs
/-! ### more loops -/
def whl {β : Type} (c : β → Bool) (f : β → β) : Nat → β → β
  | 0, s => s
  | n + 1, s => cond (c s) (whl c f n (f s)) s
/-- a bound on the turns: I holds, the measure falls -/
theorem whl_more {β : Type} {c : β → Bool} {f : β → β} (I : β → Prop) (m : β → Nat) (h : ∀ s, I s → c s = true → m (f s) < m s ∧ I (f s)) : ∀ (n k : Nat) (s : β), I s → m s ≤ n → m s ≤ k → whl c f n s = whl c f k s
  | n, k, s, i, h1, h2 => by
    cases e : c s with
    | false =>
      cases n <;> cases k <;> simp [whl, e]
    | true =>
      obtain ⟨h3, h4⟩ := h s i e
      match n, k, h1, h2 with
      | 0, _, h1, _ => omega
      | _ + 1, 0, _, h2 => omega
      | n + 1, k + 1, h1, h2 =>
        simp only [whl, e, cond_true]
        exact whl_more I m h n k (f s) h4 (by omega) (by omega)
theorem whl_end {β : Type} {c : β → Bool} {f : β → β} (I : β → Prop) (m : β → Nat) (h : ∀ s, I s → c s = true → m (f s) < m s ∧ I (f s)) : ∀ (n : Nat) (s : β), I s → m s ≤ n → c (whl c f n s) = false ∧ I (whl c f n s)
  | 0, s, i, h1 => by
    cases e : c s with
    | false => exact ⟨e, i⟩
    | true =>
      have := (h s i e).1
      omega
  | n + 1, s, i, h1 => by
    cases e : c s with
    | false => simp only [whl, e, cond_false]; exact ⟨trivial, i⟩
    | true =>
      obtain ⟨h3, h4⟩ := h s i e
      simp only [whl, e, cond_true]
      exact whl_end I m h n (f s) h4 (by omega)
section
variable {C : Cfg} {Γ : List SV} {a b c e tg : Expr} {es : List Expr} {pos : Pos} {body rest : List Stmt} {K : Kt} {α β : Type}
/-- while: a state, its measure -/
theorem st_whileD (G : β → List SV) (I : β → Prop) (m : β → Nat) (cf : β → Bool) (f : β → β) (s0 : β) (w0 : Weak Γ (G s0)) (i0 : I s0) (hm : ∀ s, I s → cf s = true → m (f s) < m s ∧ I (f s))
    (h : ∀ s, I s → EvT C (G s) c fun b => b = cf s ∧ (b = true → Sts C (G s) body { K with nx := fun Γ2 => Weak Γ2 (G (f s)), ct := fun Γ2 => Weak Γ2 (G (f s)), bk := fun _ => False }))
    (p : cf (whl cf f (m s0) s0) = false → I (whl cf f (m s0) s0) → K.nx (G (whl cf f (m s0) s0))) : St C Γ (.While c body [] pos) K :=
  st_while (fun n Γi => ∃ s, Γi = G s ∧ I s ∧ m s ≤ n ∧ whl cf f n s = whl cf f (m s0) s0) (m s0) ⟨_, w0, s0, rfl, i0, Nat.le_refl _, rfl⟩ fun n Γi ⟨s, e1, is, hn, e2⟩ => by
    subst e1
    refine (h s is).imp fun b ⟨hb, hs⟩ => ⟨fun h1 F W σ S => ?_, fun h1 => ?_⟩
    · rw [h1] at hb
      obtain ⟨h3, h4⟩ := hm s is hb.symm
      have up : ∀ (σ : L2.St) (H : Hp), nxOf C F (fun Γ2 => Weak Γ2 (G (f s))) σ H → nxOf C F (Wk fun Γ' => ∃ m', m' < n ∧ ∃ s, Γ' = G s ∧ I s ∧ m s ≤ m' ∧ whl cf f m' s = whl cf f (m s0) s0) σ H := fun σ H ⟨W, Γ2, e, S, w⟩ => by
        refine ⟨W, Γ2, e, S, _, w, n - 1, by omega, f s, rfl, h4, by omega, ?_⟩
        rw [← e2]
        cases n with
        | zero => omega
        | succ n =>
          simp only [whl, ← hb, cond_true, Nat.add_sub_cancel]
      exact tSs_mono (hs h1 F W σ S) up (fun _ _ z => z) (fun σ H ⟨_, _, _, _, z⟩ => z.elim) up
    · rw [h1] at hb
      have : whl cf f n s = s := by
        cases n with
        | zero => rfl
        | succ n => simp only [whl, ← hb, cond_false]
      rw [this] at e2
      have z := p (by rw [← e2]; exact hb.symm) (by rw [← e2]; exact is)
      rw [← e2] at z
      exact z
/-- for, with a way out at the first item of which cf holds -/
theorem st_forFind (hh : C.hot = false) (hi : EvIt C Γ tg e fun ds => ∃ (xs : List α) (enc : α → D), ds = xs.map enc ∧ ∃ (G0 : List SV) (cf : α → Bool), Weak Γ G0 ∧
      (∀ (i : Nat) (x : α), xs[i]? = some x → (cf x = true → xs.find? cf = some x) → ∃ vs, EvG C vs G0 tg (enc x) fun Γ' => Sts C Γ' body { K with nx := fun Γ2 => Weak Γ2 G0 ∧ cf x = false, ct := fun Γ2 => Weak Γ2 G0 ∧ cf x = false, bk := fun _ => False }) ∧ (xs.find? cf = none → K.nx G0))
    (hs : ∀ env x, foldedSetIterable e env x = pure x := by intro _ _; rfl) : St C Γ (.For tg e body [] pos) K :=
  st_for hh (fun F W σ S R k => hi F W σ S R fun W' J ds G S' L w g ⟨xs, enc, e, G0, cf, w0, hx, p⟩ => k W' J ds G S' L w g ⟨fun i Γi => Γi = G0 ∧ ∀ y ∈ xs.take i, cf y = false, ⟨_, w0, rfl, fun y hy => by simp at hy⟩, fun i d Γi hd ⟨e1, hI⟩ => by
    subst e
    subst e1
    obtain ⟨x, h1, h2⟩ := map_at hd
    subst h2
    have hf : cf x = true → xs.find? cf = some x := fun hc => by
      have hlt := (List.getElem?_eq_some_iff.mp h1).1
      have e3 : xs = xs.take i ++ x :: xs.drop (i + 1) := by
        have := (List.take_append_drop (i + 1) xs).symm
        rw [take_succ' h1, List.append_assoc] at this
        exact this
      rw [e3, List.find?_append]
      rw [List.find?_eq_none.mpr (fun y hy => by rw [hI y hy]; simp)]
      simp [hc]
    obtain ⟨vs, hg⟩ := hx i x h1 hf
    refine ⟨vs, fun F W σ v S r Q k => hg F W σ v S r Q fun σ' Γ' S' o g p' => k σ' Γ' S' o g fun F W σ S => ?_⟩
    have up : ∀ (σ : L2.St) (H : Hp), nxOf C F (fun Γ2 => Weak Γ2 Γi ∧ cf x = false) σ H → nxOf C F (Wk fun Γ' => Γ' = Γi ∧ ∀ y ∈ xs.take (i + 1), cf y = false) σ H := fun σ H ⟨W, Γ2, e, S, w, hc⟩ =>
      ⟨W, Γ2, e, S, _, w, rfl, fun y hy => by
        rw [take_succ' h1] at hy
        rcases List.mem_append.mp hy with z | z
        · exact hI y z
        · rw [List.mem_singleton.mp z]; exact hc⟩
    exact tSs_mono (p' F W σ S) up (fun _ _ z => z) (fun σ H ⟨_, _, _, _, z⟩ => z.elim) up, fun Γn ⟨e1, hI⟩ => by
    subst e
    subst e1
    rw [List.length_map, List.take_length] at hI
    exact p (List.find?_eq_none.mpr fun y hy => by rw [hI y hy]; simp)⟩) hs
/-- for, where nothing is carried -/
theorem st_forC (hh : C.hot = false) (hi : EvIt C Γ tg e fun ds => ∃ (xs : List α) (enc : α → D), ds = xs.map enc ∧ ∃ (G0 : List SV), Weak Γ G0 ∧
      (∀ x ∈ xs, ∃ vs, EvG C vs G0 tg (enc x) fun Γ' => Sts C Γ' body { K with nx := fun Γ2 => Weak Γ2 G0, ct := fun Γ2 => Weak Γ2 G0, bk := fun _ => False }) ∧ K.nx G0)
    (hs : ∀ env x, foldedSetIterable e env x = pure x := by intro _ _; rfl) : St C Γ (.For tg e body [] pos) K :=
  st_for hh (fun F W σ S R k => hi F W σ S R fun W' J ds G S' L w g ⟨xs, enc, e, G0, w0, hx, p⟩ => k W' J ds G S' L w g ⟨fun i Γi => Γi = G0, ⟨_, w0, rfl⟩, fun i d Γi hd e1 => by
    subst e
    subst e1
    obtain ⟨x, h1, h2⟩ := map_at hd
    subst h2
    obtain ⟨vs, hg⟩ := hx x (List.mem_of_getElem? h1)
    refine ⟨vs, fun F W σ v S r Q k => hg F W σ v S r Q fun σ' Γ' S' o g p' => k σ' Γ' S' o g fun F W σ S => ?_⟩
    have up : ∀ (σ : L2.St) (H : Hp), nxOf C F (fun Γ2 => Weak Γ2 Γi) σ H → nxOf C F (Wk fun Γ' => Γ' = Γi) σ H := fun σ H ⟨W, Γ2, e, S, w⟩ => ⟨W, Γ2, e, S, _, w, rfl⟩
    exact tSs_mono (p' F W σ S) up (fun _ _ z => z) (fun σ H ⟨_, _, _, _, z⟩ => z.elim) up, fun Γn e1 => by
    subst e1
    exact p⟩) hs
end
/-! ### the end -/
theorem cx_no {P : Program} {w : World} {outer : List Env} {H : Hp} {s : Shared} {e : Value} {s' : Shared} (h : L2.CX P w outer H s (fun _ _ _ => False) e s') : False := by
  obtain ⟨_, _, _, _, _, _, _, _, _, _, _, _, z⟩ := h
  exact z.elim
/-! ### what the top has left -/
inductive DefIn (K : PySem.W.Frag) (x : Str) (st : Stmt) : Prop
  | mk {f : Addr} {oc kV dc pm cd ct : Value} {od an : Option Addr} {sl : Array (Option Value)} (a : PySem.W.nsIn K mainGlobals x = some (some (.ref f)))
    (l : K.lookup f = some ⟨oc, od, .func (PySem.W.fnOf x x (defArgs st) (defBody st) (defScope st) .none kV dc pm an cd ct), sl⟩) (c : PySem.W.codeIn K cd x = true) (k : PySem.W.keepIn K (.ref f) = true) : DefIn K x st
def DefE (G : Gb) (x : Str) (st : Stmt) (ps : List Str) : Prop := ∃ f fd, Fun G.K x x st f fd ∧ G.mg x = some (.ref f) ∧ L2.Binds G.K fd ps []
theorem DefIn.e {G : Gb} {h : Heap} {x : Str} {st : Stmt} {ps : List Str} (d : DefIn G.K x st) (X : G.K.In h) (Gn : h.Ns mainGlobals G.mg)
    (hb : ∀ (kV doc pm : Value) (an : Option Addr) (cdv ct : Value) (us : List Value), us.length = ps.length → bindArgs (PySem.W.fnOf x x (defArgs st) (defBody st) (defScope st) .none kV doc pm an cdv ct) ⟨us, []⟩ = pure (ps.zip us)) : DefE G x st ps := by
  cases d with
  | mk a l c k =>
    have F := fun_mk (st := st) l c k
    exact ⟨_, _, F, PySem.W.mg_of X Gn a, F.binds hb⟩
inductive ErrIn (K : PySem.W.Frag) (x : Str) (D : Addr) : Prop
  | mk (a : PySem.W.nsIn K mainGlobals x = some (some (.ref D))) (q : PySem.W.excIn K D [.type "ValueError", .type "Exception", .type "BaseException", .type "object"] "ValueError.__new__" = true)
    (k : PySem.W.keepIn K (.ref D) = true) (r1 : PySem.W.subIn K (.ref D) (.type "BaseException") = some true) (r2 : PySem.W.typeIn K (.ref D) = some (.type "type")) (i : PySem.W.isClsIn K D = true) (s : PySem.W.subIn K (.ref D) (.ref D) = some true) : ErrIn K x D
theorem ErrIn.e {G : Gb} {h : Heap} {x : Str} {D : Addr} (d : ErrIn G.K x D) (X : G.K.In h) (Gn : h.Ns mainGlobals G.mg) : ErrE G x D := by
  cases d with
  | mk a q k r1 r2 i s => exact ⟨q, PySem.W.mg_of X Gn a, k, r1, r2⟩
/-- an error of the class at S is what «except S» names -/
theorem exm_self {K : PySem.W.Frag} {S : Addr} (h1 : PySem.W.subIn K (.ref S) (.type "BaseException") = some true) (h2 : PySem.W.isClsIn K S = true) (h3 : PySem.W.typeIn K (.ref S) = some (.type "type")) (h4 : PySem.W.subIn K (.ref S) (.ref S) = some true) :
    PySem.W.exmOne K (.ref S) (.ref S) = some true := by
  have e1 : (PySem.W.subIn K (.ref S) (.type "BaseException") == some true) = true := by rw [h1] <;> rfl
  have e2 : ((PySem.W.clsIn K S).isSome && PySem.W.typeIn K (.ref S) == some (.type "type")) = true := by
    have h2' : (PySem.W.clsIn K S).isSome = true := h2
    rw [h2', h3] <;> rfl
  show (if (PySem.W.subIn K (.ref S) (.type "BaseException") == some true) = true then (if ((PySem.W.clsIn K S).isSome && PySem.W.typeIn K (.ref S) == some (.type "type")) = true then PySem.W.subIn K (.ref S) (.ref S) else none) else none) = some true
  rw [if_pos e1, if_pos e2]
  exact h4
theorem ErrIn.exm {K : PySem.W.Frag} {x : Str} {D : Addr} (d : ErrIn K x D) : PySem.W.exmOne K (.ref D) (.ref D) = some true := by
  cases d with
  | mk a q k r1 r2 i s => exact exm_self r1 i r2 s
end Dl

open PySem PySem.Spec PyProof.Rows L2 Dl
/-! ### small proofs beside a walk -/
local macro_rules | `(tactic| walk_at "ok") => `(tactic| first | assumption)
local macro_rules | `(tactic| walk_at "side") => `(tactic| first | omega | (dsimp only; omega) | (simp only [rng_len, List.length_map]; omega) | (simp only [decide_eq_true_eq] at *; omega))
local macro_rules | `(tactic| walk_at "mul") => `(tactic| first | exact Or.inr ⟨by omega, by omega⟩ | exact Or.inl ⟨by omega, by omega⟩ | exact Or.inr ⟨by dsimp only; omega, by dsimp only; omega⟩)
local macro_rules | `(tactic| walk_at "div") => `(tactic| first | exact ⟨by omega, by omega⟩ | exact ⟨by dsimp only; omega, by dsimp only; omega⟩)
local macro_rules | `(tactic| walk_at "pow") => `(tactic| first | exact ⟨by omega, by omega, by omega⟩ | exact ⟨by decide, by decide, by decide⟩)
local macro_rules | `(tactic| walk_at "size") => `(tactic| first | omega | (rw [sizeLine_eq]; omega) | (rw [sizeLine_eq, List.length_map]; omega) | (simp only [rng_len, List.length_map, List.length_append, List.length_cons, List.length_nil, sizeLine_eq]; omega) | (dsimp only; simp only [rng_len, List.length_map, sizeLine_eq]; omega) | (simp only [decide_eq_true_eq] at *; omega))
local macro_rules | `(tactic| walk_at "log") => `(tactic| first | (exact log_ok (by omega)))
local macro_rules | `(tactic| walk_at "pre") => `(tactic| first | assumption | omega | (dsimp only; omega) | (dsimp only; assumption))
local macro_rules | `(tactic| walk_at "inv") => `(tactic| first | omega | assumption | (simp only [cond_true, cond_false, List.length_append, List.length_cons, List.length_nil]; omega) | (dsimp only; omega))

local macro_rules | `(tactic| walk_at "isint") => `(tactic| first | rfl | exact int_of (by simp_all) (by simp_all))
local macro_rules | `(tactic| walk_at "dlen") => `(tactic| first | exact lenT_of (by simp_all) | exact lenL_of (by simp_all))
local macro_rules | `(tactic| walk_at "dseq") => `(tactic| first | exact seqT_of (by simp_all) | exact seqL_of (by simp_all))
namespace K33
def top (i : Nat) : Stmt := PySem.Challenge.pw_allsounded_k33_phrases_told_three_times.main.body.getD i (.Pass ⟨0, 0, 0, 0⟩)
abbrev s_is_integer : Stmt := top 4
abbrev N_is_integer : List Str := ["value", "low", "high"]
abbrev s_is_plan : Stmt := top 7
abbrev N_is_plan : List Str := ["value"]
abbrev s_length_of : Stmt := top 8
abbrev N_length_of : List Str := ["plan", "phrase", "rest", "times"]
abbrev s_end_from : Stmt := top 9
abbrev N_end_from : List Str := ["plan", "cycle", "start"]
abbrev s_start_for : Stmt := top 10
abbrev N_start_for : List Str := ["plan", "cycle"]
abbrev s_cycles_of : Stmt := top 11
abbrev N_cycles_of : List Str := ["plan", "cycle"]
abbrev s_rests_for : Stmt := top 12
abbrev N_rests_for : List Str := ["phrase", "times", "cycle", "start", "most", "rest"]
abbrev s_phrases_for : Stmt := top 13
abbrev N_phrases_for : List Str := ["rest", "times", "cycle", "start", "most", "phrase"]
abbrev s_plans_filling : Stmt := top 14
abbrev N_plans_filling : List Str := ["times", "cycle", "cycles", "whole", "found", "phrase", "left"]
abbrev s_strokes_at : Stmt := top 15
abbrev N_strokes_at : List Str := ["plan", "cycle", "start", "phrase", "rest", "times", "number"]
abbrev s_is_sounding : Stmt := top 16
abbrev N_is_sounding : List Str := ["plan", "place"]
abbrev s_row_of : Stmt := top 17
abbrev N_row_of : List Str := ["plan", "place"]
abbrev s_nested : Stmt := top 18
abbrev N_nested : List Str := ["inner", "rest", "times", "row", "found", "number"]
abbrev s_nested_length : Stmt := top 19
abbrev N_nested_length : List Str := ["inner", "rest", "times"]
abbrev s_plan_of : Stmt := top 20
abbrev N_plan_of : List Str := ["row", "times", "many", "phrase", "left"]
abbrev s_shrinking : Stmt := top 21
abbrev N_shrinking : List Str := ["first", "step", "rest", "cycle", "lengths", "here", "whole"]
abbrev s_first_rest : Stmt := top 22
abbrev N_first_rest : List Str := ["phrase", "times", "cycle", "start", "found"]
abbrev s_law_draw : Stmt := top 24
abbrev N_law_draw : List Str := ["state", "limit", "position", "cell", "mixed", "digit"]
abbrev s_law_row : Stmt := top 25
abbrev N_law_row : List Str := ["phrase", "rest", "times", "row", "k"]
abbrev s_law_end : Stmt := top 26
abbrev N_law_end : List Str := ["phrase", "rest", "times", "cycle", "start", "here", "k"]
abbrev s_law_refused : Stmt := top 27
abbrev N_law_refused : List Str := ["plan"]
abbrev s_law : Stmt := top 28
/-! ### mirrors -/
def is_integer (value : D) (low : Int) (high : Int) : Bool := (cond (((!(isIntD value)) || (isBoolD value))) false ((false || decide (low ≤ (intOf value))) && (false || decide ((intOf value) ≤ high))))
abbrev S_is_integer : SpD := fun ds Post _ => ∃ value : D, ∃ low : Int, ∃ high : Int, ds = [value, PyData.int (low), PyData.int (high)] ∧ Post (PyData.bool ((is_integer value low high)))
def is_plan (value : D) : Bool := ((isTupleD value) && (decide (((seqD value).length : Int) = 3) && ((is_integer (atD (seqD value) 0) 1 1000) && ((is_integer (atD (seqD value) 1) 0 1000) && (is_integer (atD (seqD value) 2) 2 9)))))
abbrev S_is_plan : SpD := fun ds Post _ => ∃ value : D, ds = [value] ∧ Post (PyData.bool ((is_plan value)))
def length_of (plan : (Int × Int × Int)) : Int := (((plan).1 * (plan).2.2) + ((plan).2.1 * ((plan).2.2 - 1)))
abbrev S_length_of : SpD := fun ds Post _ => ∃ plan : (Int × Int × Int), ds = [PyData.tuple [PyData.int ((plan).1), PyData.int ((plan).2.1), PyData.int ((plan).2.2)]] ∧ (-(2 ^ 60) < plan.2.2 ∧ plan.2.2 < 2 ^ 60) ∧ Post (PyData.int ((length_of plan)))
def end_from (plan : (Int × Int × Int)) (cycle : Int) (start : Int) : Int := (((start + (length_of plan)) - 1) % cycle)
abbrev S_end_from : SpD := fun ds Post _ => ∃ plan : (Int × Int × Int), ∃ cycle : Int, ∃ start : Int, ds = [PyData.tuple [PyData.int ((plan).1), PyData.int ((plan).2.1), PyData.int ((plan).2.2)], PyData.int (cycle), PyData.int (start)] ∧ (-(2 ^ 60) < plan.2.2 ∧ plan.2.2 < 2 ^ 60 ∧ 0 < cycle) ∧ Post (PyData.int ((end_from plan cycle start)))
def start_for (plan : (Int × Int × Int)) (cycle : Int) : Int := ((1 - (length_of plan)) % cycle)
abbrev S_start_for : SpD := fun ds Post _ => ∃ plan : (Int × Int × Int), ∃ cycle : Int, ds = [PyData.tuple [PyData.int ((plan).1), PyData.int ((plan).2.1), PyData.int ((plan).2.2)], PyData.int (cycle)] ∧ (-(2 ^ 60) < plan.2.2 ∧ plan.2.2 < 2 ^ 60 ∧ 0 < cycle) ∧ Post (PyData.int ((start_for plan cycle)))
def cycles_of (plan : (Int × Int × Int)) (cycle : Int) : Int := (((((length_of plan) - 1) + cycle) - 1) / cycle)
abbrev S_cycles_of : SpD := fun ds Post _ => ∃ plan : (Int × Int × Int), ∃ cycle : Int, ds = [PyData.tuple [PyData.int ((plan).1), PyData.int ((plan).2.1), PyData.int ((plan).2.2)], PyData.int (cycle)] ∧ (-(2 ^ 60) < plan.2.2 ∧ plan.2.2 < 2 ^ 60 ∧ 0 < cycle ∧ cycle < 1000) ∧ Post (PyData.int ((cycles_of plan cycle)))
def rests_for (phrase : Int) (times : Int) (cycle : Int) (start : Int) (most : Int) : (List Int) := ((((rng 0 (((most + 1) : Int)).toNat)).filter (fun rest' : Int => decide ((end_from (phrase, rest', times) cycle start) = 0))).map (fun rest' : Int => rest'))
abbrev S_rests_for : SpD := fun ds Post _ => ∃ phrase : Int, ∃ times : Int, ∃ cycle : Int, ∃ start : Int, ∃ most : Int, ds = [PyData.int (phrase), PyData.int (times), PyData.int (cycle), PyData.int (start), PyData.int (most)] ∧ (-(2 ^ 60) < times ∧ times < 2 ^ 60 ∧ 0 < cycle ∧ 0 ≤ most ∧ most < 10000) ∧ Post (PyData.list (((rests_for phrase times cycle start most)).map PyData.int))
def phrases_for (rest' : Int) (times : Int) (cycle : Int) (start : Int) (most : Int) : (List Int) := ((((rng 1 (((most + 1) - 1 : Int)).toNat)).filter (fun phrase : Int => decide ((end_from (phrase, rest', times) cycle start) = 0))).map (fun phrase : Int => phrase))
abbrev S_phrases_for : SpD := fun ds Post _ => ∃ rest' : Int, ∃ times : Int, ∃ cycle : Int, ∃ start : Int, ∃ most : Int, ds = [PyData.int (rest'), PyData.int (times), PyData.int (cycle), PyData.int (start), PyData.int (most)] ∧ (-(2 ^ 60) < times ∧ times < 2 ^ 60 ∧ 0 < cycle ∧ 0 ≤ most ∧ most < 10000) ∧ Post (PyData.list (((phrases_for rest' times cycle start most)).map PyData.int))
def plans_filling (times : Int) (cycle : Int) (cycles : Int) : (List (Int × Int × Int)) := (((rng 1 ((((((cycle * cycles) + 1) / times) + 1) - 1 : Int)).toNat)).foldl (fun (s1 : (List (Int × Int × Int))) (phrase : Int) => (cond (decide (((((cycle * cycles) + 1) - (phrase * times)) % (times - 1)) = 0)) (s1 ++ [(phrase, ((((cycle * cycles) + 1) - (phrase * times)) / (times - 1)), times)]) s1)) ([] : (List (Int × Int × Int))))
abbrev S_plans_filling : SpD := fun ds Post _ => ∃ times : Int, ∃ cycle : Int, ∃ cycles : Int, ds = [PyData.int (times), PyData.int (cycle), PyData.int (cycles)] ∧ (2 ≤ times ∧ times < 1000 ∧ 0 < cycle ∧ cycle < 1000 ∧ 0 < cycles ∧ cycles < 1000) ∧ Post (PyData.list (((plans_filling times cycle cycles)).map (fun y : (Int × Int × Int) => PyData.tuple [PyData.int ((y).1), PyData.int ((y).2.1), PyData.int ((y).2.2)])))
def strokes_at (plan : (Int × Int × Int)) (cycle : Int) (start : Int) : (List Int) := (((rng 0 (((plan).2.2 : Int)).toNat)).map (fun number : Int => ((start + (number * ((plan).1 + (plan).2.1))) % cycle)))
abbrev S_strokes_at : SpD := fun ds Post _ => ∃ plan : (Int × Int × Int), ∃ cycle : Int, ∃ start : Int, ds = [PyData.tuple [PyData.int ((plan).1), PyData.int ((plan).2.1), PyData.int ((plan).2.2)], PyData.int (cycle), PyData.int (start)] ∧ (0 ≤ plan.2.2 ∧ plan.2.2 < 1000 ∧ 0 < cycle) ∧ Post (PyData.tuple (((strokes_at plan cycle start)).map PyData.int))
def is_sounding (plan : (Int × Int × Int)) (place : Int) : Option Bool := (cond ((!(decide (0 ≤ place) && decide (place < (length_of plan))))) (none : Option Bool) (some (decide ((place % ((plan).1 + (plan).2.1)) < (plan).1))))
abbrev S_is_sounding (e_NoSuch : Addr) : SpD := fun ds Post EX => ∃ plan : (Int × Int × Int), ∃ place : Int, ds = [PyData.tuple [PyData.int ((plan).1), PyData.int ((plan).2.1), PyData.int ((plan).2.2)], PyData.int (place)] ∧ (-(2 ^ 60) < plan.2.2 ∧ plan.2.2 < 2 ^ 60 ∧ 0 < plan.1 ∧ 0 ≤ plan.2.1) ∧ (∀ v, (is_sounding plan place) = some v → Post (PyData.bool (v))) ∧ ((is_sounding plan place) = none → EX e_NoSuch)
def row_of (plan : (Int × Int × Int)) : (List Int) := (((rng 0 (((length_of plan) : Int)).toNat)).map (fun place : Int => (if ((is_sounding plan place).getD default) = true then (1 : Int) else 0)))
abbrev S_row_of : SpD := fun ds Post _ => ∃ plan : (Int × Int × Int), ds = [PyData.tuple [PyData.int ((plan).1), PyData.int ((plan).2.1), PyData.int ((plan).2.2)]] ∧ (0 < plan.1 ∧ plan.1 ≤ 200 ∧ 0 ≤ plan.2.1 ∧ plan.2.1 ≤ 200 ∧ 0 < plan.2.2 ∧ plan.2.2 ≤ 20) ∧ Post (PyData.tuple (((row_of plan)).map PyData.int))
def nested (inner : (Int × Int × Int)) (rest' : Int) (times : Int) : (List Int) := (((rng 0 ((times : Int)).toNat)).foldl (fun (s1 : (List Int)) (number : Int) => ((s1 ++ (row_of inner)) ++ (cond (decide (number < (times - 1))) ((List.replicate (rest').toNat ([0] : (List Int))).flatten) (([] : (List Int)))))) ([] : (List Int)))
abbrev S_nested : SpD := fun ds Post _ => ∃ inner : (Int × Int × Int), ∃ rest' : Int, ∃ times : Int, ds = [PyData.tuple [PyData.int ((inner).1), PyData.int ((inner).2.1), PyData.int ((inner).2.2)], PyData.int (rest'), PyData.int (times)] ∧ (0 < inner.1 ∧ inner.1 ≤ 200 ∧ 0 ≤ inner.2.1 ∧ inner.2.1 ≤ 200 ∧ 0 < inner.2.2 ∧ inner.2.2 ≤ 20 ∧ 0 ≤ rest' ∧ rest' ≤ 100 ∧ 0 ≤ times ∧ times ≤ 20) ∧ Post (PyData.tuple (((nested inner rest' times)).map PyData.int))
def nested_length (inner : (Int × Int × Int)) (rest' : Int) (times : Int) : Int := (((length_of inner) * times) + (rest' * (times - 1)))
abbrev S_nested_length : SpD := fun ds Post _ => ∃ inner : (Int × Int × Int), ∃ rest' : Int, ∃ times : Int, ds = [PyData.tuple [PyData.int ((inner).1), PyData.int ((inner).2.1), PyData.int ((inner).2.2)], PyData.int (rest'), PyData.int (times)] ∧ (0 < inner.1 ∧ inner.1 ≤ 200 ∧ 0 ≤ inner.2.1 ∧ inner.2.1 ≤ 200 ∧ 0 < inner.2.2 ∧ inner.2.2 ≤ 20 ∧ 0 ≤ rest' ∧ rest' ≤ 100 ∧ 0 ≤ times ∧ times ≤ 20) ∧ Post (PyData.int ((nested_length inner rest' times)))
def plan_of (row : (List Int)) (times : Int) : (Option (Int × Int × Int)) := (Option.elim (((rng 1 ((((((row).length : Int) / times) + 1) - 1 : Int)).toNat)).find? (fun phrase : Int => (cond ((decide (((((row).length : Int) - (phrase * times)) % (times - 1)) = 0) && decide ((row_of (phrase, ((((row).length : Int) - (phrase * times)) / (times - 1)), times)) = row))) true false))) (none : (Option (Int × Int × Int))) (fun phrase : Int => (some ((phrase, ((((row).length : Int) - (phrase * times)) / (times - 1)), times)) : (Option (Int × Int × Int)))))
abbrev S_plan_of : SpD := fun ds Post _ => ∃ row : (List Int), ∃ times : Int, ds = [PyData.tuple ((row).map PyData.int), PyData.int (times)] ∧ (row.length ≤ 150 ∧ 2 ≤ times ∧ times ≤ 20) ∧ Post (encO (fun y : (Int × Int × Int) => PyData.tuple [PyData.int ((y).1), PyData.int ((y).2.1), PyData.int ((y).2.2)]) ((plan_of row times)))
def shrinking (first : Int) (step : Int) (rest' : Int) (cycle : Int) : ((List Int) × Int) := (((whl (fun (s1 : (List Int) × Int) => decide (0 < (s1).2)) (fun (s1 : (List Int) × Int) => (((s1).1 ++ [(s1).2]), ((s1).2 - step))) ((fun (s1 : (List Int) × Int) => ((s1).2).toNat) (([] : (List Int)), first)) (([] : (List Int)), first))).1, ((1 - ((((whl (fun (s1 : (List Int) × Int) => decide (0 < (s1).2)) (fun (s1 : (List Int) × Int) => (((s1).1 ++ [(s1).2]), ((s1).2 - step))) ((fun (s1 : (List Int) × Int) => ((s1).2).toNat) (([] : (List Int)), first)) (([] : (List Int)), first))).1).sum + (rest' * (((((whl (fun (s1 : (List Int) × Int) => decide (0 < (s1).2)) (fun (s1 : (List Int) × Int) => (((s1).1 ++ [(s1).2]), ((s1).2 - step))) ((fun (s1 : (List Int) × Int) => ((s1).2).toNat) (([] : (List Int)), first)) (([] : (List Int)), first))).1).length : Int) - 1)))) % cycle))
abbrev S_shrinking : SpD := fun ds Post _ => ∃ first : Int, ∃ step : Int, ∃ rest' : Int, ∃ cycle : Int, ds = [PyData.int (first), PyData.int (step), PyData.int (rest'), PyData.int (cycle)] ∧ (0 < first ∧ first ≤ 1000 ∧ 0 < step ∧ step ≤ 1000 ∧ 0 ≤ rest' ∧ rest' ≤ 1000 ∧ 0 < cycle) ∧ Post (PyData.tuple [PyData.tuple ((((shrinking first step rest' cycle)).1).map PyData.int), PyData.int (((shrinking first step rest' cycle)).2)])
def first_rest (phrase : Int) (times : Int) (cycle : Int) (start : Int) : (Option Int) := (cond ((!((rests_for phrase times cycle start cycle)).isEmpty)) ((some ((atD (rests_for phrase times cycle start cycle) 0)) : (Option Int))) ((none : (Option Int))))
abbrev S_first_rest : SpD := fun ds Post _ => ∃ phrase : Int, ∃ times : Int, ∃ cycle : Int, ∃ start : Int, ds = [PyData.int (phrase), PyData.int (times), PyData.int (cycle), PyData.int (start)] ∧ (-(2 ^ 60) < times ∧ times < 2 ^ 60 ∧ 0 < cycle ∧ cycle < 10000) ∧ Post (encO PyData.int ((first_rest phrase times cycle start)))
def law_row (phrase : Int) (rest' : Int) (times : Int) : (List Int) := (((rng 0 ((times : Int)).toNat)).foldl (fun (s1 : (List Int)) (k' : Int) => (cond (decide (k' < (times - 1))) ((s1 ++ (List.replicate (phrase).toNat ([1] : (List Int))).flatten) ++ (List.replicate (rest').toNat ([0] : (List Int))).flatten) (s1 ++ (List.replicate (phrase).toNat ([1] : (List Int))).flatten))) ([] : (List Int)))
abbrev S_law_row : SpD := fun ds Post _ => ∃ phrase : Int, ∃ rest' : Int, ∃ times : Int, ds = [PyData.int (phrase), PyData.int (rest'), PyData.int (times)] ∧ (0 ≤ phrase ∧ phrase ≤ 200 ∧ 0 ≤ rest' ∧ rest' ≤ 200 ∧ 0 ≤ times ∧ times ≤ 20) ∧ Post (PyData.tuple (((law_row phrase rest' times)).map PyData.int))
def law_end (phrase : Int) (rest' : Int) (times : Int) (cycle : Int) (start : Int) : Int := ((((rng 0 ((((((law_row phrase rest' times)).length : Int) - 1) : Int)).toNat)).foldl (fun (s1 : Int) (k' : Int) => ((s1 + 1) % cycle)) start) % cycle)
abbrev S_law_end : SpD := fun ds Post _ => ∃ phrase : Int, ∃ rest' : Int, ∃ times : Int, ∃ cycle : Int, ∃ start : Int, ds = [PyData.int (phrase), PyData.int (rest'), PyData.int (times), PyData.int (cycle), PyData.int (start)] ∧ (0 ≤ phrase ∧ phrase ≤ 200 ∧ 0 ≤ rest' ∧ rest' ≤ 200 ∧ 0 ≤ times ∧ times ≤ 20 ∧ 0 < cycle) ∧ Post (PyData.int ((law_end phrase rest' times cycle start)))
def law_refused (plan : (Int × Int × Int)) : Bool := (cond ((is_sounding plan (length_of plan)).isNone) true false)
abbrev S_law_refused : SpD := fun ds Post _ => ∃ plan : (Int × Int × Int), ds = [PyData.tuple [PyData.int ((plan).1), PyData.int ((plan).2.1), PyData.int ((plan).2.2)]] ∧ (0 < plan.1 ∧ plan.1 ≤ 200 ∧ 0 ≤ plan.2.1 ∧ plan.2.1 ≤ 200 ∧ 0 < plan.2.2 ∧ plan.2.2 ≤ 20) ∧ Post (PyData.bool ((law_refused plan)))
/-! ### bounds -/
theorem len_bd (plan : Int × Int × Int) (h : 0 < plan.1 ∧ plan.1 ≤ 200 ∧ 0 ≤ plan.2.1 ∧ plan.2.1 ≤ 200 ∧ 0 < plan.2.2 ∧ plan.2.2 ≤ 20) : 0 < length_of plan ∧ length_of plan ≤ 8000 := by
  unfold length_of
  have h1 := mul_bd (a := plan.1) (b := plan.2.2) (by omega) (A := 200) (by omega) (by omega) (B := 20) (by omega)
  have h2 := mul_bd (a := plan.2.1) (b := plan.2.2 - 1) (by omega) (A := 200) (by omega) (by omega) (B := 20) (by omega)
  have h3 : 0 < plan.1 * plan.2.2 := Int.mul_pos (by omega) (by omega)
  omega
theorem row_bd (plan : Int × Int × Int) (h : 0 < plan.1 ∧ plan.1 ≤ 200 ∧ 0 ≤ plan.2.1 ∧ plan.2.1 ≤ 200 ∧ 0 < plan.2.2 ∧ plan.2.2 ≤ 20) : (row_of plan).length ≤ 8000 := by
  have := len_bd plan h
  unfold row_of
  simp only [List.length_map, rng_len]
  omega
theorem foldl_len {α β : Type} (f : List β → α → List β) (c : Nat) (h : ∀ l x, (f l x).length ≤ l.length + c) : ∀ (xs : List α) (l : List β), (xs.foldl f l).length ≤ l.length + xs.length * c
  | [], l => by simp
  | x :: xs, l => by
    have h1 := foldl_len f c h xs (f l x)
    have h2 := h l x
    rw [List.foldl_cons, List.length_cons, Nat.add_mul]
    omega
theorem lawrow_bd (phrase rest' times : Int) (h : 0 ≤ phrase ∧ phrase ≤ 200 ∧ 0 ≤ rest' ∧ rest' ≤ 200 ∧ 0 ≤ times ∧ times ≤ 20) : (law_row phrase rest' times).length ≤ 8000 := by
  unfold law_row
  refine Nat.le_trans (foldl_len _ 400 (fun l k => ?_) _ _) ?_
  · cases decide (k < times - 1) <;> simp [List.length_flatten] <;> omega
  · rw [rng_len, List.length_nil]
    omega
theorem sounding_ok {plan : Int × Int × Int} {place : Int} (h : 0 ≤ place ∧ place < length_of plan) : ¬ is_sounding plan place = none := by
  unfold is_sounding
  rw [decide_eq_true h.1, decide_eq_true h.2]
  exact fun z => by cases z
theorem isEmpty_pos {α : Type} {l : List α} (h : (!l.isEmpty) = true) : 0 < (l.length : Int) := by
  cases l with
  | nil => cases h
  | cons x r => rw [List.length_cons]; omega
theorem cond_len (c : Bool) (n : Int) (h : 0 ≤ n ∧ n ≤ 100) : (cond c (List.replicate n.toNat ([0] : List Int)).flatten []).length ≤ 100 := by
  cases c
  · simp
  · simp [List.length_flatten]; omega
theorem left_bd {n phrase times : Int} (h0 : 0 ≤ n) (hn : n ≤ 150) (ht : 2 ≤ times) (h1 : 1 ≤ phrase) (h2 : phrase ≤ n / times) : 0 ≤ n - phrase * times ∧ n - phrase * times ≤ 150 := by
  have h3 : phrase * times ≤ n / times * times := Int.mul_le_mul_of_nonneg_right h2 (by omega)
  have h4 : n / times * times ≤ n := Int.ediv_mul_le n (by omega)
  have h5 : 0 < phrase * times := Int.mul_pos (by omega) (by omega)
  omega

structure Tx (G : Gb) (e_NoSuch : Addr) : Prop where
  x_NoSuch : ErrE G "NoSuch" e_NoSuch
  y_NoSuch : PySem.W.exmOne G.K (.ref e_NoSuch) (.ref e_NoSuch) = some true
  z_bool : G.mg "bool" = none
  z_int : G.mg "int" = none
  z_isinstance : G.mg "isinstance" = none
  z_len : G.mg "len" = none
  z_list : G.mg "list" = none
  z_range : G.mg "range" = none
  z_sum : G.mg "sum" = none
  z_tuple : G.mg "tuple" = none
  c_MOST_TIMES : ∃ t, G.mg "MOST_TIMES" = some (.int 9 t)
section
variable {G : Gb} {e_NoSuch : Addr}
theorem sc_is_integer : FnScope N_is_integer ["value", "low", "high"] (defScope s_is_integer) := ⟨rfl, rfl, rfl, by decide +kernel, rfl, by decide +kernel, by decide +kernel⟩
set_option maxHeartbeats 4000000 in
theorem w_is_integer (T : Tx G e_NoSuch) (cd : Value) (ds : List D) (Post : D → Prop) (EX : Addr → Prop) (h0 : S_is_integer ds Post EX) : Sts (G.cfg N_is_integer s_is_integer 0 cd) (slots0 N_is_integer ds) (defBody s_is_integer) { nx := fun _ => Post .none, rt := Post, ex := fun c _ => EX c } := by
  obtain ⟨value, low, high, rfl, p⟩ := h0
  have p : Post (PyData.bool ((cond (((!(isIntD value)) || (isBoolD value))) false ((false || decide (low ≤ (intOf value))) && (false || decide ((intOf value) ≤ high)))))) := p
  show Sts _ [.imm (value), .imm (PyData.int (low)), .imm (PyData.int (high))] _ _
  refine sts_cons (st_if ?_)
  refine evt_det (((!(isIntD value)) || (isBoolD value))) ?_ ?_
  · refine EvW.t ?_
    refine evw_or ?_
    refine evt_not ?_
    refine evt_val ?_
    refine ev_isi isIntD kit_int (globOk (by kernel_rfl)) T.z_isinstance (globOk (by kernel_rfl)) T.z_int bt_tint ?_
    refine Ev.o (ev_var (i := 0) (nameOk (by kernel_rfl)) rfl ?_)
    refine ⟨(isIntD value), rfl, ?_⟩
    refine ⟨fun (hb1 : ((!(isIntD value))) = false) => ?_, fun (hb1 : ((!(isIntD value))) = true) => by rw [hb1] <;> rfl⟩
    refine evw_or1 ?_
    refine evt_val ?_
    refine ev_isi isBoolD kit_bool (globOk (by kernel_rfl)) T.z_isinstance (globOk (by kernel_rfl)) T.z_bool bt_tbool ?_
    refine Ev.o (ev_var (i := 0) (nameOk (by kernel_rfl)) rfl ?_)
    refine ⟨(isBoolD value), rfl, ?_⟩
    rw [hb1] <;> rfl
  refine ⟨fun (h2 : (((!(isIntD value)) || (isBoolD value))) = true) => ?_, fun (h2 : (((!(isIntD value)) || (isBoolD value))) = false) => ?_⟩
  · refine sts_cons (st_ret ?_)
    refine ev_bool ?_
    have q := p
    rw [h2] at q
    exact q
  · refine sts_nil ?_
    show Sts _ [.imm (value), .imm (PyData.int (low)), .imm (PyData.int (high))] _ _
    refine sts_cons (st_ret ?_)
    refine ev_det (d0 := PyData.bool (((false || decide (low ≤ (intOf value))) && (false || decide ((intOf value) ≤ high))))) ?_ ?_
    · refine ev_and ?_
      refine ev_det (d0 := PyData.bool ((false || decide (low ≤ (intOf value))))) ?_ ?_
      · refine ev_or ?_
        refine CmpK.ev kIsN ?_ rfl
        refine Ev.o (ev_var (i := 1) (nameOk (by kernel_rfl)) rfl ?_)
        refine Ev.o (ev_non ?_)
        refine ⟨false, ⟨rfl, rfl⟩, ?_⟩
        refine ⟨false, rfl, fun (hb3 : (false) = false) => ?_, fun (hb3 : (false) = true) => by rw [hb3] <;> rfl⟩
        refine ev_one ?_
        refine CmpK.ev kGe ?_ rfl
        refine Ev.o (ev_var (i := 0) (nameOk (by kernel_rfl)) rfl ?_)
        refine Ev.o (ev_var (i := 1) (nameOk (by kernel_rfl)) rfl ?_)
        refine ⟨decide (low ≤ (intOf value)), ⟨(intOf value), low, (by walk_at "isint"), rfl, rfl⟩, ?_⟩
        rw [hb3] <;> rfl
      refine ⟨(false || decide (low ≤ (intOf value))), rfl, fun (hb5 : ((false || decide (low ≤ (intOf value)))) = true) => ?_, fun (hb5 : ((false || decide (low ≤ (intOf value)))) = false) => by rw [hb5] <;> rfl⟩
      refine ev_one ?_
      refine ev_det (d0 := PyData.bool ((false || decide ((intOf value) ≤ high)))) ?_ ?_
      · refine ev_or ?_
        refine CmpK.ev kIsN ?_ rfl
        refine Ev.o (ev_var (i := 2) (nameOk (by kernel_rfl)) rfl ?_)
        refine Ev.o (ev_non ?_)
        refine ⟨false, ⟨rfl, rfl⟩, ?_⟩
        refine ⟨false, rfl, fun (hb4 : (false) = false) => ?_, fun (hb4 : (false) = true) => by rw [hb4] <;> rfl⟩
        refine ev_one ?_
        refine CmpK.ev kLe ?_ rfl
        refine Ev.o (ev_var (i := 0) (nameOk (by kernel_rfl)) rfl ?_)
        refine Ev.o (ev_var (i := 2) (nameOk (by kernel_rfl)) rfl ?_)
        refine ⟨decide ((intOf value) ≤ high), ⟨(intOf value), high, (by walk_at "isint"), rfl, rfl⟩, ?_⟩
        rw [hb4] <;> rfl
      rw [hb5] <;> rfl
    have q := p
    rw [h2] at q
    exact q
theorem fe_is_integer (T : Tx G e_NoSuch) (Df : DefE G "is_integer" s_is_integer ["value", "low", "high"]) : FnE G "is_integer" ["value", "low", "high"] 1 (spP G.K G.tabs 3 S_is_integer) := by
  obtain ⟨f, fd, Fu, gl, hb⟩ := Df
  exact fnE_P Fu sc_is_integer gl hb fun cd ds Post EX _ h => w_is_integer T cd ds Post EX h
theorem sc_is_plan : FnScope N_is_plan ["value"] (defScope s_is_plan) := ⟨rfl, rfl, rfl, by decide +kernel, rfl, by decide +kernel, by decide +kernel⟩
set_option maxHeartbeats 4000000 in
theorem w_is_plan (T : Tx G e_NoSuch) (F_is_integer : FnE G "is_integer" ["value", "low", "high"] 1 (spP G.K G.tabs 3 S_is_integer)) (cd : Value) (ds : List D) (Post : D → Prop) (EX : Addr → Prop) (h0 : S_is_plan ds Post EX) : Sts (G.cfg N_is_plan s_is_plan 1 cd) (slots0 N_is_plan ds) (defBody s_is_plan) { nx := fun _ => Post .none, rt := Post, ex := fun c _ => EX c } := by
  obtain ⟨value, rfl, p⟩ := h0
  have p : Post (PyData.bool (((isTupleD value) && (decide (((seqD value).length : Int) = 3) && ((is_integer (atD (seqD value) 0) 1 1000) && ((is_integer (atD (seqD value) 1) 0 1000) && (is_integer (atD (seqD value) 2) 2 9))))))) := p
  show Sts _ [.imm (value)] _ _
  refine sts_cons (st_ret ?_)
  refine ev_det (d0 := PyData.bool (((isTupleD value) && (decide (((seqD value).length : Int) = 3) && ((is_integer (atD (seqD value) 0) 1 1000) && ((is_integer (atD (seqD value) 1) 0 1000) && (is_integer (atD (seqD value) 2) 2 9))))))) ?_ ?_
  · refine ev_and ?_
    refine ev_isi isTupleD kit_tuple (globOk (by kernel_rfl)) T.z_isinstance (globOk (by kernel_rfl)) T.z_tuple bt_ttuple ?_
    refine Ev.o (ev_var (i := 0) (nameOk (by kernel_rfl)) rfl ?_)
    refine ⟨(isTupleD value), rfl, fun (hb1 : ((isTupleD value)) = true) => ?_, fun (hb1 : ((isTupleD value)) = false) => by rw [hb1] <;> rfl⟩
    refine ev_and ?_
    refine CmpK.ev (kEq rfl) ?_ rfl
    refine Ev.o (ev_len (globOk (by kernel_rfl)) T.z_len ?_)
    refine Ev.o (ev_var (i := 0) (nameOk (by kernel_rfl)) rfl ?_)
    refine ⟨((seqD value).length : Int), (by walk_at "dlen"), ?_⟩
    refine Ev.o (ev_int ?_)
    refine ⟨decide (((seqD value).length : Int) = 3), cdEq cd_int.o (by decide) ((seqD value).length : Int) 3, ?_⟩
    refine ⟨decide (((seqD value).length : Int) = 3), rfl, fun (hb2 : (decide (((seqD value).length : Int) = 3)) = true) => ?_, fun (hb2 : (decide (((seqD value).length : Int) = 3)) = false) => by rw [hb1, hb2] <;> rfl⟩
    refine ev_and ?_
    refine ev_call F_is_integer (globOk (by kernel_rfl)) (Nat.le_of_ble_eq_true rfl) rfl ?_
    refine eva_cons ?_
    refine ev_ix ?_
    refine Ev.o (ev_var (i := 0) (nameOk (by kernel_rfl)) rfl ?_)
    refine ⟨(by walk_at "dseq"), ?_⟩
    refine Ev.o (ev_int ?_)
    refine ⟨0, (atD (seqD value) 0), rfl, atD_ok (by walk_at "size") (by walk_at "size"), ?_⟩
    refine eva_cons ?_
    refine ev_int ?_
    refine eva_cons ?_
    refine ev_int ?_
    refine eva_nil ?_
    refine ⟨rfl, (atD (seqD value) 0), 1, 1000, rfl, ?_⟩
    refine ⟨(is_integer (atD (seqD value) 0) 1 1000), rfl, fun (hb3 : ((is_integer (atD (seqD value) 0) 1 1000)) = true) => ?_, fun (hb3 : ((is_integer (atD (seqD value) 0) 1 1000)) = false) => by rw [hb1, hb2, hb3] <;> rfl⟩
    refine ev_and ?_
    refine ev_call F_is_integer (globOk (by kernel_rfl)) (Nat.le_of_ble_eq_true rfl) rfl ?_
    refine eva_cons ?_
    refine ev_ix ?_
    refine Ev.o (ev_var (i := 0) (nameOk (by kernel_rfl)) rfl ?_)
    refine ⟨(by walk_at "dseq"), ?_⟩
    refine Ev.o (ev_int ?_)
    refine ⟨1, (atD (seqD value) 1), rfl, atD_ok (by walk_at "size") (by walk_at "size"), ?_⟩
    refine eva_cons ?_
    refine ev_int ?_
    refine eva_cons ?_
    refine ev_int ?_
    refine eva_nil ?_
    refine ⟨rfl, (atD (seqD value) 1), 0, 1000, rfl, ?_⟩
    refine ⟨(is_integer (atD (seqD value) 1) 0 1000), rfl, fun (hb4 : ((is_integer (atD (seqD value) 1) 0 1000)) = true) => ?_, fun (hb4 : ((is_integer (atD (seqD value) 1) 0 1000)) = false) => by rw [hb1, hb2, hb3, hb4] <;> rfl⟩
    refine ev_one ?_
    refine ev_call F_is_integer (globOk (by kernel_rfl)) (Nat.le_of_ble_eq_true rfl) rfl ?_
    refine eva_cons ?_
    refine ev_ix ?_
    refine Ev.o (ev_var (i := 0) (nameOk (by kernel_rfl)) rfl ?_)
    refine ⟨(by walk_at "dseq"), ?_⟩
    refine Ev.o (ev_int ?_)
    refine ⟨2, (atD (seqD value) 2), rfl, atD_ok (by walk_at "size") (by walk_at "size"), ?_⟩
    refine eva_cons ?_
    refine ev_int ?_
    refine eva_cons ?_
    refine ev_globI (globOk (by kernel_rfl)) T.c_MOST_TIMES ?_
    refine eva_nil ?_
    refine ⟨rfl, (atD (seqD value) 2), 2, 9, rfl, ?_⟩
    rw [hb1, hb2, hb3, hb4] <;> rfl
  have q := p
  exact q
theorem fe_is_plan (T : Tx G e_NoSuch) (Df : DefE G "is_plan" s_is_plan ["value"]) (F_is_integer : FnE G "is_integer" ["value", "low", "high"] 1 (spP G.K G.tabs 3 S_is_integer)) : FnE G "is_plan" ["value"] 2 (spP G.K G.tabs 1 S_is_plan) := by
  obtain ⟨f, fd, Fu, gl, hb⟩ := Df
  exact fnE_P Fu sc_is_plan gl hb fun cd ds Post EX _ h => w_is_plan T F_is_integer cd ds Post EX h
theorem sc_length_of : FnScope N_length_of ["plan"] (defScope s_length_of) := ⟨rfl, rfl, rfl, by decide +kernel, rfl, by decide +kernel, by decide +kernel⟩
set_option maxHeartbeats 4000000 in
theorem w_length_of (T : Tx G e_NoSuch) (cd : Value) (ds : List D) (Post : D → Prop) (EX : Addr → Prop) (h0 : S_length_of ds Post EX) : Sts (G.cfg N_length_of s_length_of 0 cd) (slots0 N_length_of ds) (defBody s_length_of) { nx := fun _ => Post .none, rt := Post, ex := fun c _ => EX c } := by
  obtain ⟨plan, rfl, hpre, p⟩ := h0
  have p : Post (PyData.int ((((plan).1 * (plan).2.2) + ((plan).2.1 * ((plan).2.2 - 1))))) := p
  show Sts _ [.imm (PyData.tuple [PyData.int ((plan).1), PyData.int ((plan).2.1), PyData.int ((plan).2.2)]), .any, .any, .any] _ _
  refine sts_cons (st_asg (vs := [1, 2, 3]) ?_)
  refine ev_var (i := 0) (nameOk (by kernel_rfl)) rfl ?_
  refine evg_tup rfl (plains_of rfl) rfl ?_
  refine ⟨_, _, rfl, ?_⟩
  refine evg_name (i := 1) (storeOk (by kernel_rfl) (.inl rfl)) (by simp) (Nat.le_of_ble_eq_true rfl) ?_
  refine ⟨_, _, rfl, ?_⟩
  refine evg_name (i := 2) (storeOk (by kernel_rfl) (.inl rfl)) (by simp) (Nat.le_of_ble_eq_true rfl) ?_
  refine ⟨_, _, rfl, ?_⟩
  refine evg_name (i := 3) (storeOk (by kernel_rfl) (.inl rfl)) (by simp) (Nat.le_of_ble_eq_true rfl) ?_
  refine ⟨rfl, ?_⟩
  show Sts _ [.imm (PyData.tuple [PyData.int ((plan).1), PyData.int ((plan).2.1), PyData.int ((plan).2.2)]), .imm (PyData.int ((plan).1)), .imm (PyData.int ((plan).2.1)), .imm (PyData.int ((plan).2.2))] _ _
  refine sts_cons (st_ret ?_)
  refine ev_add ?_
  refine Ev.o (ev_mul ?_)
  refine Ev.o (ev_var (i := 1) (nameOk (by kernel_rfl)) rfl ?_)
  refine ⟨(plan).1, rfl, ?_⟩
  refine Ev.o (ev_var (i := 3) (nameOk (by kernel_rfl)) rfl ?_)
  refine ⟨(plan).2.2, rfl, (by walk_at "mul"), ?_⟩
  refine ⟨((plan).1 * (plan).2.2), rfl, ?_⟩
  refine Ev.o (ev_mul ?_)
  refine Ev.o (ev_var (i := 2) (nameOk (by kernel_rfl)) rfl ?_)
  refine ⟨(plan).2.1, rfl, ?_⟩
  refine Ev.o (ev_sub ?_)
  refine Ev.o (ev_var (i := 3) (nameOk (by kernel_rfl)) rfl ?_)
  refine ⟨(plan).2.2, rfl, ?_⟩
  refine Ev.o (ev_int ?_)
  refine ⟨1, rfl, ?_⟩
  refine ⟨((plan).2.2 - 1), rfl, (by walk_at "mul"), ?_⟩
  refine ⟨((plan).2.1 * ((plan).2.2 - 1)), rfl, ?_⟩
  have q := p
  exact q
theorem fe_length_of (T : Tx G e_NoSuch) (Df : DefE G "length_of" s_length_of ["plan"]) : FnE G "length_of" ["plan"] 1 (spP G.K G.tabs 1 S_length_of) := by
  obtain ⟨f, fd, Fu, gl, hb⟩ := Df
  exact fnE_P Fu sc_length_of gl hb fun cd ds Post EX _ h => w_length_of T cd ds Post EX h
theorem sc_end_from : FnScope N_end_from ["plan", "cycle", "start"] (defScope s_end_from) := ⟨rfl, rfl, rfl, by decide +kernel, rfl, by decide +kernel, by decide +kernel⟩
set_option maxHeartbeats 4000000 in
theorem w_end_from (T : Tx G e_NoSuch) (F_length_of : FnE G "length_of" ["plan"] 1 (spP G.K G.tabs 1 S_length_of)) (cd : Value) (ds : List D) (Post : D → Prop) (EX : Addr → Prop) (h0 : S_end_from ds Post EX) : Sts (G.cfg N_end_from s_end_from 1 cd) (slots0 N_end_from ds) (defBody s_end_from) { nx := fun _ => Post .none, rt := Post, ex := fun c _ => EX c } := by
  obtain ⟨plan, cycle, start, rfl, hpre, p⟩ := h0
  have p : Post (PyData.int ((((start + (length_of plan)) - 1) % cycle))) := p
  show Sts _ [.imm (PyData.tuple [PyData.int ((plan).1), PyData.int ((plan).2.1), PyData.int ((plan).2.2)]), .imm (PyData.int (cycle)), .imm (PyData.int (start))] _ _
  refine sts_cons (st_ret ?_)
  refine ev_mod ?_
  refine Ev.o (ev_sub ?_)
  refine Ev.o (ev_add ?_)
  refine Ev.o (ev_var (i := 2) (nameOk (by kernel_rfl)) rfl ?_)
  refine ⟨start, rfl, ?_⟩
  refine Ev.o (ev_call F_length_of (globOk (by kernel_rfl)) (Nat.le_of_ble_eq_true rfl) rfl ?_)
  refine eva_cons ?_
  refine ev_var (i := 0) (nameOk (by kernel_rfl)) rfl ?_
  refine eva_nil ?_
  refine ⟨rfl, plan, rfl, (by walk_at "pre"), ?_⟩
  refine ⟨(length_of plan), rfl, ?_⟩
  refine ⟨(start + (length_of plan)), rfl, ?_⟩
  refine Ev.o (ev_int ?_)
  refine ⟨1, rfl, ?_⟩
  refine ⟨((start + (length_of plan)) - 1), rfl, ?_⟩
  refine Ev.o (ev_var (i := 1) (nameOk (by kernel_rfl)) rfl ?_)
  refine ⟨cycle, rfl, (by walk_at "side"), ?_⟩
  have q := p
  exact q
theorem fe_end_from (T : Tx G e_NoSuch) (Df : DefE G "end_from" s_end_from ["plan", "cycle", "start"]) (F_length_of : FnE G "length_of" ["plan"] 1 (spP G.K G.tabs 1 S_length_of)) : FnE G "end_from" ["plan", "cycle", "start"] 2 (spP G.K G.tabs 3 S_end_from) := by
  obtain ⟨f, fd, Fu, gl, hb⟩ := Df
  exact fnE_P Fu sc_end_from gl hb fun cd ds Post EX _ h => w_end_from T F_length_of cd ds Post EX h
theorem sc_start_for : FnScope N_start_for ["plan", "cycle"] (defScope s_start_for) := ⟨rfl, rfl, rfl, by decide +kernel, rfl, by decide +kernel, by decide +kernel⟩
set_option maxHeartbeats 4000000 in
theorem w_start_for (T : Tx G e_NoSuch) (F_length_of : FnE G "length_of" ["plan"] 1 (spP G.K G.tabs 1 S_length_of)) (cd : Value) (ds : List D) (Post : D → Prop) (EX : Addr → Prop) (h0 : S_start_for ds Post EX) : Sts (G.cfg N_start_for s_start_for 1 cd) (slots0 N_start_for ds) (defBody s_start_for) { nx := fun _ => Post .none, rt := Post, ex := fun c _ => EX c } := by
  obtain ⟨plan, cycle, rfl, hpre, p⟩ := h0
  have p : Post (PyData.int (((1 - (length_of plan)) % cycle))) := p
  show Sts _ [.imm (PyData.tuple [PyData.int ((plan).1), PyData.int ((plan).2.1), PyData.int ((plan).2.2)]), .imm (PyData.int (cycle))] _ _
  refine sts_cons (st_ret ?_)
  refine ev_mod ?_
  refine Ev.o (ev_sub ?_)
  refine Ev.o (ev_int ?_)
  refine ⟨1, rfl, ?_⟩
  refine Ev.o (ev_call F_length_of (globOk (by kernel_rfl)) (Nat.le_of_ble_eq_true rfl) rfl ?_)
  refine eva_cons ?_
  refine ev_var (i := 0) (nameOk (by kernel_rfl)) rfl ?_
  refine eva_nil ?_
  refine ⟨rfl, plan, rfl, (by walk_at "pre"), ?_⟩
  refine ⟨(length_of plan), rfl, ?_⟩
  refine ⟨(1 - (length_of plan)), rfl, ?_⟩
  refine Ev.o (ev_var (i := 1) (nameOk (by kernel_rfl)) rfl ?_)
  refine ⟨cycle, rfl, (by walk_at "side"), ?_⟩
  have q := p
  exact q
theorem fe_start_for (T : Tx G e_NoSuch) (Df : DefE G "start_for" s_start_for ["plan", "cycle"]) (F_length_of : FnE G "length_of" ["plan"] 1 (spP G.K G.tabs 1 S_length_of)) : FnE G "start_for" ["plan", "cycle"] 2 (spP G.K G.tabs 2 S_start_for) := by
  obtain ⟨f, fd, Fu, gl, hb⟩ := Df
  exact fnE_P Fu sc_start_for gl hb fun cd ds Post EX _ h => w_start_for T F_length_of cd ds Post EX h
theorem sc_cycles_of : FnScope N_cycles_of ["plan", "cycle"] (defScope s_cycles_of) := ⟨rfl, rfl, rfl, by decide +kernel, rfl, by decide +kernel, by decide +kernel⟩
set_option maxHeartbeats 4000000 in
theorem w_cycles_of (T : Tx G e_NoSuch) (F_length_of : FnE G "length_of" ["plan"] 1 (spP G.K G.tabs 1 S_length_of)) (cd : Value) (ds : List D) (Post : D → Prop) (EX : Addr → Prop) (h0 : S_cycles_of ds Post EX) : Sts (G.cfg N_cycles_of s_cycles_of 1 cd) (slots0 N_cycles_of ds) (defBody s_cycles_of) { nx := fun _ => Post .none, rt := Post, ex := fun c _ => EX c } := by
  obtain ⟨plan, cycle, rfl, hpre, p⟩ := h0
  have p : Post (PyData.int ((((((length_of plan) - 1) + cycle) - 1) / cycle))) := p
  show Sts _ [.imm (PyData.tuple [PyData.int ((plan).1), PyData.int ((plan).2.1), PyData.int ((plan).2.2)]), .imm (PyData.int (cycle))] _ _
  refine sts_cons (st_ret ?_)
  refine ev_fdiv ?_
  refine Ev.o (ev_sub ?_)
  refine Ev.o (ev_add ?_)
  refine Ev.o (ev_sub ?_)
  refine Ev.o (ev_call F_length_of (globOk (by kernel_rfl)) (Nat.le_of_ble_eq_true rfl) rfl ?_)
  refine eva_cons ?_
  refine ev_var (i := 0) (nameOk (by kernel_rfl)) rfl ?_
  refine eva_nil ?_
  refine ⟨rfl, plan, rfl, (by walk_at "pre"), ?_⟩
  refine ⟨(length_of plan), rfl, ?_⟩
  refine Ev.o (ev_int ?_)
  refine ⟨1, rfl, ?_⟩
  refine ⟨((length_of plan) - 1), rfl, ?_⟩
  refine Ev.o (ev_var (i := 1) (nameOk (by kernel_rfl)) rfl ?_)
  refine ⟨cycle, rfl, ?_⟩
  refine ⟨(((length_of plan) - 1) + cycle), rfl, ?_⟩
  refine Ev.o (ev_int ?_)
  refine ⟨1, rfl, ?_⟩
  refine ⟨((((length_of plan) - 1) + cycle) - 1), rfl, ?_⟩
  refine Ev.o (ev_var (i := 1) (nameOk (by kernel_rfl)) rfl ?_)
  refine ⟨cycle, rfl, (by walk_at "div"), ?_⟩
  have q := p
  exact q
theorem fe_cycles_of (T : Tx G e_NoSuch) (Df : DefE G "cycles_of" s_cycles_of ["plan", "cycle"]) (F_length_of : FnE G "length_of" ["plan"] 1 (spP G.K G.tabs 1 S_length_of)) : FnE G "cycles_of" ["plan", "cycle"] 2 (spP G.K G.tabs 2 S_cycles_of) := by
  obtain ⟨f, fd, Fu, gl, hb⟩ := Df
  exact fnE_P Fu sc_cycles_of gl hb fun cd ds Post EX _ h => w_cycles_of T F_length_of cd ds Post EX h
theorem sc_rests_for : FnScope N_rests_for ["phrase", "times", "cycle", "start", "most"] (defScope s_rests_for) := ⟨rfl, rfl, rfl, by decide +kernel, rfl, by decide +kernel, by decide +kernel⟩
set_option maxHeartbeats 4000000 in
theorem w_rests_for (T : Tx G e_NoSuch) (F_end_from : FnE G "end_from" ["plan", "cycle", "start"] 2 (spP G.K G.tabs 3 S_end_from)) (cd : Value) (ds : List D) (Post : D → Prop) (EX : Addr → Prop) (h0 : S_rests_for ds Post EX) : Sts (G.cfg N_rests_for s_rests_for 2 cd) (slots0 N_rests_for ds) (defBody s_rests_for) { nx := fun _ => Post .none, rt := Post, ex := fun c _ => EX c } := by
  obtain ⟨phrase, times, cycle, start, most, rfl, hpre, p⟩ := h0
  have p : Post (PyData.list ((((((rng 0 (((most + 1) : Int)).toNat)).filter (fun rest' : Int => decide ((end_from (phrase, rest', times) cycle start) = 0))).map (fun rest' : Int => rest'))).map PyData.int)) := p
  show Sts _ [.imm (PyData.int (phrase)), .imm (PyData.int (times)), .imm (PyData.int (cycle)), .imm (PyData.int (start)), .imm (PyData.int (most)), .any] _ _
  refine sts_cons (st_ret ?_)
  refine ev_ofL (EvLc.l rfl (blkOk (by kernel_rfl)) (evl_lcT (α := Int) (β := Int) [("rest", 5)] PyData.int PyData.int (free_of rfl) ?_))
  refine EvIt.o (eit_range1 (globOk (by kernel_rfl)) T.z_range ?_)
  refine Ev.o (ev_add ?_)
  refine Ev.o (ev_var (i := 4) (nameOk (by kernel_rfl)) rfl ?_)
  refine ⟨most, rfl, ?_⟩
  refine Ev.o (ev_int ?_)
  refine ⟨1, rfl, ?_⟩
  refine ⟨(most + 1), rfl, (by walk_at "side"), (by walk_at "side"), ?_⟩
  refine ⟨(rng 0 (((most + 1) : Int)).toNat), rfl, (by walk_at "size"), (fun rest' : Int => decide ((end_from (phrase, rest', times) cycle start) = 0)), (fun rest' : Int => rest'), ?_, ?_⟩
  · intro rest' hx1
    have hx1b := mem_rng hx1
    refine evg_name (i := 5) (storeOk (by kernel_rfl) (.inr (by kernel_rfl))) (by simp) (Nat.le_of_ble_eq_true rfl) ?_
    show EvTs _ [.imm (PyData.int (phrase)), .imm (PyData.int (times)), .imm (PyData.int (cycle)), .imm (PyData.int (start)), .imm (PyData.int (most)), .imm (PyData.int (rest'))] _ _
    refine evts_one ?_
    refine CmpK.t (kEq rfl) ?_ rfl
    refine Ev.o (ev_call F_end_from (globOk (by kernel_rfl)) (Nat.le_of_ble_eq_true rfl) rfl ?_)
    refine eva_cons ?_
    refine ev_tup ?_
    refine eva_cons ?_
    refine ev_var (i := 0) (nameOk (by kernel_rfl)) rfl ?_
    refine eva_cons ?_
    refine ev_var (i := 5) (nameOk (by kernel_rfl)) rfl ?_
    refine eva_cons ?_
    refine ev_var (i := 1) (nameOk (by kernel_rfl)) rfl ?_
    refine eva_nil ?_
    refine ⟨szOk (show 3 ≤ 1000000 by omega), ?_⟩
    refine eva_cons ?_
    refine ev_var (i := 2) (nameOk (by kernel_rfl)) rfl ?_
    refine eva_cons ?_
    refine ev_var (i := 3) (nameOk (by kernel_rfl)) rfl ?_
    refine eva_nil ?_
    refine ⟨rfl, (phrase, rest', times), cycle, start, rfl, (by walk_at "pre"), ?_⟩
    refine Ev.o (ev_int ?_)
    refine ⟨decide ((end_from (phrase, rest', times) cycle start) = 0), cdEq cd_int.o (by decide) (end_from (phrase, rest', times) cycle start) 0, ?_⟩
    refine ⟨rfl, fun (hc2 : (decide ((end_from (phrase, rest', times) cycle start) = 0)) = true) => ?_⟩
    refine ev_var (i := 5) (nameOk (by kernel_rfl)) rfl ?_
    rfl
  have q := p
  exact q
theorem fe_rests_for (T : Tx G e_NoSuch) (Df : DefE G "rests_for" s_rests_for ["phrase", "times", "cycle", "start", "most"]) (F_end_from : FnE G "end_from" ["plan", "cycle", "start"] 2 (spP G.K G.tabs 3 S_end_from)) : FnE G "rests_for" ["phrase", "times", "cycle", "start", "most"] 3 (spP G.K G.tabs 5 S_rests_for) := by
  obtain ⟨f, fd, Fu, gl, hb⟩ := Df
  exact fnE_P Fu sc_rests_for gl hb fun cd ds Post EX _ h => w_rests_for T F_end_from cd ds Post EX h
theorem sc_phrases_for : FnScope N_phrases_for ["rest", "times", "cycle", "start", "most"] (defScope s_phrases_for) := ⟨rfl, rfl, rfl, by decide +kernel, rfl, by decide +kernel, by decide +kernel⟩
set_option maxHeartbeats 4000000 in
theorem w_phrases_for (T : Tx G e_NoSuch) (F_end_from : FnE G "end_from" ["plan", "cycle", "start"] 2 (spP G.K G.tabs 3 S_end_from)) (cd : Value) (ds : List D) (Post : D → Prop) (EX : Addr → Prop) (h0 : S_phrases_for ds Post EX) : Sts (G.cfg N_phrases_for s_phrases_for 2 cd) (slots0 N_phrases_for ds) (defBody s_phrases_for) { nx := fun _ => Post .none, rt := Post, ex := fun c _ => EX c } := by
  obtain ⟨rest', times, cycle, start, most, rfl, hpre, p⟩ := h0
  have p : Post (PyData.list ((((((rng 1 (((most + 1) - 1 : Int)).toNat)).filter (fun phrase : Int => decide ((end_from (phrase, rest', times) cycle start) = 0))).map (fun phrase : Int => phrase))).map PyData.int)) := p
  show Sts _ [.imm (PyData.int (rest')), .imm (PyData.int (times)), .imm (PyData.int (cycle)), .imm (PyData.int (start)), .imm (PyData.int (most)), .any] _ _
  refine sts_cons (st_ret ?_)
  refine ev_ofL (EvLc.l rfl (blkOk (by kernel_rfl)) (evl_lcT (α := Int) (β := Int) [("phrase", 5)] PyData.int PyData.int (free_of rfl) ?_))
  refine EvIt.o (eit_range2 (globOk (by kernel_rfl)) T.z_range ?_)
  refine Ev.o (ev_int ?_)
  refine ⟨1, rfl, (by walk_at "side"), (by walk_at "side"), ?_⟩
  refine Ev.o (ev_add ?_)
  refine Ev.o (ev_var (i := 4) (nameOk (by kernel_rfl)) rfl ?_)
  refine ⟨most, rfl, ?_⟩
  refine Ev.o (ev_int ?_)
  refine ⟨1, rfl, ?_⟩
  refine ⟨(most + 1), rfl, (by walk_at "side"), (by walk_at "side"), ?_⟩
  refine ⟨(rng 1 (((most + 1) - 1 : Int)).toNat), rfl, (by walk_at "size"), (fun phrase : Int => decide ((end_from (phrase, rest', times) cycle start) = 0)), (fun phrase : Int => phrase), ?_, ?_⟩
  · intro phrase hx1
    have hx1b := mem_rng hx1
    refine evg_name (i := 5) (storeOk (by kernel_rfl) (.inr (by kernel_rfl))) (by simp) (Nat.le_of_ble_eq_true rfl) ?_
    show EvTs _ [.imm (PyData.int (rest')), .imm (PyData.int (times)), .imm (PyData.int (cycle)), .imm (PyData.int (start)), .imm (PyData.int (most)), .imm (PyData.int (phrase))] _ _
    refine evts_one ?_
    refine CmpK.t (kEq rfl) ?_ rfl
    refine Ev.o (ev_call F_end_from (globOk (by kernel_rfl)) (Nat.le_of_ble_eq_true rfl) rfl ?_)
    refine eva_cons ?_
    refine ev_tup ?_
    refine eva_cons ?_
    refine ev_var (i := 5) (nameOk (by kernel_rfl)) rfl ?_
    refine eva_cons ?_
    refine ev_var (i := 0) (nameOk (by kernel_rfl)) rfl ?_
    refine eva_cons ?_
    refine ev_var (i := 1) (nameOk (by kernel_rfl)) rfl ?_
    refine eva_nil ?_
    refine ⟨szOk (show 3 ≤ 1000000 by omega), ?_⟩
    refine eva_cons ?_
    refine ev_var (i := 2) (nameOk (by kernel_rfl)) rfl ?_
    refine eva_cons ?_
    refine ev_var (i := 3) (nameOk (by kernel_rfl)) rfl ?_
    refine eva_nil ?_
    refine ⟨rfl, (phrase, rest', times), cycle, start, rfl, (by walk_at "pre"), ?_⟩
    refine Ev.o (ev_int ?_)
    refine ⟨decide ((end_from (phrase, rest', times) cycle start) = 0), cdEq cd_int.o (by decide) (end_from (phrase, rest', times) cycle start) 0, ?_⟩
    refine ⟨rfl, fun (hc2 : (decide ((end_from (phrase, rest', times) cycle start) = 0)) = true) => ?_⟩
    refine ev_var (i := 5) (nameOk (by kernel_rfl)) rfl ?_
    rfl
  have q := p
  exact q
theorem fe_phrases_for (T : Tx G e_NoSuch) (Df : DefE G "phrases_for" s_phrases_for ["rest", "times", "cycle", "start", "most"]) (F_end_from : FnE G "end_from" ["plan", "cycle", "start"] 2 (spP G.K G.tabs 3 S_end_from)) : FnE G "phrases_for" ["rest", "times", "cycle", "start", "most"] 3 (spP G.K G.tabs 5 S_phrases_for) := by
  obtain ⟨f, fd, Fu, gl, hb⟩ := Df
  exact fnE_P Fu sc_phrases_for gl hb fun cd ds Post EX _ h => w_phrases_for T F_end_from cd ds Post EX h
theorem sc_plans_filling : FnScope N_plans_filling ["times", "cycle", "cycles"] (defScope s_plans_filling) := ⟨rfl, rfl, rfl, by decide +kernel, rfl, by decide +kernel, by decide +kernel⟩
set_option maxHeartbeats 4000000 in
theorem w_plans_filling (T : Tx G e_NoSuch) (cd : Value) (ds : List D) (Post : D → Prop) (EX : Addr → Prop) (h0 : S_plans_filling ds Post EX) : Sts (G.cfg N_plans_filling s_plans_filling 0 cd) (slots0 N_plans_filling ds) (defBody s_plans_filling) { nx := fun _ => Post .none, rt := Post, ex := fun c _ => EX c } := by
  obtain ⟨times, cycle, cycles, rfl, hpre, p⟩ := h0
  have hb1 := mul_bd (a := cycle) (b := cycles) (by omega) (A := 1000) (by omega) (by omega) (B := 1000) (by omega)
  have hb2 := div_bd (a := cycle * cycles + 1) (b := times) (A := 1000001) (by omega) (by omega) (by omega)
  have p : Post (PyData.list (((((rng 1 ((((((cycle * cycles) + 1) / times) + 1) - 1 : Int)).toNat)).foldl (fun (s1 : (List (Int × Int × Int))) (phrase : Int) => (cond (decide (((((cycle * cycles) + 1) - (phrase * times)) % (times - 1)) = 0)) (s1 ++ [(phrase, ((((cycle * cycles) + 1) - (phrase * times)) / (times - 1)), times)]) s1)) ([] : (List (Int × Int × Int))))).map (fun y : (Int × Int × Int) => PyData.tuple [PyData.int ((y).1), PyData.int ((y).2.1), PyData.int ((y).2.2)]))) := p
  show Sts _ [.imm (PyData.int (times)), .imm (PyData.int (cycle)), .imm (PyData.int (cycles)), .any, .any, .any, .any] _ _
  refine sts_cons (st_set (i := 3) (storeOk (by kernel_rfl) (.inl rfl)) (Nat.le_of_ble_eq_true rfl) ?_)
  refine ev_add ?_
  refine Ev.o (ev_mul ?_)
  refine Ev.o (ev_var (i := 1) (nameOk (by kernel_rfl)) rfl ?_)
  refine ⟨cycle, rfl, ?_⟩
  refine Ev.o (ev_var (i := 2) (nameOk (by kernel_rfl)) rfl ?_)
  refine ⟨cycles, rfl, (by walk_at "mul"), ?_⟩
  refine ⟨(cycle * cycles), rfl, ?_⟩
  refine Ev.o (ev_int ?_)
  refine ⟨1, rfl, ?_⟩
  show Sts _ [.imm (PyData.int (times)), .imm (PyData.int (cycle)), .imm (PyData.int (cycles)), .imm (PyData.int (((cycle * cycles) + 1))), .any, .any, .any] _ _
  refine sts_cons (st_setL (i := 4) (storeOk (by kernel_rfl) (.inl rfl)) (Nat.le_of_ble_eq_true rfl) ?_)
  refine evl_lst ?_
  refine eva_nil ?_
  refine ⟨szOk (show 0 ≤ 1000000 by omega), ?_⟩
  show Sts _ [.imm (PyData.int (times)), .imm (PyData.int (cycle)), .imm (PyData.int (cycles)), .imm (PyData.int (((cycle * cycles) + 1))), .own ((([] : (List (Int × Int × Int)))).map (fun y : (Int × Int × Int) => PyData.tuple [PyData.int ((y).1), PyData.int ((y).2.1), PyData.int ((y).2.2)])), .any, .any] _ _
  refine sts_cons (st_forD (α := Int) (β := (List (Int × Int × Int))) rfl ?_)
  refine eit_range2 (globOk (by kernel_rfl)) T.z_range ?_
  refine Ev.o (ev_int ?_)
  refine ⟨1, rfl, (by walk_at "side"), (by walk_at "side"), ?_⟩
  refine Ev.o (ev_add ?_)
  refine Ev.o (ev_fdiv ?_)
  refine Ev.o (ev_var (i := 3) (nameOk (by kernel_rfl)) rfl ?_)
  refine ⟨((cycle * cycles) + 1), rfl, ?_⟩
  refine Ev.o (ev_var (i := 0) (nameOk (by kernel_rfl)) rfl ?_)
  refine ⟨times, rfl, (by walk_at "div"), ?_⟩
  refine ⟨(((cycle * cycles) + 1) / times), rfl, ?_⟩
  refine Ev.o (ev_int ?_)
  refine ⟨1, rfl, ?_⟩
  refine ⟨((((cycle * cycles) + 1) / times) + 1), rfl, (by walk_at "side"), (by walk_at "side"), ?_⟩
  refine ⟨(rng 1 ((((((cycle * cycles) + 1) / times) + 1) - 1 : Int)).toNat), PyData.int, rfl, (fun s1 : (List (Int × Int × Int)) => [.imm (PyData.int (times)), .imm (PyData.int (cycle)), .imm (PyData.int (cycles)), .imm (PyData.int (((cycle * cycles) + 1))), .own ((s1).map (fun y : (Int × Int × Int) => PyData.tuple [PyData.int ((y).1), PyData.int ((y).2.1), PyData.int ((y).2.2)])), .any, .any]), (fun (i : Nat) (s1 : (List (Int × Int × Int))) => (s1).length ≤ i), (fun (s1 : (List (Int × Int × Int))) (phrase : Int) => (cond (decide (((((cycle * cycles) + 1) - (phrase * times)) % (times - 1)) = 0)) (s1 ++ [(phrase, ((((cycle * cycles) + 1) - (phrase * times)) / (times - 1)), times)]) s1)), ([] : (List (Int × Int × Int))), ⟨.inl rfl, ⟨.inl rfl, ⟨.inl rfl, ⟨.inl rfl, ⟨.inl rfl, ⟨.inl rfl, ⟨.inl rfl, trivial⟩⟩⟩⟩⟩⟩⟩, (by walk_at "inv"), ?_, fun hf7 => ?_⟩
  · intro i2 phrase s1 hx3 hi4
    have hi4 : (s1).length ≤ i2 := hi4
    have hx3m := List.mem_of_getElem? hx3
    have hx3b := rng_get hx3
    refine ⟨[5], ?_⟩
    refine evg_name (i := 5) (storeOk (by kernel_rfl) (.inl rfl)) (by simp) (Nat.le_of_ble_eq_true rfl) ?_
    show Sts _ [.imm (PyData.int (times)), .imm (PyData.int (cycle)), .imm (PyData.int (cycles)), .imm (PyData.int (((cycle * cycles) + 1))), .own ((s1).map (fun y : (Int × Int × Int) => PyData.tuple [PyData.int ((y).1), PyData.int ((y).2.1), PyData.int ((y).2.2)])), .imm (PyData.int (phrase)), .any] _ _
    refine sts_cons (st_set (i := 6) (storeOk (by kernel_rfl) (.inl rfl)) (Nat.le_of_ble_eq_true rfl) ?_)
    refine ev_sub ?_
    refine Ev.o (ev_var (i := 3) (nameOk (by kernel_rfl)) rfl ?_)
    refine ⟨((cycle * cycles) + 1), rfl, ?_⟩
    refine Ev.o (ev_mul ?_)
    refine Ev.o (ev_var (i := 5) (nameOk (by kernel_rfl)) rfl ?_)
    refine ⟨phrase, rfl, ?_⟩
    refine Ev.o (ev_var (i := 0) (nameOk (by kernel_rfl)) rfl ?_)
    refine ⟨times, rfl, (by walk_at "mul"), ?_⟩
    refine ⟨(phrase * times), rfl, ?_⟩
    show Sts _ [.imm (PyData.int (times)), .imm (PyData.int (cycle)), .imm (PyData.int (cycles)), .imm (PyData.int (((cycle * cycles) + 1))), .own ((s1).map (fun y : (Int × Int × Int) => PyData.tuple [PyData.int ((y).1), PyData.int ((y).2.1), PyData.int ((y).2.2)])), .imm (PyData.int (phrase)), .imm (PyData.int ((((cycle * cycles) + 1) - (phrase * times))))] _ _
    refine sts_cons (st_if ?_)
    refine CmpK.t (kEq rfl) ?_ rfl
    refine Ev.o (ev_mod ?_)
    refine Ev.o (ev_var (i := 6) (nameOk (by kernel_rfl)) rfl ?_)
    refine ⟨(((cycle * cycles) + 1) - (phrase * times)), rfl, ?_⟩
    refine Ev.o (ev_sub ?_)
    refine Ev.o (ev_var (i := 0) (nameOk (by kernel_rfl)) rfl ?_)
    refine ⟨times, rfl, ?_⟩
    refine Ev.o (ev_int ?_)
    refine ⟨1, rfl, ?_⟩
    refine ⟨(times - 1), rfl, (by walk_at "side"), ?_⟩
    refine Ev.o (ev_int ?_)
    refine ⟨decide (((((cycle * cycles) + 1) - (phrase * times)) % (times - 1)) = 0), cdEq cd_int.o (by decide) ((((cycle * cycles) + 1) - (phrase * times)) % (times - 1)) 0, ?_⟩
    refine ⟨fun (h6 : (decide (((((cycle * cycles) + 1) - (phrase * times)) % (times - 1)) = 0)) = true) => ?_, fun (h6 : (decide (((((cycle * cycles) + 1) - (phrase * times)) % (times - 1)) = 0)) = false) => ?_⟩
    · refine sts_cons (st_append (i := 4) (ds := (s1).map (fun y : (Int × Int × Int) => PyData.tuple [PyData.int ((y).1), PyData.int ((y).2.1), PyData.int ((y).2.2)])) (nameOk (by kernel_rfl)) rfl (by walk_at "size") ?_)
      refine ev_tup ?_
      refine eva_cons ?_
      refine ev_var (i := 5) (nameOk (by kernel_rfl)) rfl ?_
      refine eva_cons ?_
      refine ev_fdiv ?_
      refine Ev.o (ev_var (i := 6) (nameOk (by kernel_rfl)) rfl ?_)
      refine ⟨(((cycle * cycles) + 1) - (phrase * times)), rfl, ?_⟩
      refine Ev.o (ev_sub ?_)
      refine Ev.o (ev_var (i := 0) (nameOk (by kernel_rfl)) rfl ?_)
      refine ⟨times, rfl, ?_⟩
      refine Ev.o (ev_int ?_)
      refine ⟨1, rfl, ?_⟩
      refine ⟨(times - 1), rfl, (by walk_at "div"), ?_⟩
      refine eva_cons ?_
      refine ev_var (i := 0) (nameOk (by kernel_rfl)) rfl ?_
      refine eva_nil ?_
      refine ⟨szOk (show 3 ≤ 1000000 by omega), ?_⟩
      refine own_app (i := 4) s1 ((phrase, ((((cycle * cycles) + 1) - (phrase * times)) / (times - 1)), times)) (fun y : (Int × Int × Int) => PyData.tuple [PyData.int ((y).1), PyData.int ((y).2.1), PyData.int ((y).2.2)]) ?_
      show Sts _ [.imm (PyData.int (times)), .imm (PyData.int (cycle)), .imm (PyData.int (cycles)), .imm (PyData.int (((cycle * cycles) + 1))), .own (((s1 ++ [(phrase, ((((cycle * cycles) + 1) - (phrase * times)) / (times - 1)), times)])).map (fun y : (Int × Int × Int) => PyData.tuple [PyData.int ((y).1), PyData.int ((y).2.1), PyData.int ((y).2.2)])), .imm (PyData.int (phrase)), .imm (PyData.int ((((cycle * cycles) + 1) - (phrase * times))))] _ _
      refine sts_nil ?_
      show Sts _ [.imm (PyData.int (times)), .imm (PyData.int (cycle)), .imm (PyData.int (cycles)), .imm (PyData.int (((cycle * cycles) + 1))), .own (((s1 ++ [(phrase, ((((cycle * cycles) + 1) - (phrase * times)) / (times - 1)), times)])).map (fun y : (Int × Int × Int) => PyData.tuple [PyData.int ((y).1), PyData.int ((y).2.1), PyData.int ((y).2.2)])), .imm (PyData.int (phrase)), .imm (PyData.int ((((cycle * cycles) + 1) - (phrase * times))))] _ _
      refine sts_nil ?_
      show Weak [.imm (PyData.int (times)), .imm (PyData.int (cycle)), .imm (PyData.int (cycles)), .imm (PyData.int (((cycle * cycles) + 1))), .own (((s1 ++ [(phrase, ((((cycle * cycles) + 1) - (phrase * times)) / (times - 1)), times)])).map (fun y : (Int × Int × Int) => PyData.tuple [PyData.int ((y).1), PyData.int ((y).2.1), PyData.int ((y).2.2)])), .imm (PyData.int (phrase)), .imm (PyData.int ((((cycle * cycles) + 1) - (phrase * times))))] [.imm (PyData.int (times)), .imm (PyData.int (cycle)), .imm (PyData.int (cycles)), .imm (PyData.int (((cycle * cycles) + 1))), .own (((cond (decide (((((cycle * cycles) + 1) - (phrase * times)) % (times - 1)) = 0)) (s1 ++ [(phrase, ((((cycle * cycles) + 1) - (phrase * times)) / (times - 1)), times)]) s1)).map (fun y : (Int × Int × Int) => PyData.tuple [PyData.int ((y).1), PyData.int ((y).2.1), PyData.int ((y).2.2)])), .any, .any] ∧ ((cond (decide (((((cycle * cycles) + 1) - (phrase * times)) % (times - 1)) = 0)) (s1 ++ [(phrase, ((((cycle * cycles) + 1) - (phrase * times)) / (times - 1)), times)]) s1)).length ≤ (i2 + 1)
      rw [h6]
      exact ⟨⟨.inl rfl, ⟨.inl rfl, ⟨.inl rfl, ⟨.inl rfl, ⟨.inl rfl, ⟨.inr rfl, ⟨.inr rfl, trivial⟩⟩⟩⟩⟩⟩⟩, (by walk_at "inv")⟩
    · refine sts_nil ?_
      show Sts _ [.imm (PyData.int (times)), .imm (PyData.int (cycle)), .imm (PyData.int (cycles)), .imm (PyData.int (((cycle * cycles) + 1))), .own ((s1).map (fun y : (Int × Int × Int) => PyData.tuple [PyData.int ((y).1), PyData.int ((y).2.1), PyData.int ((y).2.2)])), .imm (PyData.int (phrase)), .imm (PyData.int ((((cycle * cycles) + 1) - (phrase * times))))] _ _
      refine sts_nil ?_
      show Weak [.imm (PyData.int (times)), .imm (PyData.int (cycle)), .imm (PyData.int (cycles)), .imm (PyData.int (((cycle * cycles) + 1))), .own ((s1).map (fun y : (Int × Int × Int) => PyData.tuple [PyData.int ((y).1), PyData.int ((y).2.1), PyData.int ((y).2.2)])), .imm (PyData.int (phrase)), .imm (PyData.int ((((cycle * cycles) + 1) - (phrase * times))))] [.imm (PyData.int (times)), .imm (PyData.int (cycle)), .imm (PyData.int (cycles)), .imm (PyData.int (((cycle * cycles) + 1))), .own (((cond (decide (((((cycle * cycles) + 1) - (phrase * times)) % (times - 1)) = 0)) (s1 ++ [(phrase, ((((cycle * cycles) + 1) - (phrase * times)) / (times - 1)), times)]) s1)).map (fun y : (Int × Int × Int) => PyData.tuple [PyData.int ((y).1), PyData.int ((y).2.1), PyData.int ((y).2.2)])), .any, .any] ∧ ((cond (decide (((((cycle * cycles) + 1) - (phrase * times)) % (times - 1)) = 0)) (s1 ++ [(phrase, ((((cycle * cycles) + 1) - (phrase * times)) / (times - 1)), times)]) s1)).length ≤ (i2 + 1)
      rw [h6]
      exact ⟨⟨.inl rfl, ⟨.inl rfl, ⟨.inl rfl, ⟨.inl rfl, ⟨.inl rfl, ⟨.inr rfl, ⟨.inr rfl, trivial⟩⟩⟩⟩⟩⟩⟩, (by walk_at "inv")⟩
  have hf7 : ((((rng 1 ((((((cycle * cycles) + 1) / times) + 1) - 1 : Int)).toNat)).foldl (fun (s1 : (List (Int × Int × Int))) (phrase : Int) => (cond (decide (((((cycle * cycles) + 1) - (phrase * times)) % (times - 1)) = 0)) (s1 ++ [(phrase, ((((cycle * cycles) + 1) - (phrase * times)) / (times - 1)), times)]) s1)) ([] : (List (Int × Int × Int))))).length ≤ ((rng 1 ((((((cycle * cycles) + 1) / times) + 1) - 1 : Int)).toNat)).length := hf7
  show Sts _ [.imm (PyData.int (times)), .imm (PyData.int (cycle)), .imm (PyData.int (cycles)), .imm (PyData.int (((cycle * cycles) + 1))), .own (((((rng 1 ((((((cycle * cycles) + 1) / times) + 1) - 1 : Int)).toNat)).foldl (fun (s1 : (List (Int × Int × Int))) (phrase : Int) => (cond (decide (((((cycle * cycles) + 1) - (phrase * times)) % (times - 1)) = 0)) (s1 ++ [(phrase, ((((cycle * cycles) + 1) - (phrase * times)) / (times - 1)), times)]) s1)) ([] : (List (Int × Int × Int))))).map (fun y : (Int × Int × Int) => PyData.tuple [PyData.int ((y).1), PyData.int ((y).2.1), PyData.int ((y).2.2)])), .any, .any] _ _
  refine sts_freeze 4 rfl ?_
  show Sts _ [.imm (PyData.int (times)), .imm (PyData.int (cycle)), .imm (PyData.int (cycles)), .imm (PyData.int (((cycle * cycles) + 1))), .imm (PyData.list (((((rng 1 ((((((cycle * cycles) + 1) / times) + 1) - 1 : Int)).toNat)).foldl (fun (s1 : (List (Int × Int × Int))) (phrase : Int) => (cond (decide (((((cycle * cycles) + 1) - (phrase * times)) % (times - 1)) = 0)) (s1 ++ [(phrase, ((((cycle * cycles) + 1) - (phrase * times)) / (times - 1)), times)]) s1)) ([] : (List (Int × Int × Int))))).map (fun y : (Int × Int × Int) => PyData.tuple [PyData.int ((y).1), PyData.int ((y).2.1), PyData.int ((y).2.2)]))), .any, .any] _ _
  refine sts_cons (st_ret ?_)
  refine ev_var (i := 4) (nameOk (by kernel_rfl)) rfl ?_
  have q := p
  exact q
theorem fe_plans_filling (T : Tx G e_NoSuch) (Df : DefE G "plans_filling" s_plans_filling ["times", "cycle", "cycles"]) : FnE G "plans_filling" ["times", "cycle", "cycles"] 1 (spP G.K G.tabs 3 S_plans_filling) := by
  obtain ⟨f, fd, Fu, gl, hb⟩ := Df
  exact fnE_P Fu sc_plans_filling gl hb fun cd ds Post EX _ h => w_plans_filling T cd ds Post EX h
theorem sc_strokes_at : FnScope N_strokes_at ["plan", "cycle", "start"] (defScope s_strokes_at) := ⟨rfl, rfl, rfl, by decide +kernel, rfl, by decide +kernel, by decide +kernel⟩
set_option maxHeartbeats 4000000 in
theorem w_strokes_at (T : Tx G e_NoSuch) (cd : Value) (ds : List D) (Post : D → Prop) (EX : Addr → Prop) (h0 : S_strokes_at ds Post EX) : Sts (G.cfg N_strokes_at s_strokes_at 0 cd) (slots0 N_strokes_at ds) (defBody s_strokes_at) { nx := fun _ => Post .none, rt := Post, ex := fun c _ => EX c } := by
  obtain ⟨plan, cycle, start, rfl, hpre, p⟩ := h0
  have p : Post (PyData.tuple (((((rng 0 (((plan).2.2 : Int)).toNat)).map (fun number : Int => ((start + (number * ((plan).1 + (plan).2.1))) % cycle)))).map PyData.int)) := p
  show Sts _ [.imm (PyData.tuple [PyData.int ((plan).1), PyData.int ((plan).2.1), PyData.int ((plan).2.2)]), .imm (PyData.int (cycle)), .imm (PyData.int (start)), .any, .any, .any, .any] _ _
  refine sts_cons (st_asg (vs := [3, 4, 5]) ?_)
  refine ev_var (i := 0) (nameOk (by kernel_rfl)) rfl ?_
  refine evg_tup rfl (plains_of rfl) rfl ?_
  refine ⟨_, _, rfl, ?_⟩
  refine evg_name (i := 3) (storeOk (by kernel_rfl) (.inl rfl)) (by simp) (Nat.le_of_ble_eq_true rfl) ?_
  refine ⟨_, _, rfl, ?_⟩
  refine evg_name (i := 4) (storeOk (by kernel_rfl) (.inl rfl)) (by simp) (Nat.le_of_ble_eq_true rfl) ?_
  refine ⟨_, _, rfl, ?_⟩
  refine evg_name (i := 5) (storeOk (by kernel_rfl) (.inl rfl)) (by simp) (Nat.le_of_ble_eq_true rfl) ?_
  refine ⟨rfl, ?_⟩
  show Sts _ [.imm (PyData.tuple [PyData.int ((plan).1), PyData.int ((plan).2.1), PyData.int ((plan).2.2)]), .imm (PyData.int (cycle)), .imm (PyData.int (start)), .imm (PyData.int ((plan).1)), .imm (PyData.int ((plan).2.1)), .imm (PyData.int ((plan).2.2)), .any] _ _
  refine sts_cons (st_ret ?_)
  refine ev_tuple (globOk (by kernel_rfl)) T.z_tuple ?_
  refine Ev.o (ev_ofL (EvLc.l rfl (blkOk (by kernel_rfl)) (evl_lcTM (α := Int) (β := Int) [("number", 6)] PyData.int PyData.int (free_of rfl) ?_)))
  refine EvIt.o (eit_range1 (globOk (by kernel_rfl)) T.z_range ?_)
  refine Ev.o (ev_var (i := 5) (nameOk (by kernel_rfl)) rfl ?_)
  refine ⟨(plan).2.2, rfl, (by walk_at "side"), (by walk_at "side"), ?_⟩
  refine ⟨(rng 0 (((plan).2.2 : Int)).toNat), rfl, (by walk_at "size"), (fun number : Int => ((start + (number * ((plan).1 + (plan).2.1))) % cycle)), ?_, ?_⟩
  · intro number hx1
    have hx1b := mem_rng hx1
    refine evg_name (i := 6) (storeOk (by kernel_rfl) (.inr (by kernel_rfl))) (by simp) (Nat.le_of_ble_eq_true rfl) ?_
    show Ev _ [.imm (PyData.tuple [PyData.int ((plan).1), PyData.int ((plan).2.1), PyData.int ((plan).2.2)]), .imm (PyData.int (cycle)), .imm (PyData.int (start)), .imm (PyData.int ((plan).1)), .imm (PyData.int ((plan).2.1)), .imm (PyData.int ((plan).2.2)), .imm (PyData.int (number))] _ _
    refine ev_mod ?_
    refine Ev.o (ev_add ?_)
    refine Ev.o (ev_var (i := 2) (nameOk (by kernel_rfl)) rfl ?_)
    refine ⟨start, rfl, ?_⟩
    refine Ev.o (ev_mul ?_)
    refine Ev.o (ev_var (i := 6) (nameOk (by kernel_rfl)) rfl ?_)
    refine ⟨number, rfl, ?_⟩
    refine Ev.o (ev_add ?_)
    refine Ev.o (ev_var (i := 3) (nameOk (by kernel_rfl)) rfl ?_)
    refine ⟨(plan).1, rfl, ?_⟩
    refine Ev.o (ev_var (i := 4) (nameOk (by kernel_rfl)) rfl ?_)
    refine ⟨(plan).2.1, rfl, ?_⟩
    refine ⟨((plan).1 + (plan).2.1), rfl, (by walk_at "mul"), ?_⟩
    refine ⟨(number * ((plan).1 + (plan).2.1)), rfl, ?_⟩
    refine ⟨(start + (number * ((plan).1 + (plan).2.1))), rfl, ?_⟩
    refine Ev.o (ev_var (i := 1) (nameOk (by kernel_rfl)) rfl ?_)
    refine ⟨cycle, rfl, (by walk_at "side"), ?_⟩
    rfl
  refine ⟨rfl, ?_⟩
  have q := p
  exact q
theorem fe_strokes_at (T : Tx G e_NoSuch) (Df : DefE G "strokes_at" s_strokes_at ["plan", "cycle", "start"]) : FnE G "strokes_at" ["plan", "cycle", "start"] 1 (spP G.K G.tabs 3 S_strokes_at) := by
  obtain ⟨f, fd, Fu, gl, hb⟩ := Df
  exact fnE_P Fu sc_strokes_at gl hb fun cd ds Post EX _ h => w_strokes_at T cd ds Post EX h
theorem sc_is_sounding : FnScope N_is_sounding ["plan", "place"] (defScope s_is_sounding) := ⟨rfl, rfl, rfl, by decide +kernel, rfl, by decide +kernel, by decide +kernel⟩
set_option maxHeartbeats 4000000 in
theorem w_is_sounding (T : Tx G e_NoSuch) (F_length_of : FnE G "length_of" ["plan"] 1 (spP G.K G.tabs 1 S_length_of)) (cd : Value) (ds : List D) (Post : D → Prop) (EX : Addr → Prop) (h0 : S_is_sounding e_NoSuch ds Post EX) : Sts (G.cfg N_is_sounding s_is_sounding 1 cd) (slots0 N_is_sounding ds) (defBody s_is_sounding) { nx := fun _ => Post .none, rt := Post, ex := fun c _ => EX c } := by
  obtain ⟨plan, place, rfl, hpre, p⟩ := h0
  have p : (∀ v, (cond ((!(decide (0 ≤ place) && decide (place < (length_of plan))))) (none : Option Bool) (some (decide ((place % ((plan).1 + (plan).2.1)) < (plan).1)))) = some v → Post (PyData.bool (v))) ∧ ((cond ((!(decide (0 ≤ place) && decide (place < (length_of plan))))) (none : Option Bool) (some (decide ((place % ((plan).1 + (plan).2.1)) < (plan).1)))) = none → EX e_NoSuch) := p
  show Sts _ [.imm (PyData.tuple [PyData.int ((plan).1), PyData.int ((plan).2.1), PyData.int ((plan).2.2)]), .imm (PyData.int (place))] _ _
  refine sts_cons (st_if ?_)
  refine evt_not ?_
  refine evt_det ((decide (0 ≤ place) && decide (place < (length_of plan)))) ?_ ?_
  · refine evt_chain kLe kLt ?_ rfl
    refine Ev.o (ev_int ?_)
    refine Ev.o (ev_var (i := 1) (nameOk (by kernel_rfl)) rfl ?_)
    refine ⟨decide (0 ≤ place), ⟨0, place, rfl, rfl, rfl⟩, fun (hk1 : (decide (0 ≤ place)) = true) => ?_, fun (hk1 : (decide (0 ≤ place)) = false) => by rw [hk1] <;> rfl⟩
    refine Ev.o (ev_call F_length_of (globOk (by kernel_rfl)) (Nat.le_of_ble_eq_true rfl) rfl ?_)
    refine eva_cons ?_
    refine ev_var (i := 0) (nameOk (by kernel_rfl)) rfl ?_
    refine eva_nil ?_
    refine ⟨rfl, plan, rfl, (by walk_at "pre"), ?_⟩
    refine ⟨decide (place < (length_of plan)), ⟨place, (length_of plan), rfl, rfl, rfl⟩, ?_⟩
    rw [hk1] <;> rfl
  refine ⟨fun (h2 : ((!(decide (0 ≤ place) && decide (place < (length_of plan))))) = true) => ?_, fun (h2 : ((!(decide (0 ≤ place) && decide (place < (length_of plan))))) = false) => ?_⟩
  · refine sts_cons (st_raise0 rfl T.x_NoSuch (globOk (by kernel_rfl)) ?_)
    exact p.2 (by rw [h2] <;> rfl)
  · refine sts_nil ?_
    show Sts _ [.imm (PyData.tuple [PyData.int ((plan).1), PyData.int ((plan).2.1), PyData.int ((plan).2.2)]), .imm (PyData.int (place))] _ _
    refine sts_cons (st_ret ?_)
    refine CmpK.ev kLt ?_ rfl
    refine Ev.o (ev_mod ?_)
    refine Ev.o (ev_var (i := 1) (nameOk (by kernel_rfl)) rfl ?_)
    refine ⟨place, rfl, ?_⟩
    refine Ev.o (ev_add ?_)
    refine Ev.o (ev_ix ?_)
    refine Ev.o (ev_var (i := 0) (nameOk (by kernel_rfl)) rfl ?_)
    refine ⟨rfl, ?_⟩
    refine Ev.o (ev_int ?_)
    refine ⟨0, PyData.int ((plan).1), rfl, rfl, ?_⟩
    refine ⟨(plan).1, rfl, ?_⟩
    refine Ev.o (ev_ix ?_)
    refine Ev.o (ev_var (i := 0) (nameOk (by kernel_rfl)) rfl ?_)
    refine ⟨rfl, ?_⟩
    refine Ev.o (ev_int ?_)
    refine ⟨1, PyData.int ((plan).2.1), rfl, rfl, ?_⟩
    refine ⟨(plan).2.1, rfl, ?_⟩
    refine ⟨((plan).1 + (plan).2.1), rfl, (by walk_at "side"), ?_⟩
    refine Ev.o (ev_ix ?_)
    refine Ev.o (ev_var (i := 0) (nameOk (by kernel_rfl)) rfl ?_)
    refine ⟨rfl, ?_⟩
    refine Ev.o (ev_int ?_)
    refine ⟨0, PyData.int ((plan).1), rfl, rfl, ?_⟩
    refine ⟨decide ((place % ((plan).1 + (plan).2.1)) < (plan).1), ⟨(place % ((plan).1 + (plan).2.1)), (plan).1, rfl, rfl, rfl⟩, ?_⟩
    exact p.1 (decide ((place % ((plan).1 + (plan).2.1)) < (plan).1)) (by rw [h2] <;> rfl)
theorem fe_is_sounding (T : Tx G e_NoSuch) (Df : DefE G "is_sounding" s_is_sounding ["plan", "place"]) (F_length_of : FnE G "length_of" ["plan"] 1 (spP G.K G.tabs 1 S_length_of)) : FnE G "is_sounding" ["plan", "place"] 2 (spP G.K G.tabs 2 (S_is_sounding e_NoSuch)) := by
  obtain ⟨f, fd, Fu, gl, hb⟩ := Df
  exact fnE_P Fu sc_is_sounding gl hb fun cd ds Post EX _ h => w_is_sounding T F_length_of cd ds Post EX h
theorem sc_row_of : FnScope N_row_of ["plan"] (defScope s_row_of) := ⟨rfl, rfl, rfl, by decide +kernel, rfl, by decide +kernel, by decide +kernel⟩
set_option maxHeartbeats 4000000 in
theorem w_row_of (T : Tx G e_NoSuch) (F_length_of : FnE G "length_of" ["plan"] 1 (spP G.K G.tabs 1 S_length_of)) (F_is_sounding : FnE G "is_sounding" ["plan", "place"] 2 (spP G.K G.tabs 2 (S_is_sounding e_NoSuch))) (cd : Value) (ds : List D) (Post : D → Prop) (EX : Addr → Prop) (h0 : S_row_of ds Post EX) : Sts (G.cfg N_row_of s_row_of 2 cd) (slots0 N_row_of ds) (defBody s_row_of) { nx := fun _ => Post .none, rt := Post, ex := fun c _ => EX c } := by
  obtain ⟨plan, rfl, hpre, p⟩ := h0
  have hb1 := len_bd plan (by omega)
  have p : Post (PyData.tuple (((((rng 0 (((length_of plan) : Int)).toNat)).map (fun place : Int => (if ((is_sounding plan place).getD default) = true then (1 : Int) else 0)))).map PyData.int)) := p
  show Sts _ [.imm (PyData.tuple [PyData.int ((plan).1), PyData.int ((plan).2.1), PyData.int ((plan).2.2)]), .any] _ _
  refine sts_cons (st_ret ?_)
  refine ev_tuple (globOk (by kernel_rfl)) T.z_tuple ?_
  refine Ev.o (ev_ofL (EvLc.l rfl (blkOk (by kernel_rfl)) (evl_lcTM (α := Int) (β := Int) [("place", 1)] PyData.int PyData.int (free_of rfl) ?_)))
  refine EvIt.o (eit_range1 (globOk (by kernel_rfl)) T.z_range ?_)
  refine Ev.o (ev_call F_length_of (globOk (by kernel_rfl)) (Nat.le_of_ble_eq_true rfl) rfl ?_)
  refine eva_cons ?_
  refine ev_var (i := 0) (nameOk (by kernel_rfl)) rfl ?_
  refine eva_nil ?_
  refine ⟨rfl, plan, rfl, (by walk_at "pre"), ?_⟩
  refine ⟨(length_of plan), rfl, (by walk_at "side"), (by walk_at "side"), ?_⟩
  refine ⟨(rng 0 (((length_of plan) : Int)).toNat), rfl, (by walk_at "size"), (fun place : Int => (if ((is_sounding plan place).getD default) = true then (1 : Int) else 0)), ?_, ?_⟩
  · intro place hx1
    have hx1b := mem_rng hx1
    refine evg_name (i := 1) (storeOk (by kernel_rfl) (.inr (by kernel_rfl))) (by simp) (Nat.le_of_ble_eq_true rfl) ?_
    show Ev _ [.imm (PyData.tuple [PyData.int ((plan).1), PyData.int ((plan).2.1), PyData.int ((plan).2.2)]), .imm (PyData.int (place))] _ _
    refine ev_toInt (globOk (by kernel_rfl)) T.z_int ?_
    refine Ev.o (ev_call F_is_sounding (globOk (by kernel_rfl)) (Nat.le_of_ble_eq_true rfl) rfl ?_)
    refine eva_cons ?_
    refine ev_var (i := 0) (nameOk (by kernel_rfl)) rfl ?_
    refine eva_cons ?_
    refine ev_var (i := 1) (nameOk (by kernel_rfl)) rfl ?_
    refine eva_nil ?_
    refine ⟨rfl, plan, place, rfl, (by walk_at "pre"), fun v2 hv3 => ?_, fun hn4 => absurd hn4 (by exact sounding_ok (by omega))⟩
    obtain rfl : v2 = ((is_sounding plan place).getD default) := by rw [hv3] <;> rfl
    refine ⟨(if ((is_sounding plan place).getD default) = true then (1 : Int) else 0), rfl, ?_⟩
    rfl
  refine ⟨rfl, ?_⟩
  have q := p
  exact q
theorem fe_row_of (T : Tx G e_NoSuch) (Df : DefE G "row_of" s_row_of ["plan"]) (F_length_of : FnE G "length_of" ["plan"] 1 (spP G.K G.tabs 1 S_length_of)) (F_is_sounding : FnE G "is_sounding" ["plan", "place"] 2 (spP G.K G.tabs 2 (S_is_sounding e_NoSuch))) : FnE G "row_of" ["plan"] 3 (spP G.K G.tabs 1 S_row_of) := by
  obtain ⟨f, fd, Fu, gl, hb⟩ := Df
  exact fnE_P Fu sc_row_of gl hb fun cd ds Post EX _ h => w_row_of T F_length_of F_is_sounding cd ds Post EX h
theorem sc_nested : FnScope N_nested ["inner", "rest", "times"] (defScope s_nested) := ⟨rfl, rfl, rfl, by decide +kernel, rfl, by decide +kernel, by decide +kernel⟩
set_option maxHeartbeats 4000000 in
theorem w_nested (T : Tx G e_NoSuch) (F_row_of : FnE G "row_of" ["plan"] 3 (spP G.K G.tabs 1 S_row_of)) (cd : Value) (ds : List D) (Post : D → Prop) (EX : Addr → Prop) (h0 : S_nested ds Post EX) : Sts (G.cfg N_nested s_nested 3 cd) (slots0 N_nested ds) (defBody s_nested) { nx := fun _ => Post .none, rt := Post, ex := fun c _ => EX c } := by
  obtain ⟨inner, rest', times, rfl, hpre, p⟩ := h0
  have hb1 := row_bd inner (by omega)
  have p : Post (PyData.tuple (((((rng 0 ((times : Int)).toNat)).foldl (fun (s1 : (List Int)) (number : Int) => ((s1 ++ (row_of inner)) ++ (cond (decide (number < (times - 1))) ((List.replicate (rest').toNat ([0] : (List Int))).flatten) (([] : (List Int)))))) ([] : (List Int)))).map PyData.int)) := p
  show Sts _ [.imm (PyData.tuple [PyData.int ((inner).1), PyData.int ((inner).2.1), PyData.int ((inner).2.2)]), .imm (PyData.int (rest')), .imm (PyData.int (times)), .any, .any, .any] _ _
  refine sts_cons (st_set (i := 3) (storeOk (by kernel_rfl) (.inl rfl)) (Nat.le_of_ble_eq_true rfl) ?_)
  refine ev_call F_row_of (globOk (by kernel_rfl)) (Nat.le_of_ble_eq_true rfl) rfl ?_
  refine eva_cons ?_
  refine ev_var (i := 0) (nameOk (by kernel_rfl)) rfl ?_
  refine eva_nil ?_
  refine ⟨rfl, inner, rfl, (by walk_at "pre"), ?_⟩
  show Sts _ [.imm (PyData.tuple [PyData.int ((inner).1), PyData.int ((inner).2.1), PyData.int ((inner).2.2)]), .imm (PyData.int (rest')), .imm (PyData.int (times)), .imm (PyData.tuple (((row_of inner)).map PyData.int)), .any, .any] _ _
  refine sts_cons (st_set (i := 4) (storeOk (by kernel_rfl) (.inl rfl)) (Nat.le_of_ble_eq_true rfl) ?_)
  refine ev_tup ?_
  refine eva_nil ?_
  refine ⟨szOk (show 0 ≤ 1000000 by omega), ?_⟩
  show Sts _ [.imm (PyData.tuple [PyData.int ((inner).1), PyData.int ((inner).2.1), PyData.int ((inner).2.2)]), .imm (PyData.int (rest')), .imm (PyData.int (times)), .imm (PyData.tuple (((row_of inner)).map PyData.int)), .imm (PyData.tuple ((([] : (List Int))).map PyData.int)), .any] _ _
  refine sts_cons (st_forD (α := Int) (β := (List Int)) rfl ?_)
  refine eit_range1 (globOk (by kernel_rfl)) T.z_range ?_
  refine Ev.o (ev_var (i := 2) (nameOk (by kernel_rfl)) rfl ?_)
  refine ⟨times, rfl, (by walk_at "side"), (by walk_at "side"), ?_⟩
  refine ⟨(rng 0 ((times : Int)).toNat), PyData.int, rfl, (fun s1 : (List Int) => [.imm (PyData.tuple [PyData.int ((inner).1), PyData.int ((inner).2.1), PyData.int ((inner).2.2)]), .imm (PyData.int (rest')), .imm (PyData.int (times)), .imm (PyData.tuple (((row_of inner)).map PyData.int)), .imm (PyData.tuple ((s1).map PyData.int)), .any]), (fun (i : Nat) (s1 : (List Int)) => (s1).length ≤ i * 10000), (fun (s1 : (List Int)) (number : Int) => ((s1 ++ (row_of inner)) ++ (cond (decide (number < (times - 1))) ((List.replicate (rest').toNat ([0] : (List Int))).flatten) (([] : (List Int)))))), ([] : (List Int)), ⟨.inl rfl, ⟨.inl rfl, ⟨.inl rfl, ⟨.inl rfl, ⟨.inl rfl, ⟨.inl rfl, trivial⟩⟩⟩⟩⟩⟩, (by walk_at "inv"), ?_, fun hf7 => ?_⟩
  · intro i2 number s1 hx3 hi4
    have hi4 : (s1).length ≤ i2 * 10000 := hi4
    have hx3m := List.mem_of_getElem? hx3
    have hx3b := rng_get hx3
    refine ⟨[5], ?_⟩
    refine evg_name (i := 5) (storeOk (by kernel_rfl) (.inl rfl)) (by simp) (Nat.le_of_ble_eq_true rfl) ?_
    show Sts _ [.imm (PyData.tuple [PyData.int ((inner).1), PyData.int ((inner).2.1), PyData.int ((inner).2.2)]), .imm (PyData.int (rest')), .imm (PyData.int (times)), .imm (PyData.tuple (((row_of inner)).map PyData.int)), .imm (PyData.tuple ((s1).map PyData.int)), .imm (PyData.int (number))] _ _
    refine sts_cons (st_set (i := 4) (storeOk (by kernel_rfl) (.inl rfl)) (Nat.le_of_ble_eq_true rfl) ?_)
    refine ev_addTT PyData.int ?_
    refine Ev.o (ev_addTT PyData.int ?_)
    refine Ev.o (ev_var (i := 4) (nameOk (by kernel_rfl)) rfl ?_)
    refine ⟨s1, rfl, ?_⟩
    refine Ev.o (ev_var (i := 3) (nameOk (by kernel_rfl)) rfl ?_)
    refine ⟨(row_of inner), rfl, (by walk_at "size"), ?_⟩
    refine ⟨(s1 ++ (row_of inner)), rfl, ?_⟩
    refine Ev.o (ev_det (d0 := PyData.tuple (((cond (decide (number < (times - 1))) ((List.replicate (rest').toNat ([0] : (List Int))).flatten) (([] : (List Int))))).map PyData.int)) ?_ ?_)
    · refine ev_if ?_
      refine CmpK.t kLt ?_ rfl
      refine Ev.o (ev_var (i := 5) (nameOk (by kernel_rfl)) rfl ?_)
      refine Ev.o (ev_sub ?_)
      refine Ev.o (ev_var (i := 2) (nameOk (by kernel_rfl)) rfl ?_)
      refine ⟨times, rfl, ?_⟩
      refine Ev.o (ev_int ?_)
      refine ⟨1, rfl, ?_⟩
      refine ⟨decide (number < (times - 1)), ⟨number, (times - 1), rfl, rfl, rfl⟩, ?_⟩
      refine ⟨fun (hc6 : (decide (number < (times - 1))) = true) => ?_, fun (hc6 : (decide (number < (times - 1))) = false) => ?_⟩
      · refine ev_repTT PyData.int ?_
        refine Ev.o (ev_tup ?_)
        refine eva_cons ?_
        refine ev_int ?_
        refine eva_nil ?_
        refine ⟨szOk (show 1 ≤ 1000000 by omega), ?_⟩
        refine ⟨([0] : (List Int)), rfl, ?_⟩
        refine Ev.o (ev_var (i := 1) (nameOk (by kernel_rfl)) rfl ?_)
        refine ⟨rest', rfl, (by walk_at "side"), (by walk_at "side"), (by walk_at "size"), ?_⟩
        rw [hc6] <;> rfl
      · refine ev_tup ?_
        refine eva_nil ?_
        refine ⟨szOk (show 0 ≤ 1000000 by omega), ?_⟩
        rw [hc6] <;> rfl
    refine ⟨(cond (decide (number < (times - 1))) ((List.replicate (rest').toNat ([0] : (List Int))).flatten) (([] : (List Int)))), rfl, (by have hq := cond_len (decide (number < times - 1)) rest' (by omega); rw [List.length_append, sizeLine_eq]; omega), ?_⟩
    show Sts _ [.imm (PyData.tuple [PyData.int ((inner).1), PyData.int ((inner).2.1), PyData.int ((inner).2.2)]), .imm (PyData.int (rest')), .imm (PyData.int (times)), .imm (PyData.tuple (((row_of inner)).map PyData.int)), .imm (PyData.tuple ((((s1 ++ (row_of inner)) ++ (cond (decide (number < (times - 1))) ((List.replicate (rest').toNat ([0] : (List Int))).flatten) (([] : (List Int)))))).map PyData.int)), .imm (PyData.int (number))] _ _
    refine sts_nil ?_
    show Weak [.imm (PyData.tuple [PyData.int ((inner).1), PyData.int ((inner).2.1), PyData.int ((inner).2.2)]), .imm (PyData.int (rest')), .imm (PyData.int (times)), .imm (PyData.tuple (((row_of inner)).map PyData.int)), .imm (PyData.tuple ((((s1 ++ (row_of inner)) ++ (cond (decide (number < (times - 1))) ((List.replicate (rest').toNat ([0] : (List Int))).flatten) (([] : (List Int)))))).map PyData.int)), .imm (PyData.int (number))] [.imm (PyData.tuple [PyData.int ((inner).1), PyData.int ((inner).2.1), PyData.int ((inner).2.2)]), .imm (PyData.int (rest')), .imm (PyData.int (times)), .imm (PyData.tuple (((row_of inner)).map PyData.int)), .imm (PyData.tuple ((((s1 ++ (row_of inner)) ++ (cond (decide (number < (times - 1))) ((List.replicate (rest').toNat ([0] : (List Int))).flatten) (([] : (List Int)))))).map PyData.int)), .any] ∧ (((s1 ++ (row_of inner)) ++ (cond (decide (number < (times - 1))) ((List.replicate (rest').toNat ([0] : (List Int))).flatten) (([] : (List Int)))))).length ≤ (i2 + 1) * 10000
    exact ⟨⟨.inl rfl, ⟨.inl rfl, ⟨.inl rfl, ⟨.inl rfl, ⟨.inl rfl, ⟨.inr rfl, trivial⟩⟩⟩⟩⟩⟩, (by have hq := cond_len (decide (number < times - 1)) rest' (by omega); rw [List.length_append, List.length_append]; omega)⟩
  have hf7 : ((((rng 0 ((times : Int)).toNat)).foldl (fun (s1 : (List Int)) (number : Int) => ((s1 ++ (row_of inner)) ++ (cond (decide (number < (times - 1))) ((List.replicate (rest').toNat ([0] : (List Int))).flatten) (([] : (List Int)))))) ([] : (List Int)))).length ≤ ((rng 0 ((times : Int)).toNat)).length * 10000 := hf7
  show Sts _ [.imm (PyData.tuple [PyData.int ((inner).1), PyData.int ((inner).2.1), PyData.int ((inner).2.2)]), .imm (PyData.int (rest')), .imm (PyData.int (times)), .imm (PyData.tuple (((row_of inner)).map PyData.int)), .imm (PyData.tuple (((((rng 0 ((times : Int)).toNat)).foldl (fun (s1 : (List Int)) (number : Int) => ((s1 ++ (row_of inner)) ++ (cond (decide (number < (times - 1))) ((List.replicate (rest').toNat ([0] : (List Int))).flatten) (([] : (List Int)))))) ([] : (List Int)))).map PyData.int)), .any] _ _
  refine sts_cons (st_ret ?_)
  refine ev_var (i := 4) (nameOk (by kernel_rfl)) rfl ?_
  have q := p
  exact q
theorem fe_nested (T : Tx G e_NoSuch) (Df : DefE G "nested" s_nested ["inner", "rest", "times"]) (F_row_of : FnE G "row_of" ["plan"] 3 (spP G.K G.tabs 1 S_row_of)) : FnE G "nested" ["inner", "rest", "times"] 4 (spP G.K G.tabs 3 S_nested) := by
  obtain ⟨f, fd, Fu, gl, hb⟩ := Df
  exact fnE_P Fu sc_nested gl hb fun cd ds Post EX _ h => w_nested T F_row_of cd ds Post EX h
theorem sc_nested_length : FnScope N_nested_length ["inner", "rest", "times"] (defScope s_nested_length) := ⟨rfl, rfl, rfl, by decide +kernel, rfl, by decide +kernel, by decide +kernel⟩
set_option maxHeartbeats 4000000 in
theorem w_nested_length (T : Tx G e_NoSuch) (F_length_of : FnE G "length_of" ["plan"] 1 (spP G.K G.tabs 1 S_length_of)) (cd : Value) (ds : List D) (Post : D → Prop) (EX : Addr → Prop) (h0 : S_nested_length ds Post EX) : Sts (G.cfg N_nested_length s_nested_length 1 cd) (slots0 N_nested_length ds) (defBody s_nested_length) { nx := fun _ => Post .none, rt := Post, ex := fun c _ => EX c } := by
  obtain ⟨inner, rest', times, rfl, hpre, p⟩ := h0
  have p : Post (PyData.int ((((length_of inner) * times) + (rest' * (times - 1))))) := p
  show Sts _ [.imm (PyData.tuple [PyData.int ((inner).1), PyData.int ((inner).2.1), PyData.int ((inner).2.2)]), .imm (PyData.int (rest')), .imm (PyData.int (times))] _ _
  refine sts_cons (st_ret ?_)
  refine ev_add ?_
  refine Ev.o (ev_mul ?_)
  refine Ev.o (ev_call F_length_of (globOk (by kernel_rfl)) (Nat.le_of_ble_eq_true rfl) rfl ?_)
  refine eva_cons ?_
  refine ev_var (i := 0) (nameOk (by kernel_rfl)) rfl ?_
  refine eva_nil ?_
  refine ⟨rfl, inner, rfl, (by walk_at "pre"), ?_⟩
  refine ⟨(length_of inner), rfl, ?_⟩
  refine Ev.o (ev_var (i := 2) (nameOk (by kernel_rfl)) rfl ?_)
  refine ⟨times, rfl, (by walk_at "mul"), ?_⟩
  refine ⟨((length_of inner) * times), rfl, ?_⟩
  refine Ev.o (ev_mul ?_)
  refine Ev.o (ev_var (i := 1) (nameOk (by kernel_rfl)) rfl ?_)
  refine ⟨rest', rfl, ?_⟩
  refine Ev.o (ev_sub ?_)
  refine Ev.o (ev_var (i := 2) (nameOk (by kernel_rfl)) rfl ?_)
  refine ⟨times, rfl, ?_⟩
  refine Ev.o (ev_int ?_)
  refine ⟨1, rfl, ?_⟩
  refine ⟨(times - 1), rfl, (by walk_at "mul"), ?_⟩
  refine ⟨(rest' * (times - 1)), rfl, ?_⟩
  have q := p
  exact q
theorem fe_nested_length (T : Tx G e_NoSuch) (Df : DefE G "nested_length" s_nested_length ["inner", "rest", "times"]) (F_length_of : FnE G "length_of" ["plan"] 1 (spP G.K G.tabs 1 S_length_of)) : FnE G "nested_length" ["inner", "rest", "times"] 2 (spP G.K G.tabs 3 S_nested_length) := by
  obtain ⟨f, fd, Fu, gl, hb⟩ := Df
  exact fnE_P Fu sc_nested_length gl hb fun cd ds Post EX _ h => w_nested_length T F_length_of cd ds Post EX h
theorem sc_plan_of : FnScope N_plan_of ["row", "times"] (defScope s_plan_of) := ⟨rfl, rfl, rfl, by decide +kernel, rfl, by decide +kernel, by decide +kernel⟩
set_option maxHeartbeats 4000000 in
theorem w_plan_of (T : Tx G e_NoSuch) (F_row_of : FnE G "row_of" ["plan"] 3 (spP G.K G.tabs 1 S_row_of)) (cd : Value) (ds : List D) (Post : D → Prop) (EX : Addr → Prop) (h0 : S_plan_of ds Post EX) : Sts (G.cfg N_plan_of s_plan_of 3 cd) (slots0 N_plan_of ds) (defBody s_plan_of) { nx := fun _ => Post .none, rt := Post, ex := fun c _ => EX c } := by
  obtain ⟨row, times, rfl, hpre, p⟩ := h0
  have hb2 := div_bd (a := (row.length : Int)) (b := times) (A := 150) (by omega) (by omega) (by omega)
  have p : Post (encO (fun y : (Int × Int × Int) => PyData.tuple [PyData.int ((y).1), PyData.int ((y).2.1), PyData.int ((y).2.2)]) ((Option.elim (((rng 1 ((((((row).length : Int) / times) + 1) - 1 : Int)).toNat)).find? (fun phrase : Int => (cond ((decide (((((row).length : Int) - (phrase * times)) % (times - 1)) = 0) && decide ((row_of (phrase, ((((row).length : Int) - (phrase * times)) / (times - 1)), times)) = row))) true false))) (none : (Option (Int × Int × Int))) (fun phrase : Int => (some ((phrase, ((((row).length : Int) - (phrase * times)) / (times - 1)), times)) : (Option (Int × Int × Int))))))) := p
  show Sts _ [.imm (PyData.tuple ((row).map PyData.int)), .imm (PyData.int (times)), .any, .any, .any] _ _
  refine sts_cons (st_set (i := 2) (storeOk (by kernel_rfl) (.inl rfl)) (Nat.le_of_ble_eq_true rfl) ?_)
  refine ev_lenT PyData.int (globOk (by kernel_rfl)) T.z_len ?_
  refine Ev.o (ev_var (i := 0) (nameOk (by kernel_rfl)) rfl ?_)
  refine ⟨row, rfl, ?_⟩
  show Sts _ [.imm (PyData.tuple ((row).map PyData.int)), .imm (PyData.int (times)), .imm (PyData.int (((row).length : Int))), .any, .any] _ _
  refine sts_cons (st_forFind (α := Int) rfl ?_)
  refine eit_range2 (globOk (by kernel_rfl)) T.z_range ?_
  refine Ev.o (ev_int ?_)
  refine ⟨1, rfl, (by walk_at "side"), (by walk_at "side"), ?_⟩
  refine Ev.o (ev_add ?_)
  refine Ev.o (ev_fdiv ?_)
  refine Ev.o (ev_var (i := 2) (nameOk (by kernel_rfl)) rfl ?_)
  refine ⟨((row).length : Int), rfl, ?_⟩
  refine Ev.o (ev_var (i := 1) (nameOk (by kernel_rfl)) rfl ?_)
  refine ⟨times, rfl, (by walk_at "div"), ?_⟩
  refine ⟨(((row).length : Int) / times), rfl, ?_⟩
  refine Ev.o (ev_int ?_)
  refine ⟨1, rfl, ?_⟩
  refine ⟨((((row).length : Int) / times) + 1), rfl, (by walk_at "side"), (by walk_at "side"), ?_⟩
  refine ⟨(rng 1 ((((((row).length : Int) / times) + 1) - 1 : Int)).toNat), PyData.int, rfl, [.imm (PyData.tuple ((row).map PyData.int)), .imm (PyData.int (times)), .imm (PyData.int (((row).length : Int))), .any, .any], (fun phrase : Int => (cond ((decide (((((row).length : Int) - (phrase * times)) % (times - 1)) = 0) && decide ((row_of (phrase, ((((row).length : Int) - (phrase * times)) / (times - 1)), times)) = row))) true false)), ⟨.inl rfl, ⟨.inl rfl, ⟨.inl rfl, ⟨.inl rfl, ⟨.inl rfl, trivial⟩⟩⟩⟩⟩, ?_, fun hn4 => ?_⟩
  · intro i1 phrase hx2 hf3
    have hx2m := List.mem_of_getElem? hx2
    have hx2b := mem_rng hx2m
    refine ⟨[3], ?_⟩
    refine evg_name (i := 3) (storeOk (by kernel_rfl) (.inl rfl)) (by simp) (Nat.le_of_ble_eq_true rfl) ?_
    show Sts _ [.imm (PyData.tuple ((row).map PyData.int)), .imm (PyData.int (times)), .imm (PyData.int (((row).length : Int))), .imm (PyData.int (phrase)), .any] _ _
    refine sts_cons (st_set (i := 4) (storeOk (by kernel_rfl) (.inl rfl)) (Nat.le_of_ble_eq_true rfl) ?_)
    refine ev_sub ?_
    refine Ev.o (ev_var (i := 2) (nameOk (by kernel_rfl)) rfl ?_)
    refine ⟨((row).length : Int), rfl, ?_⟩
    refine Ev.o (ev_mul ?_)
    refine Ev.o (ev_var (i := 3) (nameOk (by kernel_rfl)) rfl ?_)
    refine ⟨phrase, rfl, ?_⟩
    refine Ev.o (ev_var (i := 1) (nameOk (by kernel_rfl)) rfl ?_)
    refine ⟨times, rfl, (by walk_at "mul"), ?_⟩
    refine ⟨(phrase * times), rfl, ?_⟩
    show Sts _ [.imm (PyData.tuple ((row).map PyData.int)), .imm (PyData.int (times)), .imm (PyData.int (((row).length : Int))), .imm (PyData.int (phrase)), .imm (PyData.int ((((row).length : Int) - (phrase * times))))] _ _
    refine sts_cons (st_if ?_)
    refine evt_det ((decide (((((row).length : Int) - (phrase * times)) % (times - 1)) = 0) && decide ((row_of (phrase, ((((row).length : Int) - (phrase * times)) / (times - 1)), times)) = row))) ?_ ?_
    · refine EvW.t ?_
      refine evw_and ?_
      refine CmpK.t (kEq rfl) ?_ rfl
      refine Ev.o (ev_mod ?_)
      refine Ev.o (ev_var (i := 4) (nameOk (by kernel_rfl)) rfl ?_)
      refine ⟨(((row).length : Int) - (phrase * times)), rfl, ?_⟩
      refine Ev.o (ev_sub ?_)
      refine Ev.o (ev_var (i := 1) (nameOk (by kernel_rfl)) rfl ?_)
      refine ⟨times, rfl, ?_⟩
      refine Ev.o (ev_int ?_)
      refine ⟨1, rfl, ?_⟩
      refine ⟨(times - 1), rfl, (by walk_at "side"), ?_⟩
      refine Ev.o (ev_int ?_)
      refine ⟨decide (((((row).length : Int) - (phrase * times)) % (times - 1)) = 0), cdEq cd_int.o (by decide) ((((row).length : Int) - (phrase * times)) % (times - 1)) 0, ?_⟩
      refine ⟨fun (hb5 : (decide (((((row).length : Int) - (phrase * times)) % (times - 1)) = 0)) = true) => ?_, fun (hb5 : (decide (((((row).length : Int) - (phrase * times)) % (times - 1)) = 0)) = false) => by rw [hb5] <;> rfl⟩
      refine evw_and1 ?_
      refine CmpK.t (kEq rfl) ?_ rfl
      refine Ev.o (ev_call F_row_of (globOk (by kernel_rfl)) (Nat.le_of_ble_eq_true rfl) rfl ?_)
      refine eva_cons ?_
      refine ev_tup ?_
      refine eva_cons ?_
      refine ev_var (i := 3) (nameOk (by kernel_rfl)) rfl ?_
      refine eva_cons ?_
      refine ev_fdiv ?_
      refine Ev.o (ev_var (i := 4) (nameOk (by kernel_rfl)) rfl ?_)
      refine ⟨(((row).length : Int) - (phrase * times)), rfl, ?_⟩
      refine Ev.o (ev_sub ?_)
      refine Ev.o (ev_var (i := 1) (nameOk (by kernel_rfl)) rfl ?_)
      refine ⟨times, rfl, ?_⟩
      refine Ev.o (ev_int ?_)
      refine ⟨1, rfl, ?_⟩
      refine ⟨(times - 1), rfl, (by walk_at "div"), ?_⟩
      refine eva_cons ?_
      refine ev_var (i := 1) (nameOk (by kernel_rfl)) rfl ?_
      refine eva_nil ?_
      refine ⟨szOk (show 3 ≤ 1000000 by omega), ?_⟩
      refine eva_nil ?_
      refine ⟨rfl, (phrase, ((((row).length : Int) - (phrase * times)) / (times - 1)), times), rfl, (by have hq := left_bd (n := (row.length : Int)) (phrase := phrase) (times := times) (by omega) (by omega) (by omega) (by omega) (by omega); have hq2 := div_bd (b := times - 1) hq.1 hq.2 (by omega); dsimp only; omega), ?_⟩
      refine Ev.o (ev_tuple (globOk (by kernel_rfl)) T.z_tuple ?_)
      refine Ev.o (ev_var (i := 0) (nameOk (by kernel_rfl)) rfl ?_)
      refine ⟨rfl, ?_⟩
      refine ⟨decide ((row_of (phrase, ((((row).length : Int) - (phrase * times)) / (times - 1)), times)) = row), cdEq (cd_vtup cd_int).o (by decide) (row_of (phrase, ((((row).length : Int) - (phrase * times)) / (times - 1)), times)) row, ?_⟩
      rw [hb5] <;> rfl
    refine ⟨fun (h6 : ((decide (((((row).length : Int) - (phrase * times)) % (times - 1)) = 0) && decide ((row_of (phrase, ((((row).length : Int) - (phrase * times)) / (times - 1)), times)) = row))) = true) => ?_, fun (h6 : ((decide (((((row).length : Int) - (phrase * times)) % (times - 1)) = 0) && decide ((row_of (phrase, ((((row).length : Int) - (phrase * times)) / (times - 1)), times)) = row))) = false) => ?_⟩
    · refine sts_cons (st_ret ?_)
      refine ev_tup ?_
      refine eva_cons ?_
      refine ev_var (i := 3) (nameOk (by kernel_rfl)) rfl ?_
      refine eva_cons ?_
      refine ev_fdiv ?_
      refine Ev.o (ev_var (i := 4) (nameOk (by kernel_rfl)) rfl ?_)
      refine ⟨(((row).length : Int) - (phrase * times)), rfl, ?_⟩
      refine Ev.o (ev_sub ?_)
      refine Ev.o (ev_var (i := 1) (nameOk (by kernel_rfl)) rfl ?_)
      refine ⟨times, rfl, ?_⟩
      refine Ev.o (ev_int ?_)
      refine ⟨1, rfl, ?_⟩
      refine ⟨(times - 1), rfl, (by walk_at "div"), ?_⟩
      refine eva_cons ?_
      refine ev_var (i := 1) (nameOk (by kernel_rfl)) rfl ?_
      refine eva_nil ?_
      refine ⟨szOk (show 3 ≤ 1000000 by omega), ?_⟩
      have hq7 : ((rng 1 ((((((row).length : Int) / times) + 1) - 1 : Int)).toNat)).find? (fun phrase : Int => (cond ((decide (((((row).length : Int) - (phrase * times)) % (times - 1)) = 0) && decide ((row_of (phrase, ((((row).length : Int) - (phrase * times)) / (times - 1)), times)) = row))) true false)) = some phrase := hf3 (by show (cond ((decide (((((row).length : Int) - (phrase * times)) % (times - 1)) = 0) && decide ((row_of (phrase, ((((row).length : Int) - (phrase * times)) / (times - 1)), times)) = row))) true false) = true; rw [h6] <;> rfl)
      have q := p
      rw [hq7] at q
      exact q
    · refine sts_nil ?_
      show Sts _ [.imm (PyData.tuple ((row).map PyData.int)), .imm (PyData.int (times)), .imm (PyData.int (((row).length : Int))), .imm (PyData.int (phrase)), .imm (PyData.int ((((row).length : Int) - (phrase * times))))] _ _
      refine sts_nil ?_
      refine ⟨⟨.inl rfl, ⟨.inl rfl, ⟨.inl rfl, ⟨.inr rfl, ⟨.inr rfl, trivial⟩⟩⟩⟩⟩, ?_⟩
      show (cond ((decide (((((row).length : Int) - (phrase * times)) % (times - 1)) = 0) && decide ((row_of (phrase, ((((row).length : Int) - (phrase * times)) / (times - 1)), times)) = row))) true false) = false
      rw [h6] <;> rfl
  show Sts _ [.imm (PyData.tuple ((row).map PyData.int)), .imm (PyData.int (times)), .imm (PyData.int (((row).length : Int))), .any, .any] _ _
  refine sts_cons (st_ret ?_)
  refine ev_non ?_
  have q := p
  rw [hn4] at q
  exact q
theorem fe_plan_of (T : Tx G e_NoSuch) (Df : DefE G "plan_of" s_plan_of ["row", "times"]) (F_row_of : FnE G "row_of" ["plan"] 3 (spP G.K G.tabs 1 S_row_of)) : FnE G "plan_of" ["row", "times"] 4 (spP G.K G.tabs 2 S_plan_of) := by
  obtain ⟨f, fd, Fu, gl, hb⟩ := Df
  exact fnE_P Fu sc_plan_of gl hb fun cd ds Post EX _ h => w_plan_of T F_row_of cd ds Post EX h
theorem sc_shrinking : FnScope N_shrinking ["first", "step", "rest", "cycle"] (defScope s_shrinking) := ⟨rfl, rfl, rfl, by decide +kernel, rfl, by decide +kernel, by decide +kernel⟩
set_option maxHeartbeats 4000000 in
theorem w_shrinking (T : Tx G e_NoSuch) (cd : Value) (ds : List D) (Post : D → Prop) (EX : Addr → Prop) (h0 : S_shrinking ds Post EX) : Sts (G.cfg N_shrinking s_shrinking 0 cd) (slots0 N_shrinking ds) (defBody s_shrinking) { nx := fun _ => Post .none, rt := Post, ex := fun c _ => EX c } := by
  obtain ⟨first, step, rest', cycle, rfl, hpre, p⟩ := h0
  have p : Post (PyData.tuple [PyData.tuple ((((((whl (fun (s1 : (List Int) × Int) => decide (0 < (s1).2)) (fun (s1 : (List Int) × Int) => (((s1).1 ++ [(s1).2]), ((s1).2 - step))) ((fun (s1 : (List Int) × Int) => ((s1).2).toNat) (([] : (List Int)), first)) (([] : (List Int)), first))).1, ((1 - ((((whl (fun (s1 : (List Int) × Int) => decide (0 < (s1).2)) (fun (s1 : (List Int) × Int) => (((s1).1 ++ [(s1).2]), ((s1).2 - step))) ((fun (s1 : (List Int) × Int) => ((s1).2).toNat) (([] : (List Int)), first)) (([] : (List Int)), first))).1).sum + (rest' * (((((whl (fun (s1 : (List Int) × Int) => decide (0 < (s1).2)) (fun (s1 : (List Int) × Int) => (((s1).1 ++ [(s1).2]), ((s1).2 - step))) ((fun (s1 : (List Int) × Int) => ((s1).2).toNat) (([] : (List Int)), first)) (([] : (List Int)), first))).1).length : Int) - 1)))) % cycle))).1).map PyData.int), PyData.int (((((whl (fun (s1 : (List Int) × Int) => decide (0 < (s1).2)) (fun (s1 : (List Int) × Int) => (((s1).1 ++ [(s1).2]), ((s1).2 - step))) ((fun (s1 : (List Int) × Int) => ((s1).2).toNat) (([] : (List Int)), first)) (([] : (List Int)), first))).1, ((1 - ((((whl (fun (s1 : (List Int) × Int) => decide (0 < (s1).2)) (fun (s1 : (List Int) × Int) => (((s1).1 ++ [(s1).2]), ((s1).2 - step))) ((fun (s1 : (List Int) × Int) => ((s1).2).toNat) (([] : (List Int)), first)) (([] : (List Int)), first))).1).sum + (rest' * (((((whl (fun (s1 : (List Int) × Int) => decide (0 < (s1).2)) (fun (s1 : (List Int) × Int) => (((s1).1 ++ [(s1).2]), ((s1).2 - step))) ((fun (s1 : (List Int) × Int) => ((s1).2).toNat) (([] : (List Int)), first)) (([] : (List Int)), first))).1).length : Int) - 1)))) % cycle))).2)]) := p
  show Sts _ [.imm (PyData.int (first)), .imm (PyData.int (step)), .imm (PyData.int (rest')), .imm (PyData.int (cycle)), .any, .any, .any] _ _
  refine sts_cons (st_setL (i := 4) (storeOk (by kernel_rfl) (.inl rfl)) (Nat.le_of_ble_eq_true rfl) ?_)
  refine evl_lst ?_
  refine eva_nil ?_
  refine ⟨szOk (show 0 ≤ 1000000 by omega), ?_⟩
  show Sts _ [.imm (PyData.int (first)), .imm (PyData.int (step)), .imm (PyData.int (rest')), .imm (PyData.int (cycle)), .own ((([] : (List Int))).map PyData.int), .any, .any] _ _
  refine sts_cons (st_set (i := 5) (storeOk (by kernel_rfl) (.inl rfl)) (Nat.le_of_ble_eq_true rfl) ?_)
  refine ev_var (i := 0) (nameOk (by kernel_rfl)) rfl ?_
  show Sts _ [.imm (PyData.int (first)), .imm (PyData.int (step)), .imm (PyData.int (rest')), .imm (PyData.int (cycle)), .own ((([] : (List Int))).map PyData.int), .imm (PyData.int (first)), .any] _ _
  refine sts_cons (st_whileD (fun (s1 : (List Int) × Int) => [.imm (PyData.int (first)), .imm (PyData.int (step)), .imm (PyData.int (rest')), .imm (PyData.int (cycle)), .own (((s1).1).map PyData.int), .imm (PyData.int ((s1).2)), .any]) (fun (s1 : (List Int) × Int) => ((s1).1).length + ((s1).2).toNat ≤ 1000) (fun (s1 : (List Int) × Int) => ((s1).2).toNat) (fun (s1 : (List Int) × Int) => decide (0 < (s1).2)) (fun (s1 : (List Int) × Int) => (((s1).1 ++ [(s1).2]), ((s1).2 - step))) (([] : (List Int)), first) ⟨.inl rfl, ⟨.inl rfl, ⟨.inl rfl, ⟨.inl rfl, ⟨.inl rfl, ⟨.inl rfl, ⟨.inl rfl, trivial⟩⟩⟩⟩⟩⟩⟩ (by first | trivial | omega | (dsimp only; omega) | (simp only [List.length_nil]; omega)) (by intro s hi hc; simp only [decide_eq_true_eq] at hc; dsimp only at hi ⊢; try simp only [List.length_append, List.length_cons, List.length_nil]; omega) ?_ ?_)
  · intro s1 hi3
    refine CmpK.t kGt ?_ rfl
    refine Ev.o (ev_var (i := 5) (nameOk (by kernel_rfl)) rfl ?_)
    refine Ev.o (ev_int ?_)
    refine ⟨decide (0 < (s1).2), ⟨(s1).2, 0, rfl, rfl, rfl⟩, ?_⟩
    refine ⟨rfl, fun (hw5 : (decide (0 < (s1).2)) = true) => ?_⟩
    show Sts _ [.imm (PyData.int (first)), .imm (PyData.int (step)), .imm (PyData.int (rest')), .imm (PyData.int (cycle)), .own (((s1).1).map PyData.int), .imm (PyData.int ((s1).2)), .any] _ _
    refine sts_cons (st_append (i := 4) (ds := ((s1).1).map PyData.int) (nameOk (by kernel_rfl)) rfl (by walk_at "size") ?_)
    refine ev_var (i := 5) (nameOk (by kernel_rfl)) rfl ?_
    refine own_app (i := 4) ((s1).1) ((s1).2) PyData.int ?_
    show Sts _ [.imm (PyData.int (first)), .imm (PyData.int (step)), .imm (PyData.int (rest')), .imm (PyData.int (cycle)), .own ((((s1).1 ++ [(s1).2])).map PyData.int), .imm (PyData.int ((s1).2)), .any] _ _
    refine sts_cons (st_augSub (i := 5) (n := (s1).2) (storeOk (by kernel_rfl) (.inl rfl)) rfl ?_)
    refine ev_var (i := 1) (nameOk (by kernel_rfl)) rfl ?_
    refine ⟨step, rfl, ?_⟩
    show Sts _ [.imm (PyData.int (first)), .imm (PyData.int (step)), .imm (PyData.int (rest')), .imm (PyData.int (cycle)), .own ((((s1).1 ++ [(s1).2])).map PyData.int), .imm (PyData.int (((s1).2 - step))), .any] _ _
    refine sts_nil ?_
    show Weak [.imm (PyData.int (first)), .imm (PyData.int (step)), .imm (PyData.int (rest')), .imm (PyData.int (cycle)), .own ((((s1).1 ++ [(s1).2])).map PyData.int), .imm (PyData.int (((s1).2 - step))), .any] [.imm (PyData.int (first)), .imm (PyData.int (step)), .imm (PyData.int (rest')), .imm (PyData.int (cycle)), .own ((((((s1).1 ++ [(s1).2]), ((s1).2 - step))).1).map PyData.int), .imm (PyData.int (((((s1).1 ++ [(s1).2]), ((s1).2 - step))).2)), .any]
    exact ⟨.inl rfl, ⟨.inl rfl, ⟨.inl rfl, ⟨.inl rfl, ⟨.inl rfl, ⟨.inl rfl, ⟨.inl rfl, trivial⟩⟩⟩⟩⟩⟩⟩
  intro hc4 hi3
  show Sts _ [.imm (PyData.int (first)), .imm (PyData.int (step)), .imm (PyData.int (rest')), .imm (PyData.int (cycle)), .own ((((whl (fun (s1 : (List Int) × Int) => decide (0 < (s1).2)) (fun (s1 : (List Int) × Int) => (((s1).1 ++ [(s1).2]), ((s1).2 - step))) ((fun (s1 : (List Int) × Int) => ((s1).2).toNat) (([] : (List Int)), first)) (([] : (List Int)), first))).1).map PyData.int), .imm (PyData.int (((whl (fun (s1 : (List Int) × Int) => decide (0 < (s1).2)) (fun (s1 : (List Int) × Int) => (((s1).1 ++ [(s1).2]), ((s1).2 - step))) ((fun (s1 : (List Int) × Int) => ((s1).2).toNat) (([] : (List Int)), first)) (([] : (List Int)), first))).2)), .any] _ _
  refine sts_cons (st_set (i := 6) (storeOk (by kernel_rfl) (.inl rfl)) (Nat.le_of_ble_eq_true rfl) ?_)
  refine ev_add ?_
  refine Ev.o (ev_sum rfl (globOk (by kernel_rfl)) T.z_sum ?_)
  refine evo_own (i := 4) (nameOk (by kernel_rfl)) rfl ?_
  refine ⟨((whl (fun (s1 : (List Int) × Int) => decide (0 < (s1).2)) (fun (s1 : (List Int) × Int) => (((s1).1 ++ [(s1).2]), ((s1).2 - step))) ((fun (s1 : (List Int) × Int) => ((s1).2).toNat) (([] : (List Int)), first)) (([] : (List Int)), first))).1, rfl, rfl, ?_⟩
  refine ⟨(((whl (fun (s1 : (List Int) × Int) => decide (0 < (s1).2)) (fun (s1 : (List Int) × Int) => (((s1).1 ++ [(s1).2]), ((s1).2 - step))) ((fun (s1 : (List Int) × Int) => ((s1).2).toNat) (([] : (List Int)), first)) (([] : (List Int)), first))).1).sum, rfl, ?_⟩
  refine Ev.o (ev_mul ?_)
  refine Ev.o (ev_var (i := 2) (nameOk (by kernel_rfl)) rfl ?_)
  refine ⟨rest', rfl, ?_⟩
  refine Ev.o (ev_sub ?_)
  refine Ev.o (ev_lenL PyData.int (globOk (by kernel_rfl)) T.z_len ?_)
  refine evo_own (i := 4) (nameOk (by kernel_rfl)) rfl ?_
  refine ⟨((whl (fun (s1 : (List Int) × Int) => decide (0 < (s1).2)) (fun (s1 : (List Int) × Int) => (((s1).1 ++ [(s1).2]), ((s1).2 - step))) ((fun (s1 : (List Int) × Int) => ((s1).2).toNat) (([] : (List Int)), first)) (([] : (List Int)), first))).1, rfl, ?_⟩
  refine ⟨((((whl (fun (s1 : (List Int) × Int) => decide (0 < (s1).2)) (fun (s1 : (List Int) × Int) => (((s1).1 ++ [(s1).2]), ((s1).2 - step))) ((fun (s1 : (List Int) × Int) => ((s1).2).toNat) (([] : (List Int)), first)) (([] : (List Int)), first))).1).length : Int), rfl, ?_⟩
  refine Ev.o (ev_int ?_)
  refine ⟨1, rfl, ?_⟩
  refine ⟨(((((whl (fun (s1 : (List Int) × Int) => decide (0 < (s1).2)) (fun (s1 : (List Int) × Int) => (((s1).1 ++ [(s1).2]), ((s1).2 - step))) ((fun (s1 : (List Int) × Int) => ((s1).2).toNat) (([] : (List Int)), first)) (([] : (List Int)), first))).1).length : Int) - 1), rfl, (by walk_at "mul"), ?_⟩
  refine ⟨(rest' * (((((whl (fun (s1 : (List Int) × Int) => decide (0 < (s1).2)) (fun (s1 : (List Int) × Int) => (((s1).1 ++ [(s1).2]), ((s1).2 - step))) ((fun (s1 : (List Int) × Int) => ((s1).2).toNat) (([] : (List Int)), first)) (([] : (List Int)), first))).1).length : Int) - 1)), rfl, ?_⟩
  show Sts _ [.imm (PyData.int (first)), .imm (PyData.int (step)), .imm (PyData.int (rest')), .imm (PyData.int (cycle)), .own ((((whl (fun (s1 : (List Int) × Int) => decide (0 < (s1).2)) (fun (s1 : (List Int) × Int) => (((s1).1 ++ [(s1).2]), ((s1).2 - step))) ((fun (s1 : (List Int) × Int) => ((s1).2).toNat) (([] : (List Int)), first)) (([] : (List Int)), first))).1).map PyData.int), .imm (PyData.int (((whl (fun (s1 : (List Int) × Int) => decide (0 < (s1).2)) (fun (s1 : (List Int) × Int) => (((s1).1 ++ [(s1).2]), ((s1).2 - step))) ((fun (s1 : (List Int) × Int) => ((s1).2).toNat) (([] : (List Int)), first)) (([] : (List Int)), first))).2)), .imm (PyData.int (((((whl (fun (s1 : (List Int) × Int) => decide (0 < (s1).2)) (fun (s1 : (List Int) × Int) => (((s1).1 ++ [(s1).2]), ((s1).2 - step))) ((fun (s1 : (List Int) × Int) => ((s1).2).toNat) (([] : (List Int)), first)) (([] : (List Int)), first))).1).sum + (rest' * (((((whl (fun (s1 : (List Int) × Int) => decide (0 < (s1).2)) (fun (s1 : (List Int) × Int) => (((s1).1 ++ [(s1).2]), ((s1).2 - step))) ((fun (s1 : (List Int) × Int) => ((s1).2).toNat) (([] : (List Int)), first)) (([] : (List Int)), first))).1).length : Int) - 1)))))] _ _
  refine sts_cons (st_ret ?_)
  refine ev_tup ?_
  refine eva_cons ?_
  refine ev_tuple (globOk (by kernel_rfl)) T.z_tuple ?_
  refine evo_own (i := 4) (nameOk (by kernel_rfl)) rfl ?_
  refine ⟨rfl, ?_⟩
  refine eva_cons ?_
  refine ev_mod ?_
  refine Ev.o (ev_sub ?_)
  refine Ev.o (ev_int ?_)
  refine ⟨1, rfl, ?_⟩
  refine Ev.o (ev_var (i := 6) (nameOk (by kernel_rfl)) rfl ?_)
  refine ⟨((((whl (fun (s1 : (List Int) × Int) => decide (0 < (s1).2)) (fun (s1 : (List Int) × Int) => (((s1).1 ++ [(s1).2]), ((s1).2 - step))) ((fun (s1 : (List Int) × Int) => ((s1).2).toNat) (([] : (List Int)), first)) (([] : (List Int)), first))).1).sum + (rest' * (((((whl (fun (s1 : (List Int) × Int) => decide (0 < (s1).2)) (fun (s1 : (List Int) × Int) => (((s1).1 ++ [(s1).2]), ((s1).2 - step))) ((fun (s1 : (List Int) × Int) => ((s1).2).toNat) (([] : (List Int)), first)) (([] : (List Int)), first))).1).length : Int) - 1))), rfl, ?_⟩
  refine ⟨(1 - ((((whl (fun (s1 : (List Int) × Int) => decide (0 < (s1).2)) (fun (s1 : (List Int) × Int) => (((s1).1 ++ [(s1).2]), ((s1).2 - step))) ((fun (s1 : (List Int) × Int) => ((s1).2).toNat) (([] : (List Int)), first)) (([] : (List Int)), first))).1).sum + (rest' * (((((whl (fun (s1 : (List Int) × Int) => decide (0 < (s1).2)) (fun (s1 : (List Int) × Int) => (((s1).1 ++ [(s1).2]), ((s1).2 - step))) ((fun (s1 : (List Int) × Int) => ((s1).2).toNat) (([] : (List Int)), first)) (([] : (List Int)), first))).1).length : Int) - 1)))), rfl, ?_⟩
  refine Ev.o (ev_var (i := 3) (nameOk (by kernel_rfl)) rfl ?_)
  refine ⟨cycle, rfl, (by walk_at "side"), ?_⟩
  refine eva_nil ?_
  refine ⟨szOk (show 2 ≤ 1000000 by omega), ?_⟩
  have q := p
  exact q
theorem fe_shrinking (T : Tx G e_NoSuch) (Df : DefE G "shrinking" s_shrinking ["first", "step", "rest", "cycle"]) : FnE G "shrinking" ["first", "step", "rest", "cycle"] 1 (spP G.K G.tabs 4 S_shrinking) := by
  obtain ⟨f, fd, Fu, gl, hb⟩ := Df
  exact fnE_P Fu sc_shrinking gl hb fun cd ds Post EX _ h => w_shrinking T cd ds Post EX h
theorem sc_first_rest : FnScope N_first_rest ["phrase", "times", "cycle", "start"] (defScope s_first_rest) := ⟨rfl, rfl, rfl, by decide +kernel, rfl, by decide +kernel, by decide +kernel⟩
set_option maxHeartbeats 4000000 in
theorem w_first_rest (T : Tx G e_NoSuch) (F_rests_for : FnE G "rests_for" ["phrase", "times", "cycle", "start", "most"] 3 (spP G.K G.tabs 5 S_rests_for)) (cd : Value) (ds : List D) (Post : D → Prop) (EX : Addr → Prop) (h0 : S_first_rest ds Post EX) : Sts (G.cfg N_first_rest s_first_rest 3 cd) (slots0 N_first_rest ds) (defBody s_first_rest) { nx := fun _ => Post .none, rt := Post, ex := fun c _ => EX c } := by
  obtain ⟨phrase, times, cycle, start, rfl, hpre, p⟩ := h0
  have p : Post (encO PyData.int ((cond ((!((rests_for phrase times cycle start cycle)).isEmpty)) ((some ((atD (rests_for phrase times cycle start cycle) 0)) : (Option Int))) ((none : (Option Int)))))) := p
  show Sts _ [.imm (PyData.int (phrase)), .imm (PyData.int (times)), .imm (PyData.int (cycle)), .imm (PyData.int (start)), .any] _ _
  refine sts_cons (st_set (i := 4) (storeOk (by kernel_rfl) (.inl rfl)) (Nat.le_of_ble_eq_true rfl) ?_)
  refine ev_call F_rests_for (globOk (by kernel_rfl)) (Nat.le_of_ble_eq_true rfl) rfl ?_
  refine eva_cons ?_
  refine ev_var (i := 0) (nameOk (by kernel_rfl)) rfl ?_
  refine eva_cons ?_
  refine ev_var (i := 1) (nameOk (by kernel_rfl)) rfl ?_
  refine eva_cons ?_
  refine ev_var (i := 2) (nameOk (by kernel_rfl)) rfl ?_
  refine eva_cons ?_
  refine ev_var (i := 3) (nameOk (by kernel_rfl)) rfl ?_
  refine eva_cons ?_
  refine ev_var (i := 2) (nameOk (by kernel_rfl)) rfl ?_
  refine eva_nil ?_
  refine ⟨rfl, phrase, times, cycle, start, cycle, rfl, (by walk_at "pre"), ?_⟩
  show Sts _ [.imm (PyData.int (phrase)), .imm (PyData.int (times)), .imm (PyData.int (cycle)), .imm (PyData.int (start)), .imm (PyData.list (((rests_for phrase times cycle start cycle)).map PyData.int))] _ _
  refine sts_cons (st_ret ?_)
  refine ev_det (d0 := encO PyData.int ((cond ((!((rests_for phrase times cycle start cycle)).isEmpty)) ((some ((atD (rests_for phrase times cycle start cycle) 0)) : (Option Int))) ((none : (Option Int)))))) ?_ ?_
  · refine ev_if ?_
    refine evt_truL PyData.int ?_
    refine Ev.o (ev_var (i := 4) (nameOk (by kernel_rfl)) rfl ?_)
    refine ⟨(rests_for phrase times cycle start cycle), rfl, ?_⟩
    refine ⟨fun (hc1 : ((!((rests_for phrase times cycle start cycle)).isEmpty)) = true) => ?_, fun (hc1 : ((!((rests_for phrase times cycle start cycle)).isEmpty)) = false) => ?_⟩
    · refine ev_ixL PyData.int ?_
      refine Ev.o (ev_var (i := 4) (nameOk (by kernel_rfl)) rfl ?_)
      refine ⟨(rests_for phrase times cycle start cycle), rfl, ?_⟩
      refine Ev.o (ev_int ?_)
      refine ⟨0, (atD (rests_for phrase times cycle start cycle) 0), rfl, atD_ok (by walk_at "size") (by exact isEmpty_pos hc1), ?_⟩
      rw [hc1] <;> rfl
    · refine ev_non ?_
      rw [hc1] <;> rfl
  have q := p
  exact q
theorem fe_first_rest (T : Tx G e_NoSuch) (Df : DefE G "first_rest" s_first_rest ["phrase", "times", "cycle", "start"]) (F_rests_for : FnE G "rests_for" ["phrase", "times", "cycle", "start", "most"] 3 (spP G.K G.tabs 5 S_rests_for)) : FnE G "first_rest" ["phrase", "times", "cycle", "start"] 4 (spP G.K G.tabs 4 S_first_rest) := by
  obtain ⟨f, fd, Fu, gl, hb⟩ := Df
  exact fnE_P Fu sc_first_rest gl hb fun cd ds Post EX _ h => w_first_rest T F_rests_for cd ds Post EX h
theorem sc_law_row : FnScope N_law_row ["phrase", "rest", "times"] (defScope s_law_row) := ⟨rfl, rfl, rfl, by decide +kernel, rfl, by decide +kernel, by decide +kernel⟩
set_option maxHeartbeats 4000000 in
theorem w_law_row (T : Tx G e_NoSuch) (cd : Value) (ds : List D) (Post : D → Prop) (EX : Addr → Prop) (h0 : S_law_row ds Post EX) : Sts (G.cfg N_law_row s_law_row 0 cd) (slots0 N_law_row ds) (defBody s_law_row) { nx := fun _ => Post .none, rt := Post, ex := fun c _ => EX c } := by
  obtain ⟨phrase, rest', times, rfl, hpre, p⟩ := h0
  have p : Post (PyData.tuple (((((rng 0 ((times : Int)).toNat)).foldl (fun (s1 : (List Int)) (k' : Int) => (cond (decide (k' < (times - 1))) ((s1 ++ (List.replicate (phrase).toNat ([1] : (List Int))).flatten) ++ (List.replicate (rest').toNat ([0] : (List Int))).flatten) (s1 ++ (List.replicate (phrase).toNat ([1] : (List Int))).flatten))) ([] : (List Int)))).map PyData.int)) := p
  show Sts _ [.imm (PyData.int (phrase)), .imm (PyData.int (rest')), .imm (PyData.int (times)), .any, .any] _ _
  refine sts_cons (st_set (i := 3) (storeOk (by kernel_rfl) (.inl rfl)) (Nat.le_of_ble_eq_true rfl) ?_)
  refine ev_tup ?_
  refine eva_nil ?_
  refine ⟨szOk (show 0 ≤ 1000000 by omega), ?_⟩
  show Sts _ [.imm (PyData.int (phrase)), .imm (PyData.int (rest')), .imm (PyData.int (times)), .imm (PyData.tuple ((([] : (List Int))).map PyData.int)), .any] _ _
  refine sts_cons (st_forD (α := Int) (β := (List Int)) rfl ?_)
  refine eit_range1 (globOk (by kernel_rfl)) T.z_range ?_
  refine Ev.o (ev_var (i := 2) (nameOk (by kernel_rfl)) rfl ?_)
  refine ⟨times, rfl, (by walk_at "side"), (by walk_at "side"), ?_⟩
  refine ⟨(rng 0 ((times : Int)).toNat), PyData.int, rfl, (fun s1 : (List Int) => [.imm (PyData.int (phrase)), .imm (PyData.int (rest')), .imm (PyData.int (times)), .imm (PyData.tuple ((s1).map PyData.int)), .any]), (fun (i : Nat) (s1 : (List Int)) => (s1).length ≤ i * 400), (fun (s1 : (List Int)) (k' : Int) => (cond (decide (k' < (times - 1))) ((s1 ++ (List.replicate (phrase).toNat ([1] : (List Int))).flatten) ++ (List.replicate (rest').toNat ([0] : (List Int))).flatten) (s1 ++ (List.replicate (phrase).toNat ([1] : (List Int))).flatten))), ([] : (List Int)), ⟨.inl rfl, ⟨.inl rfl, ⟨.inl rfl, ⟨.inl rfl, ⟨.inl rfl, trivial⟩⟩⟩⟩⟩, (by walk_at "inv"), ?_, fun hf7 => ?_⟩
  · intro i2 k' s1 hx3 hi4
    have hi4 : (s1).length ≤ i2 * 400 := hi4
    have hx3m := List.mem_of_getElem? hx3
    have hx3b := rng_get hx3
    refine ⟨[4], ?_⟩
    refine evg_name (i := 4) (storeOk (by kernel_rfl) (.inl rfl)) (by simp) (Nat.le_of_ble_eq_true rfl) ?_
    show Sts _ [.imm (PyData.int (phrase)), .imm (PyData.int (rest')), .imm (PyData.int (times)), .imm (PyData.tuple ((s1).map PyData.int)), .imm (PyData.int (k'))] _ _
    refine sts_cons (st_set (i := 3) (storeOk (by kernel_rfl) (.inl rfl)) (Nat.le_of_ble_eq_true rfl) ?_)
    refine ev_addTT PyData.int ?_
    refine Ev.o (ev_var (i := 3) (nameOk (by kernel_rfl)) rfl ?_)
    refine ⟨s1, rfl, ?_⟩
    refine Ev.o (ev_repTT PyData.int ?_)
    refine Ev.o (ev_tup ?_)
    refine eva_cons ?_
    refine ev_int ?_
    refine eva_nil ?_
    refine ⟨szOk (show 1 ≤ 1000000 by omega), ?_⟩
    refine ⟨([1] : (List Int)), rfl, ?_⟩
    refine Ev.o (ev_var (i := 0) (nameOk (by kernel_rfl)) rfl ?_)
    refine ⟨phrase, rfl, (by walk_at "side"), (by walk_at "side"), (by walk_at "size"), ?_⟩
    refine ⟨(List.replicate (phrase).toNat ([1] : (List Int))).flatten, rfl, (by simp only [List.length_append, List.length_append, List.length_map, List.length_cons, List.length_nil, List.length_flatten, List.length_replicate, List.map_replicate, List.sum_replicate_nat, sizeLine_eq]; omega), ?_⟩
    show Sts _ [.imm (PyData.int (phrase)), .imm (PyData.int (rest')), .imm (PyData.int (times)), .imm (PyData.tuple (((s1 ++ (List.replicate (phrase).toNat ([1] : (List Int))).flatten)).map PyData.int)), .imm (PyData.int (k'))] _ _
    refine sts_cons (st_if ?_)
    refine CmpK.t kLt ?_ rfl
    refine Ev.o (ev_var (i := 4) (nameOk (by kernel_rfl)) rfl ?_)
    refine Ev.o (ev_sub ?_)
    refine Ev.o (ev_var (i := 2) (nameOk (by kernel_rfl)) rfl ?_)
    refine ⟨times, rfl, ?_⟩
    refine Ev.o (ev_int ?_)
    refine ⟨1, rfl, ?_⟩
    refine ⟨decide (k' < (times - 1)), ⟨k', (times - 1), rfl, rfl, rfl⟩, ?_⟩
    refine ⟨fun (h6 : (decide (k' < (times - 1))) = true) => ?_, fun (h6 : (decide (k' < (times - 1))) = false) => ?_⟩
    · refine sts_cons (st_set (i := 3) (storeOk (by kernel_rfl) (.inl rfl)) (Nat.le_of_ble_eq_true rfl) ?_)
      refine ev_addTT PyData.int ?_
      refine Ev.o (ev_var (i := 3) (nameOk (by kernel_rfl)) rfl ?_)
      refine ⟨(s1 ++ (List.replicate (phrase).toNat ([1] : (List Int))).flatten), rfl, ?_⟩
      refine Ev.o (ev_repTT PyData.int ?_)
      refine Ev.o (ev_tup ?_)
      refine eva_cons ?_
      refine ev_int ?_
      refine eva_nil ?_
      refine ⟨szOk (show 1 ≤ 1000000 by omega), ?_⟩
      refine ⟨([0] : (List Int)), rfl, ?_⟩
      refine Ev.o (ev_var (i := 1) (nameOk (by kernel_rfl)) rfl ?_)
      refine ⟨rest', rfl, (by walk_at "side"), (by walk_at "side"), (by walk_at "size"), ?_⟩
      refine ⟨(List.replicate (rest').toNat ([0] : (List Int))).flatten, rfl, (by simp only [List.length_append, List.length_append, List.length_map, List.length_cons, List.length_nil, List.length_flatten, List.length_replicate, List.map_replicate, List.sum_replicate_nat, sizeLine_eq]; omega), ?_⟩
      show Sts _ [.imm (PyData.int (phrase)), .imm (PyData.int (rest')), .imm (PyData.int (times)), .imm (PyData.tuple ((((s1 ++ (List.replicate (phrase).toNat ([1] : (List Int))).flatten) ++ (List.replicate (rest').toNat ([0] : (List Int))).flatten)).map PyData.int)), .imm (PyData.int (k'))] _ _
      refine sts_nil ?_
      show Sts _ [.imm (PyData.int (phrase)), .imm (PyData.int (rest')), .imm (PyData.int (times)), .imm (PyData.tuple ((((s1 ++ (List.replicate (phrase).toNat ([1] : (List Int))).flatten) ++ (List.replicate (rest').toNat ([0] : (List Int))).flatten)).map PyData.int)), .imm (PyData.int (k'))] _ _
      refine sts_nil ?_
      show Weak [.imm (PyData.int (phrase)), .imm (PyData.int (rest')), .imm (PyData.int (times)), .imm (PyData.tuple ((((s1 ++ (List.replicate (phrase).toNat ([1] : (List Int))).flatten) ++ (List.replicate (rest').toNat ([0] : (List Int))).flatten)).map PyData.int)), .imm (PyData.int (k'))] [.imm (PyData.int (phrase)), .imm (PyData.int (rest')), .imm (PyData.int (times)), .imm (PyData.tuple (((cond (decide (k' < (times - 1))) ((s1 ++ (List.replicate (phrase).toNat ([1] : (List Int))).flatten) ++ (List.replicate (rest').toNat ([0] : (List Int))).flatten) (s1 ++ (List.replicate (phrase).toNat ([1] : (List Int))).flatten))).map PyData.int)), .any] ∧ ((cond (decide (k' < (times - 1))) ((s1 ++ (List.replicate (phrase).toNat ([1] : (List Int))).flatten) ++ (List.replicate (rest').toNat ([0] : (List Int))).flatten) (s1 ++ (List.replicate (phrase).toNat ([1] : (List Int))).flatten))).length ≤ (i2 + 1) * 400
      rw [h6]
      exact ⟨⟨.inl rfl, ⟨.inl rfl, ⟨.inl rfl, ⟨.inl rfl, ⟨.inr rfl, trivial⟩⟩⟩⟩⟩, (by simp only [cond_true, cond_false, List.length_append, List.length_map, List.length_cons, List.length_nil, List.length_flatten, List.length_replicate, List.map_replicate, List.sum_replicate_nat, sizeLine_eq]; omega)⟩
    · refine sts_nil ?_
      show Sts _ [.imm (PyData.int (phrase)), .imm (PyData.int (rest')), .imm (PyData.int (times)), .imm (PyData.tuple (((s1 ++ (List.replicate (phrase).toNat ([1] : (List Int))).flatten)).map PyData.int)), .imm (PyData.int (k'))] _ _
      refine sts_nil ?_
      show Weak [.imm (PyData.int (phrase)), .imm (PyData.int (rest')), .imm (PyData.int (times)), .imm (PyData.tuple (((s1 ++ (List.replicate (phrase).toNat ([1] : (List Int))).flatten)).map PyData.int)), .imm (PyData.int (k'))] [.imm (PyData.int (phrase)), .imm (PyData.int (rest')), .imm (PyData.int (times)), .imm (PyData.tuple (((cond (decide (k' < (times - 1))) ((s1 ++ (List.replicate (phrase).toNat ([1] : (List Int))).flatten) ++ (List.replicate (rest').toNat ([0] : (List Int))).flatten) (s1 ++ (List.replicate (phrase).toNat ([1] : (List Int))).flatten))).map PyData.int)), .any] ∧ ((cond (decide (k' < (times - 1))) ((s1 ++ (List.replicate (phrase).toNat ([1] : (List Int))).flatten) ++ (List.replicate (rest').toNat ([0] : (List Int))).flatten) (s1 ++ (List.replicate (phrase).toNat ([1] : (List Int))).flatten))).length ≤ (i2 + 1) * 400
      rw [h6]
      exact ⟨⟨.inl rfl, ⟨.inl rfl, ⟨.inl rfl, ⟨.inl rfl, ⟨.inr rfl, trivial⟩⟩⟩⟩⟩, (by simp only [cond_true, cond_false, List.length_append, List.length_map, List.length_cons, List.length_nil, List.length_flatten, List.length_replicate, List.map_replicate, List.sum_replicate_nat, sizeLine_eq]; omega)⟩
  have hf7 : ((((rng 0 ((times : Int)).toNat)).foldl (fun (s1 : (List Int)) (k' : Int) => (cond (decide (k' < (times - 1))) ((s1 ++ (List.replicate (phrase).toNat ([1] : (List Int))).flatten) ++ (List.replicate (rest').toNat ([0] : (List Int))).flatten) (s1 ++ (List.replicate (phrase).toNat ([1] : (List Int))).flatten))) ([] : (List Int)))).length ≤ ((rng 0 ((times : Int)).toNat)).length * 400 := hf7
  show Sts _ [.imm (PyData.int (phrase)), .imm (PyData.int (rest')), .imm (PyData.int (times)), .imm (PyData.tuple (((((rng 0 ((times : Int)).toNat)).foldl (fun (s1 : (List Int)) (k' : Int) => (cond (decide (k' < (times - 1))) ((s1 ++ (List.replicate (phrase).toNat ([1] : (List Int))).flatten) ++ (List.replicate (rest').toNat ([0] : (List Int))).flatten) (s1 ++ (List.replicate (phrase).toNat ([1] : (List Int))).flatten))) ([] : (List Int)))).map PyData.int)), .any] _ _
  refine sts_cons (st_ret ?_)
  refine ev_var (i := 3) (nameOk (by kernel_rfl)) rfl ?_
  have q := p
  exact q
theorem fe_law_row (T : Tx G e_NoSuch) (Df : DefE G "_law_row" s_law_row ["phrase", "rest", "times"]) : FnE G "_law_row" ["phrase", "rest", "times"] 1 (spP G.K G.tabs 3 S_law_row) := by
  obtain ⟨f, fd, Fu, gl, hb⟩ := Df
  exact fnE_P Fu sc_law_row gl hb fun cd ds Post EX _ h => w_law_row T cd ds Post EX h
theorem sc_law_end : FnScope N_law_end ["phrase", "rest", "times", "cycle", "start"] (defScope s_law_end) := ⟨rfl, rfl, rfl, by decide +kernel, rfl, by decide +kernel, by decide +kernel⟩
set_option maxHeartbeats 4000000 in
theorem w_law_end (T : Tx G e_NoSuch) (F_law_row : FnE G "_law_row" ["phrase", "rest", "times"] 1 (spP G.K G.tabs 3 S_law_row)) (cd : Value) (ds : List D) (Post : D → Prop) (EX : Addr → Prop) (h0 : S_law_end ds Post EX) : Sts (G.cfg N_law_end s_law_end 1 cd) (slots0 N_law_end ds) (defBody s_law_end) { nx := fun _ => Post .none, rt := Post, ex := fun c _ => EX c } := by
  obtain ⟨phrase, rest', times, cycle, start, rfl, hpre, p⟩ := h0
  have hb1 := lawrow_bd phrase rest' times (by omega)
  have p : Post (PyData.int (((((rng 0 ((((((law_row phrase rest' times)).length : Int) - 1) : Int)).toNat)).foldl (fun (s1 : Int) (k' : Int) => ((s1 + 1) % cycle)) start) % cycle))) := p
  show Sts _ [.imm (PyData.int (phrase)), .imm (PyData.int (rest')), .imm (PyData.int (times)), .imm (PyData.int (cycle)), .imm (PyData.int (start)), .any, .any] _ _
  refine sts_cons (st_set (i := 5) (storeOk (by kernel_rfl) (.inl rfl)) (Nat.le_of_ble_eq_true rfl) ?_)
  refine ev_var (i := 4) (nameOk (by kernel_rfl)) rfl ?_
  show Sts _ [.imm (PyData.int (phrase)), .imm (PyData.int (rest')), .imm (PyData.int (times)), .imm (PyData.int (cycle)), .imm (PyData.int (start)), .imm (PyData.int (start)), .any] _ _
  refine sts_cons (st_forD (α := Int) (β := Int) rfl ?_)
  refine eit_range1 (globOk (by kernel_rfl)) T.z_range ?_
  refine Ev.o (ev_sub ?_)
  refine Ev.o (ev_lenT PyData.int (globOk (by kernel_rfl)) T.z_len ?_)
  refine Ev.o (ev_call F_law_row (globOk (by kernel_rfl)) (Nat.le_of_ble_eq_true rfl) rfl ?_)
  refine eva_cons ?_
  refine ev_var (i := 0) (nameOk (by kernel_rfl)) rfl ?_
  refine eva_cons ?_
  refine ev_var (i := 1) (nameOk (by kernel_rfl)) rfl ?_
  refine eva_cons ?_
  refine ev_var (i := 2) (nameOk (by kernel_rfl)) rfl ?_
  refine eva_nil ?_
  refine ⟨rfl, phrase, rest', times, rfl, (by walk_at "pre"), ?_⟩
  refine ⟨(law_row phrase rest' times), rfl, ?_⟩
  refine ⟨(((law_row phrase rest' times)).length : Int), rfl, ?_⟩
  refine Ev.o (ev_int ?_)
  refine ⟨1, rfl, ?_⟩
  refine ⟨((((law_row phrase rest' times)).length : Int) - 1), rfl, (by walk_at "side"), (by walk_at "side"), ?_⟩
  refine ⟨(rng 0 ((((((law_row phrase rest' times)).length : Int) - 1) : Int)).toNat), PyData.int, rfl, (fun s1 : Int => [.imm (PyData.int (phrase)), .imm (PyData.int (rest')), .imm (PyData.int (times)), .imm (PyData.int (cycle)), .imm (PyData.int (start)), .imm (PyData.int (s1)), .any]), (fun (i : Nat) (s1 : Int) => True), (fun (s1 : Int) (k' : Int) => ((s1 + 1) % cycle)), start, ⟨.inl rfl, ⟨.inl rfl, ⟨.inl rfl, ⟨.inl rfl, ⟨.inl rfl, ⟨.inl rfl, ⟨.inl rfl, trivial⟩⟩⟩⟩⟩⟩⟩, trivial, ?_, fun hf6 => ?_⟩
  · intro i2 k' s1 hx3 hi4
    have hi4 : True := hi4
    have hx3m := List.mem_of_getElem? hx3
    have hx3b := rng_get hx3
    refine ⟨[6], ?_⟩
    refine evg_name (i := 6) (storeOk (by kernel_rfl) (.inl rfl)) (by simp) (Nat.le_of_ble_eq_true rfl) ?_
    show Sts _ [.imm (PyData.int (phrase)), .imm (PyData.int (rest')), .imm (PyData.int (times)), .imm (PyData.int (cycle)), .imm (PyData.int (start)), .imm (PyData.int (s1)), .imm (PyData.int (k'))] _ _
    refine sts_cons (st_set (i := 5) (storeOk (by kernel_rfl) (.inl rfl)) (Nat.le_of_ble_eq_true rfl) ?_)
    refine ev_mod ?_
    refine Ev.o (ev_toInt (globOk (by kernel_rfl)) T.z_int ?_)
    refine Ev.o (ev_add ?_)
    refine Ev.o (ev_var (i := 5) (nameOk (by kernel_rfl)) rfl ?_)
    refine ⟨s1, rfl, ?_⟩
    refine Ev.o (ev_int ?_)
    refine ⟨1, rfl, ?_⟩
    refine ⟨(s1 + 1), rfl, ?_⟩
    refine ⟨(s1 + 1), rfl, ?_⟩
    refine Ev.o (ev_var (i := 3) (nameOk (by kernel_rfl)) rfl ?_)
    refine ⟨cycle, rfl, (by walk_at "side"), ?_⟩
    show Sts _ [.imm (PyData.int (phrase)), .imm (PyData.int (rest')), .imm (PyData.int (times)), .imm (PyData.int (cycle)), .imm (PyData.int (start)), .imm (PyData.int (((s1 + 1) % cycle))), .imm (PyData.int (k'))] _ _
    refine sts_nil ?_
    show Weak [.imm (PyData.int (phrase)), .imm (PyData.int (rest')), .imm (PyData.int (times)), .imm (PyData.int (cycle)), .imm (PyData.int (start)), .imm (PyData.int (((s1 + 1) % cycle))), .imm (PyData.int (k'))] [.imm (PyData.int (phrase)), .imm (PyData.int (rest')), .imm (PyData.int (times)), .imm (PyData.int (cycle)), .imm (PyData.int (start)), .imm (PyData.int (((s1 + 1) % cycle))), .any] ∧ True
    exact ⟨⟨.inl rfl, ⟨.inl rfl, ⟨.inl rfl, ⟨.inl rfl, ⟨.inl rfl, ⟨.inl rfl, ⟨.inr rfl, trivial⟩⟩⟩⟩⟩⟩⟩, trivial⟩
  show Sts _ [.imm (PyData.int (phrase)), .imm (PyData.int (rest')), .imm (PyData.int (times)), .imm (PyData.int (cycle)), .imm (PyData.int (start)), .imm (PyData.int ((((rng 0 ((((((law_row phrase rest' times)).length : Int) - 1) : Int)).toNat)).foldl (fun (s1 : Int) (k' : Int) => ((s1 + 1) % cycle)) start))), .any] _ _
  refine sts_cons (st_ret ?_)
  refine ev_mod ?_
  refine Ev.o (ev_toInt (globOk (by kernel_rfl)) T.z_int ?_)
  refine Ev.o (ev_var (i := 5) (nameOk (by kernel_rfl)) rfl ?_)
  refine ⟨(((rng 0 ((((((law_row phrase rest' times)).length : Int) - 1) : Int)).toNat)).foldl (fun (s1 : Int) (k' : Int) => ((s1 + 1) % cycle)) start), rfl, ?_⟩
  refine ⟨(((rng 0 ((((((law_row phrase rest' times)).length : Int) - 1) : Int)).toNat)).foldl (fun (s1 : Int) (k' : Int) => ((s1 + 1) % cycle)) start), rfl, ?_⟩
  refine Ev.o (ev_var (i := 3) (nameOk (by kernel_rfl)) rfl ?_)
  refine ⟨cycle, rfl, (by walk_at "side"), ?_⟩
  have q := p
  exact q
theorem fe_law_end (T : Tx G e_NoSuch) (Df : DefE G "_law_end" s_law_end ["phrase", "rest", "times", "cycle", "start"]) (F_law_row : FnE G "_law_row" ["phrase", "rest", "times"] 1 (spP G.K G.tabs 3 S_law_row)) : FnE G "_law_end" ["phrase", "rest", "times", "cycle", "start"] 2 (spP G.K G.tabs 5 S_law_end) := by
  obtain ⟨f, fd, Fu, gl, hb⟩ := Df
  exact fnE_P Fu sc_law_end gl hb fun cd ds Post EX _ h => w_law_end T F_law_row cd ds Post EX h
theorem sc_law_refused : FnScope N_law_refused ["plan"] (defScope s_law_refused) := ⟨rfl, rfl, rfl, by decide +kernel, rfl, by decide +kernel, by decide +kernel⟩
set_option maxHeartbeats 4000000 in
theorem w_law_refused (T : Tx G e_NoSuch) (F_is_sounding : FnE G "is_sounding" ["plan", "place"] 2 (spP G.K G.tabs 2 (S_is_sounding e_NoSuch))) (F_length_of : FnE G "length_of" ["plan"] 1 (spP G.K G.tabs 1 S_length_of)) (cd : Value) (ds : List D) (Post : D → Prop) (EX : Addr → Prop) (h0 : S_law_refused ds Post EX) : Sts (G.cfg N_law_refused s_law_refused 2 cd) (slots0 N_law_refused ds) (defBody s_law_refused) { nx := fun _ => Post .none, rt := Post, ex := fun c _ => EX c } := by
  obtain ⟨plan, rfl, hpre, p⟩ := h0
  have p : Post (PyData.bool ((cond ((is_sounding plan (length_of plan)).isNone) true false))) := p
  show Sts _ [.imm (PyData.tuple [PyData.int ((plan).1), PyData.int ((plan).2.1), PyData.int ((plan).2.2)])] _ _
  refine sts_cons (st_try (c := .ref e_NoSuch) (fun c Γ2 => c = e_NoSuch ∧ Γ2 = [.imm (PyData.tuple [PyData.int ((plan).1), PyData.int ((plan).2.1), PyData.int ((plan).2.2)])] ∧ (is_sounding plan (length_of plan)) = none) (globOk (by kernel_rfl)) (.inl T.x_NoSuch.gl) ?_ ?_)
  · refine sts_cons (st_exprX ?_)
    refine ev_callX F_is_sounding (globOk (by kernel_rfl)) (Nat.le_of_ble_eq_true rfl) rfl ?_
    refine eva_cons ?_
    refine ev_var (i := 0) (nameOk (by kernel_rfl)) rfl ?_
    refine eva_cons ?_
    refine ev_call F_length_of (globOk (by kernel_rfl)) (Nat.le_of_ble_eq_true rfl) rfl ?_
    refine eva_cons ?_
    refine ev_var (i := 0) (nameOk (by kernel_rfl)) rfl ?_
    refine eva_nil ?_
    refine ⟨rfl, plan, rfl, (by walk_at "pre"), ?_⟩
    refine eva_nil ?_
    refine ⟨rfl, fun c => c = e_NoSuch ∧ (is_sounding plan (length_of plan)) = none, ⟨plan, (length_of plan), rfl, (by walk_at "pre"), fun v hv => ?_, fun hn => ⟨rfl, hn⟩⟩, fun c hc => ⟨hc.1, rfl, hc.2⟩⟩
    refine sts_nil ?_
    show Sts _ [.imm (PyData.tuple [PyData.int ((plan).1), PyData.int ((plan).2.1), PyData.int ((plan).2.2)])] _ _
    have h1 : (is_sounding plan (length_of plan)).isNone = false := by rw [hv] <;> rfl
    refine sts_cons (st_ret ?_)
    refine ev_bool ?_
    have q := p
    rw [h1] at q
    exact q
  · rintro c Γ2 ⟨rfl, rfl, hn⟩
    have h1 : (is_sounding plan (length_of plan)).isNone = true := by rw [hn] <;> rfl
    refine ⟨true, T.y_NoSuch, fun _ => ?_, fun z => by cases z⟩
    show Sts _ [.imm (PyData.tuple [PyData.int ((plan).1), PyData.int ((plan).2.1), PyData.int ((plan).2.2)])] _ _
    refine sts_cons (st_ret ?_)
    refine ev_bool ?_
    have q := p
    rw [h1] at q
    exact q
theorem fe_law_refused (T : Tx G e_NoSuch) (Df : DefE G "_law_refused" s_law_refused ["plan"]) (F_is_sounding : FnE G "is_sounding" ["plan", "place"] 2 (spP G.K G.tabs 2 (S_is_sounding e_NoSuch))) (F_length_of : FnE G "length_of" ["plan"] 1 (spP G.K G.tabs 1 S_length_of)) : FnE G "_law_refused" ["plan"] 3 (spP G.K G.tabs 1 S_law_refused) := by
  obtain ⟨f, fd, Fu, gl, hb⟩ := Df
  exact fnE_P Fu sc_law_refused gl hb fun cd ds Post EX _ h => w_law_refused T F_is_sounding F_length_of cd ds Post EX h
theorem sc_law_draw : FnScope N_law_draw ["state", "limit"] (defScope s_law_draw) := ⟨rfl, rfl, rfl, by decide +kernel, rfl, by decide +kernel, by decide +kernel⟩
theorem fe_law_draw (T : Tx G e_NoSuch) (Df : DefE G "_law_draw" s_law_draw ["state", "limit"]) : FnE G "_law_draw" ["state", "limit"] 1 (spS G.K G.tabs 1 SDraw) := by
  obtain ⟨f, fd, Fu, gl, hb⟩ := Df
  refine fnE_S (p0 := "state") (N' := ["limit", "position", "cell", "mixed", "digit"]) Fu sc_law_draw gl hb fun cd ns ds Post _ h => ?_
  obtain ⟨n, rfl, hn, hl, p⟩ := h
  show Sts _ [.st ns, .imm (.int n), .any, .any, .any, .any] _ _
  refine sts_cut (fun Γ2 => Weak Γ2 [.st ns, .imm (.int n), .any, .any, .any, .any]) (st_if ?_) fun Γ2 w => ?_
  · refine CmpK.t kLt ?_ rfl
    refine Ev.o (ev_st0 (i := 0) (nameOk (by kernel_rfl)) rfl (ev_int rfl) fun m => ?_)
    refine Ev.o (ev_var (i := 1) (nameOk (by kernel_rfl)) rfl ?_)
    refine ⟨decide (m < n), ⟨m, n, rfl, rfl, rfl⟩, fun _ => ?_, fun _ => sts_nil ⟨.inl rfl, .inl rfl, .inl rfl, .inl rfl, .inl rfl, .inl rfl, trivial⟩⟩
    refine sts_cons (st_set (i := 2) (storeOk (by kernel_rfl) (.inl rfl)) (Nat.le_of_ble_eq_true rfl) ?_)
    refine ev_st1 (i := 0) (nameOk (by kernel_rfl)) rfl (ev_int rfl) fun q hq => ?_
    show Sts _ [.st ns, .imm (.int n), .imm (.int q), .any, .any, .any] _ _
    refine sts_cons (st_itemS (i := 0) (nameOk (by kernel_rfl)) rfl ?_)
    refine ev_add ?_
    refine Ev.o (ev_var (i := 2) (nameOk (by kernel_rfl)) rfl ?_)
    refine ⟨q, rfl, ?_⟩
    refine Ev.o (ev_int ?_)
    refine ⟨1, rfl, ?_⟩
    refine ⟨q + 1, rfl, ?_⟩
    refine ev_int ?_
    refine ⟨.inr (.inl ⟨rfl, by omega⟩), ?_⟩
    show Sts _ [.st ns, .imm (.int n), .imm (.int q), .any, .any, .any] _ _
    refine sts_cons (st_set (i := 3) (storeOk (by kernel_rfl) (.inl rfl)) (Nat.le_of_ble_eq_true rfl) ?_)
    refine ev_int ?_
    show Sts _ [.st ns, .imm (.int n), .imm (.int q), .imm (.int 0), .any, .any] _ _
    refine sts_cut (fun Γ2 => ∃ c : Int, Weak Γ2 [.st ns, .imm (.int n), .imm (.int q), .imm (.int c), .any, .any]) (st_if ?_) fun Γ2 ⟨c, w⟩ => ?_
    · refine CmpK.t kLt ?_ rfl
      refine Ev.o (ev_var (i := 2) (nameOk (by kernel_rfl)) rfl ?_)
      refine Ev.o (ev_lenL PyData.int (globOk (by kernel_rfl)) T.z_len ?_)
      refine Ev.o (ev_st2 (i := 0) (nameOk (by kernel_rfl)) rfl (ev_int rfl) ?_)
      refine ⟨ns, rfl, ?_⟩
      refine ⟨decide (q < (ns.length : Int)), ⟨q, (ns.length : Int), rfl, rfl, rfl⟩, fun h1 => ?_, fun _ => sts_nil ⟨0, .inl rfl, .inl rfl, .inl rfl, .inl rfl, .inl rfl, .inl rfl, trivial⟩⟩
      refine sts_cons (st_set (i := 3) (storeOk (by kernel_rfl) (.inl rfl)) (Nat.le_of_ble_eq_true rfl) ?_)
      refine ev_ixL PyData.int ?_
      refine Ev.o (ev_st2 (i := 0) (nameOk (by kernel_rfl)) rfl (ev_int rfl) ?_)
      refine ⟨ns, rfl, ?_⟩
      refine Ev.o (ev_var (i := 2) (nameOk (by kernel_rfl)) rfl ?_)
      refine ⟨q, atD ns q, rfl, atD_ok (by omega) (of_decide_eq_true h1), ?_⟩
      exact sts_nil ⟨atD ns q, .inl rfl, .inl rfl, .inl rfl, .inl rfl, .inl rfl, .inl rfl, trivial⟩
    · refine Sts.weak w ?_
      refine sts_cons (st_if ?_)
      refine CmpK.t kGe ?_ rfl
      refine Ev.o (ev_var (i := 3) (nameOk (by kernel_rfl)) rfl ?_)
      refine Ev.o (ev_pow ?_)
      refine Ev.o (ev_int ?_)
      refine ⟨10, rfl, ?_⟩
      refine Ev.o (ev_int ?_)
      refine ⟨18, rfl, ⟨by decide, by decide, by decide⟩, ?_⟩
      refine ⟨decide ((10 : Int) ^ (18 : Int).toNat ≤ c), ⟨c, _, rfl, rfl, rfl⟩, fun _ => ?_, fun _ => ?_⟩
      · refine sts_cons (st_itemS (i := 0) (nameOk (by kernel_rfl)) rfl ?_)
        refine ev_var (i := 3) (nameOk (by kernel_rfl)) rfl ?_
        refine ⟨c, rfl, ?_⟩
        refine ev_int ?_
        refine ⟨.inl rfl, ?_⟩
        refine sts_nil ?_
        exact sts_nil ⟨.inl rfl, .inl rfl, .inr rfl, .inr rfl, .inl rfl, .inl rfl, trivial⟩
      · refine sts_cons (st_itemS (i := 0) (nameOk (by kernel_rfl)) rfl ?_)
        refine ev_mod ?_
        refine Ev.o (ev_toInt (globOk (by kernel_rfl)) T.z_int ?_)
        refine Ev.o (ev_mul ?_)
        refine Ev.o (ev_add ?_)
        refine Ev.o (ev_add ?_)
        refine Ev.o (ev_add ?_)
        refine Ev.o (ev_st3 (i := 0) (nameOk (by kernel_rfl)) rfl (ev_int rfl) fun a3 => ?_)
        refine ⟨a3, rfl, ?_⟩
        refine Ev.o (ev_mod ?_)
        refine Ev.o (ev_toInt (globOk (by kernel_rfl)) T.z_int ?_)
        refine Ev.o (ev_var (i := 3) (nameOk (by kernel_rfl)) rfl ?_)
        refine ⟨c, rfl, ?_⟩
        refine ⟨c, rfl, ?_⟩
        refine Ev.o (ev_int ?_)
        refine ⟨2147483629, rfl, by decide, ?_⟩
        refine ⟨_, rfl, ?_⟩
        refine ⟨_, rfl, ?_⟩
        refine Ev.o (ev_var (i := 2) (nameOk (by kernel_rfl)) rfl ?_)
        refine ⟨q, rfl, ?_⟩
        refine ⟨_, rfl, ?_⟩
        refine Ev.o (ev_int ?_)
        refine ⟨1, rfl, ?_⟩
        refine ⟨_, rfl, ?_⟩
        refine Ev.o (ev_int ?_)
        refine ⟨48271, rfl, Or.inr ⟨by decide, by decide⟩, ?_⟩
        refine ⟨_, rfl, ?_⟩
        refine ⟨_, rfl, ?_⟩
        refine Ev.o (ev_int ?_)
        refine ⟨2147483647, rfl, by decide, ?_⟩
        refine ⟨_, rfl, ?_⟩
        refine ev_int ?_
        refine ⟨.inr (.inr rfl), ?_⟩
        show Sts _ [.st ns, .imm (.int n), .imm (.int q), .imm (.int c), .any, .any] _ _
        refine sts_cons (st_set (i := 4) (storeOk (by kernel_rfl) (.inl rfl)) (Nat.le_of_ble_eq_true rfl) ?_)
        refine ev_mod ?_
        refine Ev.o (ev_toInt (globOk (by kernel_rfl)) T.z_int ?_)
        refine Ev.o (ev_add ?_)
        refine Ev.o (ev_mul ?_)
        refine Ev.o (ev_st3 (i := 0) (nameOk (by kernel_rfl)) rfl (ev_int rfl) fun b3 => ?_)
        refine ⟨b3, rfl, ?_⟩
        refine Ev.o (ev_int ?_)
        refine ⟨69621, rfl, Or.inr ⟨by decide, by decide⟩, ?_⟩
        refine ⟨_, rfl, ?_⟩
        refine Ev.o (ev_int ?_)
        refine ⟨11, rfl, ?_⟩
        refine ⟨_, rfl, ?_⟩
        refine ⟨_, rfl, ?_⟩
        refine Ev.o (ev_int ?_)
        refine ⟨2147483629, rfl, by decide, ?_⟩
        generalize (b3 * 69621 + 11) % 2147483629 = mx
        show Sts _ [.st ns, .imm (.int n), .imm (.int q), .imm (.int c), .imm (.int mx), .any] _ _
        refine sts_cons (st_itemS (i := 0) (nameOk (by kernel_rfl)) rfl ?_)
        refine ev_add ?_
        refine Ev.o (ev_mul ?_)
        refine Ev.o (ev_var (i := 4) (nameOk (by kernel_rfl)) rfl ?_)
        refine ⟨mx, rfl, ?_⟩
        refine Ev.o (ev_int ?_)
        refine ⟨2147483647, rfl, Or.inr ⟨by decide, by decide⟩, ?_⟩
        refine ⟨_, rfl, ?_⟩
        refine Ev.o (ev_mod ?_)
        refine Ev.o (ev_toInt (globOk (by kernel_rfl)) T.z_int ?_)
        refine Ev.o (ev_add ?_)
        refine Ev.o (ev_mul ?_)
        refine Ev.o (ev_var (i := 4) (nameOk (by kernel_rfl)) rfl ?_)
        refine ⟨mx, rfl, ?_⟩
        refine Ev.o (ev_int ?_)
        refine ⟨30011, rfl, Or.inr ⟨by decide, by decide⟩, ?_⟩
        refine ⟨_, rfl, ?_⟩
        refine Ev.o (ev_st3 (i := 0) (nameOk (by kernel_rfl)) rfl (ev_int rfl) fun d3 => ?_)
        refine ⟨d3, rfl, ?_⟩
        refine ⟨_, rfl, ?_⟩
        refine ⟨_, rfl, ?_⟩
        refine Ev.o (ev_int ?_)
        refine ⟨2147483587, rfl, by decide, ?_⟩
        refine ⟨_, rfl, ?_⟩
        refine ⟨_, rfl, ?_⟩
        refine ev_int ?_
        refine ⟨.inl rfl, ?_⟩
        refine sts_nil ?_
        exact sts_nil ⟨.inl rfl, .inl rfl, .inr rfl, .inr rfl, .inr rfl, .inl rfl, trivial⟩
  · refine Sts.weak w ?_
    refine sts_cons (st_set (i := 5) (storeOk (by kernel_rfl) (.inl rfl)) (Nat.le_of_ble_eq_true rfl) ?_)
    refine ev_mod ?_
    refine Ev.o (ev_toInt (globOk (by kernel_rfl)) T.z_int ?_)
    refine Ev.o (ev_st0 (i := 0) (nameOk (by kernel_rfl)) rfl (ev_int rfl) fun m => ?_)
    refine ⟨m, rfl, ?_⟩
    refine ⟨m, rfl, ?_⟩
    refine Ev.o (ev_var (i := 1) (nameOk (by kernel_rfl)) rfl ?_)
    refine ⟨n, rfl, hn, ?_⟩
    show Sts _ [.st ns, .imm (.int n), .any, .any, .any, .imm (.int (m % n))] _ _
    refine sts_cons (st_itemS (i := 0) (nameOk (by kernel_rfl)) rfl ?_)
    refine ev_fdivW ?_
    refine Ev.o (ev_st0 (i := 0) (nameOk (by kernel_rfl)) rfl (ev_int rfl) fun m2 => ?_)
    refine ⟨m2, rfl, ?_⟩
    refine Ev.o (ev_var (i := 1) (nameOk (by kernel_rfl)) rfl ?_)
    refine ⟨n, rfl, ⟨hn, hl⟩, ?_⟩
    refine ⟨_, rfl, ?_⟩
    refine ev_int ?_
    refine ⟨.inl rfl, ?_⟩
    show Sts _ [.st ns, .imm (.int n), .any, .any, .any, .imm (.int (m % n))] _ _
    refine sts_cons (st_ret ?_)
    refine ev_var (i := 5) (nameOk (by kernel_rfl)) rfl ?_
    exact p _ (Int.emod_nonneg _ (by omega)) (Int.emod_lt_of_pos _ hn)

end

/-! ### the mathematics -/
theorem rep1 (n : Nat) (x : Int) : (List.replicate n [x]).flatten = List.replicate n x := by
  induction n with
  | zero => rfl
  | succ n ih => rw [List.replicate_succ, List.flatten_cons, ih, List.replicate_succ]; rfl
theorem rng_succ (lo : Int) (n : Nat) : rng lo (n + 1) = rng lo n ++ [lo + (n : Int)] := by
  unfold rng
  rw [List.range_succ, List.map_append]
  rfl
theorem rng_add (lo : Int) (m : Nat) : ∀ n : Nat, rng lo (m + n) = rng lo m ++ rng (lo + (m : Int)) n
  | 0 => by simp [rng]
  | n + 1 => by
    rw [← Nat.add_assoc, rng_succ, rng_add lo m n, rng_succ, List.append_assoc]
    congr 3
    omega
/-- (B t times) P -/
def rowB (p r n : Nat) : List Int := (List.replicate n (List.replicate p (1 : Int) ++ List.replicate r 0)).flatten ++ List.replicate p 1
theorem row_fold (p r : Nat) (t : Int) : ∀ n : Nat, (n : Int) ≤ t - 1 → (rng 0 n).foldl (fun (s : List Int) (k : Int) => cond (decide (k < t - 1)) ((s ++ List.replicate p 1) ++ List.replicate r 0) (s ++ List.replicate p 1)) [] = (List.replicate n (List.replicate p (1 : Int) ++ List.replicate r 0)).flatten
  | 0, _ => rfl
  | n + 1, h => by
    rw [rng_succ, List.foldl_append, row_fold p r t n (by omega), List.foldl_cons, List.foldl_nil, decide_eq_true (by omega), cond_true, List.replicate_succ', List.flatten_concat, List.append_assoc]
theorem law_row_eq {p r t : Int} (ht : 1 ≤ t) : law_row p r t = rowB p.toNat r.toNat (t - 1).toNat := by
  unfold law_row rowB
  simp only [rep1]
  have e : (t : Int).toNat = (t - 1).toNat + 1 := by omega
  rw [e, rng_succ, List.foldl_append, row_fold _ _ t _ (by omega), List.foldl_cons, List.foldl_nil, decide_eq_false (by omega), cond_false]
theorem rowB_len (p r n : Nat) : (rowB p r n).length = n * (p + r) + p := by
  unfold rowB
  simp [List.length_flatten]
def bitAt (p r : Nat) (i : Nat) : Int := if i % (p + r) < p then 1 else 0
theorem bits_low (p r : Nat) : (List.range p).map (bitAt p r) = List.replicate p 1 := by
  apply List.ext_getElem
  · simp
  · intro i h1 h2
    have hi : i < p := by simpa using h1
    simp only [List.getElem_map, List.getElem_range, List.getElem_replicate, bitAt]
    rw [Nat.mod_eq_of_lt (by omega), if_pos hi]
theorem bits_block (p r : Nat) : (List.range (p + r)).map (bitAt p r) = List.replicate p 1 ++ List.replicate r 0 := by
  rw [List.range_add, List.map_append, bits_low, List.map_map]
  congr 1
  apply List.ext_getElem
  · simp
  · intro i h1 h2
    have hi : i < r := by simpa using h1
    simp only [List.getElem_map, List.getElem_range, List.getElem_replicate, Function.comp, bitAt]
    rw [Nat.mod_eq_of_lt (by omega), if_neg (by omega)]
theorem bits_shift (p r i : Nat) : bitAt p r (p + r + i) = bitAt p r i := by
  unfold bitAt
  rw [Nat.add_mod_left]
theorem rowB_bits (p r : Nat) : ∀ n : Nat, rowB p r n = (List.range (n * (p + r) + p)).map (bitAt p r)
  | 0 => by
    rw [Nat.zero_mul, Nat.zero_add, bits_low]
    rfl
  | n + 1 => by
    have e : (n + 1) * (p + r) + p = (p + r) + (n * (p + r) + p) := by rw [Nat.succ_mul]; omega
    rw [e, List.range_add, List.map_append, bits_block, List.map_map]
    have e2 : (bitAt p r ∘ fun x => p + r + x) = bitAt p r := funext fun i => bits_shift p r i
    rw [e2, ← rowB_bits p r n]
    unfold rowB
    rw [List.replicate_succ, List.flatten_cons, List.append_assoc]
theorem len_int {p r t : Int} (hp : 0 < p) (hr : 0 ≤ r) (ht : 1 ≤ t) : (((t - 1).toNat * (p.toNat + r.toNat) + p.toNat : Nat) : Int) = length_of (p, r, t) := by
  unfold length_of
  rw [Int.natCast_add, Int.natCast_mul, Int.natCast_add, Int.toNat_of_nonneg (by omega), Int.toNat_of_nonneg (by omega), Int.toNat_of_nonneg (by omega)]
  show (t - 1) * (p + r) + p = p * t + r * (t - 1)
  rw [Int.sub_mul, Int.mul_add, Int.mul_sub, Int.mul_comm t p, Int.mul_comm t r]
  omega
theorem law_row_len {p r t : Int} (hp : 0 < p) (hr : 0 ≤ r) (ht : 1 ≤ t) : ((law_row p r t).length : Int) = length_of (p, r, t) := by
  rw [law_row_eq ht, rowB_len, len_int hp hr ht]
theorem len_pos {p r t : Int} (hp : 0 < p) (hr : 0 ≤ r) (ht : 1 ≤ t) : 0 < length_of (p, r, t) := by
  unfold length_of
  have h1 : 0 < p * t := Int.mul_pos hp (by omega)
  have h2 : 0 ≤ r * (t - 1) := Int.mul_nonneg hr (by omega)
  show 0 < p * t + r * (t - 1)
  omega
theorem bit_int {p r : Int} (hp : 0 < p) (hr : 0 ≤ r) (i : Nat) : bitAt p.toNat r.toNat i = if ((i : Int) % (p + r) < p) then 1 else 0 := by
  unfold bitAt
  have e : ((i % (p.toNat + r.toNat) : Nat) : Int) = (i : Int) % (p + r) := by
    rw [Int.natCast_emod, Int.natCast_add, Int.toNat_of_nonneg (by omega), Int.toNat_of_nonneg (by omega)]
  by_cases h : i % (p.toNat + r.toNat) < p.toNat
  · rw [if_pos h, if_pos (by omega)]
  · rw [if_neg h, if_neg (by omega)]
theorem sound_eq {p r t place : Int} (h0 : 0 ≤ place) (h1 : place < length_of (p, r, t)) : is_sounding (p, r, t) place = some (decide (place % (p + r) < p)) := by
  unfold is_sounding
  rw [decide_eq_true h0, decide_eq_true h1]
  rfl
theorem row_of_eq {p r t : Int} (hp : 0 < p) (hr : 0 ≤ r) (ht : 1 ≤ t) : row_of (p, r, t) = law_row p r t := by
  rw [law_row_eq ht, rowB_bits]
  unfold row_of rng
  have hl := len_int hp hr ht
  have e : (length_of (p, r, t)).toNat = (t - 1).toNat * (p.toNat + r.toNat) + p.toNat := by omega
  rw [e, List.map_map]
  apply List.map_congr_left
  intro i hi
  have hi' := List.mem_range.mp hi
  show (if ((is_sounding (p, r, t) (0 + (i : Int))).getD default) = true then (1 : Int) else 0) = bitAt p.toNat r.toNat i
  rw [sound_eq (by omega) (by omega), bit_int hp hr, Int.zero_add]
  show (if decide ((i : Int) % (p + r) < p) = true then (1 : Int) else 0) = _
  simp only [decide_eq_true_eq]
theorem law_row_at {p r t place : Int} (hp : 0 < p) (hr : 0 ≤ r) (ht : 1 ≤ t) (h0 : 0 ≤ place) (h1 : place < length_of (p, r, t)) : atD (law_row p r t) place = if place % (p + r) < p then 1 else 0 := by
  have hl := len_int hp hr ht
  have h2 := atD_pos (xs := law_row p r t) (i := place) h0 (by rw [law_row_len hp hr ht]; exact h1)
  rw [law_row_eq ht, rowB_bits, List.getElem?_map, List.getElem?_range (by omega)] at h2
  rw [law_row_eq ht, rowB_bits]
  have := Option.some.inj h2
  rw [← this, bit_int hp hr, Int.toNat_of_nonneg h0]
/-! one turn after another -/
theorem fold_mod (c : Int) : ∀ (xs : List Int) (s : Int), (xs.foldl (fun (s : Int) (_ : Int) => (s + 1) % c) s) % c = (s + (xs.length : Int)) % c
  | [], s => by simp
  | x :: xs, s => by
    rw [List.foldl_cons, fold_mod c xs, List.length_cons]
    rw [Int.add_emod ((s + 1) % c), Int.emod_emod_of_dvd _ (Int.dvd_refl c), ← Int.add_emod]
    congr 1
    omega
theorem law_end_eq {p r t c s : Int} (hp : 0 < p) (hr : 0 ≤ r) (ht : 1 ≤ t) : law_end p r t c s = end_from (p, r, t) c s := by
  unfold law_end end_from
  rw [fold_mod, rng_len]
  have h1 := law_row_len hp hr ht
  have h2 := len_pos hp hr ht
  congr 1
  omega
theorem atD_head {xs : List Int} {x : Int} (h : xs.head? = some x) : atD xs 0 = x := by
  cases xs with
  | nil => cases h
  | cons y r =>
    have := Option.some.inj h
    subst this
    have h2 := atD_pos (xs := y :: r) (i := 0) (Int.le_refl 0) (by rw [List.length_cons]; omega)
    exact (Option.some.inj h2).symm
/-- the first of a range of which f holds -/
theorem first_of {f : Int → Bool} {x : Int} {lo : Int} : ∀ {n : Nat}, lo ≤ x → x < lo + n → f x = true → (∀ y, lo ≤ y → y < x → f y = false) → ((rng lo n).filter f).head? = some x := fun {n} h1 h2 h3 h4 => by
  have e : n = (x - lo).toNat + (1 + (n - (x - lo).toNat - 1)) := by omega
  rw [e, rng_add, List.filter_append]
  have e0 : (rng lo (x - lo).toNat).filter f = [] := List.filter_eq_nil_iff.mpr fun y hy => by
    have := mem_rng hy
    rw [h4 y (by omega) (by omega)]
    simp
  rw [e0, List.nil_append, rng_add, List.filter_append]
  have e1 : rng (lo + ((x - lo).toNat : Int)) 1 = [x] := by
    unfold rng
    simp
    omega
  rw [e1, List.filter_cons, if_pos h3]
  rfl
theorem find_uniq {f : Int → Bool} {x lo : Int} {n : Nat} (h1 : lo ≤ x) (h2 : x < lo + n) (h3 : ∀ y, lo ≤ y → y < lo + n → (f y = true ↔ y = x)) : (rng lo n).filter f = [x] := by
  have e : n = (x - lo).toNat + (1 + (n - (x - lo).toNat - 1)) := by omega
  rw [e, rng_add, List.filter_append]
  have e0 : (rng lo (x - lo).toNat).filter f = [] := List.filter_eq_nil_iff.mpr fun y hy => by
    have := mem_rng hy
    rw [h3 y (by omega) (by omega)]
    omega
  rw [e0, List.nil_append, rng_add, List.filter_append]
  have e1 : rng (lo + ((x - lo).toNat : Int)) 1 = [x] := by
    unfold rng
    simp
    omega
  rw [e1, List.filter_cons, if_pos ((h3 x h1 h2).mpr rfl)]
  have e2 : (rng (lo + ((x - lo).toNat : Int) + ((1 : Nat) : Int)) (n - (x - lo).toNat - 1)).filter f = [] := List.filter_eq_nil_iff.mpr fun y hy => by
    have := mem_rng hy
    rw [h3 y (by omega) (by omega)]
    omega
  rw [e2]
  rfl
theorem mod_start {c L y : Int} (hc : 0 < c) (h0 : 0 ≤ y) (h1 : y < c) : (y + L - 1) % c = 0 ↔ y = (1 - L) % c := by
  constructor
  · intro h
    have d1 : c ∣ y + L - 1 := Int.dvd_of_emod_eq_zero h
    obtain ⟨q, hq⟩ := d1
    have e : 1 - L = y + c * (-q) := by rw [Int.mul_neg]; omega
    rw [e, Int.add_mul_emod_self_left, Int.emod_eq_of_lt h0 h1]
  · intro h
    have d := Int.emod_add_mul_ediv (1 - L) c
    have e : y + L - 1 = c * (-((1 - L) / c)) := by rw [Int.mul_neg]; omega
    rw [e, Int.mul_emod_right]
theorem isEmpty_of {α : Type} {l : List α} {x : α} (h : l.head? = some x) : 0 < (l.length : Int) := by
  cases l with
  | nil => cases h
  | cons y r => rw [List.length_cons]; omega
theorem map_id' {α : Type} (l : List α) : l.map (fun x => x) = l := List.map_id' l
theorem c1_ {p r t : Int} (hp : 0 < p) (hp2 : p ≤ 12) (hr : 0 ≤ r) (hr2 : r ≤ 8) (ht : 2 ≤ t) (ht2 : t ≤ 5) : ((!decide ((is_plan (PyData.tuple [PyData.int p, PyData.int r, PyData.int t])) = true)) || ((!decide ((length_of (p, r, t)) = (((law_row p r t)).length : Int))) || ((!decide ((row_of (p, r, t)) = (law_row p r t))) || (!(law_refused (p, r, t)))))) = false := by
  have e1 : is_plan (PyData.tuple [PyData.int p, PyData.int r, PyData.int t]) = true := by
    show (true && (decide (((3 : Nat) : Int) = 3) && ((is_integer (PyData.int p) 1 1000) && ((is_integer (PyData.int r) 0 1000) && (is_integer (PyData.int t) 2 9))))) = true
    show (true && (decide (((3 : Nat) : Int) = 3) && ((cond false false ((false || decide (1 ≤ p)) && (false || decide (p ≤ 1000)))) && ((cond false false ((false || decide (0 ≤ r)) && (false || decide (r ≤ 1000)))) && (cond false false ((false || decide (2 ≤ t)) && (false || decide (t ≤ 9)))))))) = true
    rw [decide_eq_true (show 1 ≤ p by omega), decide_eq_true (show p ≤ 1000 by omega), decide_eq_true (show 0 ≤ r by omega), decide_eq_true (show r ≤ 1000 by omega), decide_eq_true (show 2 ≤ t by omega), decide_eq_true (show t ≤ 9 by omega)]
    rfl
  have e4 : law_refused (p, r, t) = true := by
    unfold law_refused is_sounding
    rw [decide_eq_false (show ¬ length_of (p, r, t) < length_of (p, r, t) by omega)]
    simp
  rw [e1, law_row_len hp hr (by omega), row_of_eq hp hr (by omega), e4]
  simp
theorem c2_ {p r t c s : Int} (hp : 0 < p) (hr : 0 ≤ r) (ht : 1 ≤ t) : (!decide ((end_from (p, r, t) c s) = (law_end p r t c s))) = false := by
  rw [law_end_eq hp hr ht, decide_eq_true rfl]
  rfl
theorem head_start {p r t c : Int} (hp : 0 < p) (hr : 0 ≤ r) (ht : 1 ≤ t) (hc : 0 < c) : ((((rng 0 ((c : Int)).toNat)).filter (fun place : Int => decide ((law_end p r t c place) = 0))).map (fun place : Int => place)).head? = some (start_for (p, r, t) c) := by
  rw [map_id']
  have h1 := Int.emod_nonneg (1 - length_of (p, r, t)) (show c ≠ 0 by omega)
  have h2 := Int.emod_lt_of_pos (1 - length_of (p, r, t)) hc
  refine first_of (x := (1 - length_of (p, r, t)) % c) h1 (by omega) ?_ fun y h3 h4 => ?_
  · rw [law_end_eq hp hr ht]
    exact decide_eq_true ((mod_start hc h1 h2).mpr rfl)
  · rw [law_end_eq hp hr ht]
    exact decide_eq_false fun z => by
      have := (mod_start hc h3 (by omega)).mp z
      omega
theorem head_cycles {p r t c : Int} (hp : 0 < p) (hr : 0 ≤ r) (ht : 1 ≤ t) (hc : 0 < c) : ((((rng 0 ((((((law_row p r t)).length : Int) + 1) : Int)).toNat)).filter (fun k' : Int => decide (((((law_row p r t)).length : Int) - 1) ≤ (k' * c)))).map (fun k' : Int => k')).head? = some (cycles_of (p, r, t) c) := by
  rw [map_id', law_row_len hp hr ht]
  have h0 := len_pos hp hr ht
  unfold cycles_of
  generalize length_of (p, r, t) = L at *
  have d := Int.emod_add_mul_ediv (L - 1 + c - 1) c
  have m1 := Int.emod_nonneg (L - 1 + c - 1) (show c ≠ 0 by omega)
  have m2 := Int.emod_lt_of_pos (L - 1 + c - 1) hc
  generalize hq : (L - 1 + c - 1) / c = q at *
  have hq0 : 0 ≤ q := by rw [← hq]; exact Int.ediv_nonneg (by omega) (by omega)
  have hqL : q ≤ L - 1 := by
    rw [← hq]
    have : (L - 1 + c - 1) / c < L := Int.ediv_lt_of_lt_mul hc (by
      have : L * c = (L - 1) * (c - 1) + L + c - 1 := by rw [Int.sub_mul, Int.mul_sub, Int.mul_one]; omega
      have h3 : 0 ≤ (L - 1) * (c - 1) := Int.mul_nonneg (by omega) (by omega)
      omega)
    omega
  have e1 : q * c = c * q := Int.mul_comm q c
  refine first_of hq0 (by omega) (decide_eq_true (by omega)) fun y h3 h4 => decide_eq_false ?_
  have : (y + 1) * c ≤ q * c := Int.mul_le_mul_of_nonneg_right (by omega) (by omega)
  have e2 : (y + 1) * c = y * c + c := by rw [Int.add_mul, Int.one_mul]
  omega
theorem c3_ {p r t c : Int} (hp : 0 < p) (hr : 0 ≤ r) (ht : 1 ≤ t) (hc : 0 < c) : ((!decide ((start_for (p, r, t) c) = (atD ((((rng 0 ((c : Int)).toNat)).filter (fun place : Int => decide ((law_end p r t c place) = 0))).map (fun place : Int => place)) 0))) || (!decide ((cycles_of (p, r, t) c) = (atD ((((rng 0 ((((((law_row p r t)).length : Int) + 1) : Int)).toNat)).filter (fun k' : Int => decide (((((law_row p r t)).length : Int) - 1) ≤ (k' * c)))).map (fun k' : Int => k')) 0)))) = false := by
  rw [atD_head (head_start hp hr ht hc), atD_head (head_cycles hp hr ht hc), decide_eq_true rfl, decide_eq_true rfl]
  rfl
theorem rests_eq {p t c s m : Int} (hp : 0 < p) (ht : 1 ≤ t) : rests_for p t c s m = ((((rng 0 ((m + 1 : Int)).toNat)).filter (fun k' : Int => decide ((law_end p k' t c s) = 0))).map (fun k' : Int => k')) := by
  unfold rests_for
  congr 1
  refine List.filter_congr fun k hk => ?_
  have := mem_rng hk
  rw [law_end_eq hp (by omega) ht]
theorem phrases_eq {r t c s m : Int} (hr : 0 ≤ r) (ht : 1 ≤ t) : phrases_for r t c s m = ((((rng 1 ((m + 1 - 1 : Int)).toNat)).filter (fun k' : Int => decide ((law_end k' r t c s) = 0))).map (fun k' : Int => k')) := by
  unfold phrases_for
  congr 1
  refine List.filter_congr fun k hk => ?_
  have := mem_rng hk
  rw [law_end_eq (by omega) hr ht]
theorem cond_head {l : List Int} : (cond (!l.isEmpty) (some (atD l 0)) none : Option Int) = l.head? := by
  cases l with
  | nil => rfl
  | cons x r =>
    rw [atD_head (x := x) rfl]
    rfl
theorem c5_ {p t c s : Int} (hp : 0 < p) (ht : 1 ≤ t) : (!decide ((first_rest p t c s) = (((((rng 0 (((c + 1) : Int)).toNat)).filter (fun k' : Int => decide ((law_end p k' t c s) = 0))).map (fun k' : Int => k'))).head?)) = false := by
  unfold first_rest
  rw [cond_head, rests_eq hp ht, decide_eq_true rfl]
  rfl
theorem fold_flat {α β : Type} (g : α → List β) : ∀ (xs : List α) (s : List β), xs.foldl (fun s x => s ++ g x) s = s ++ xs.flatMap g
  | [], s => by simp
  | x :: xs, s => by rw [List.foldl_cons, fold_flat g xs, List.flatMap_cons, List.append_assoc]
theorem flat_congr {α β : Type} {f g : α → List β} : ∀ {xs : List α}, (∀ x ∈ xs, f x = g x) → xs.flatMap f = xs.flatMap g
  | [], _ => rfl
  | x :: xs, h => by rw [List.flatMap_cons, List.flatMap_cons, h x List.mem_cons_self, flat_congr fun y hy => h y (List.mem_cons_of_mem _ hy)]
theorem flat_nil {α β : Type} {f : α → List β} : ∀ {xs : List α}, (∀ x ∈ xs, f x = []) → xs.flatMap f = []
  | [], _ => rfl
  | x :: xs, h => by rw [List.flatMap_cons, h x List.mem_cons_self, flat_nil fun y hy => h y (List.mem_cons_of_mem _ hy)]; rfl
theorem cond_app {β : Type} (b : Bool) (s u : List β) : cond b (s ++ u) s = s ++ cond b u [] := by cases b <;> simp
theorem gaps {w x t : Int} (ht : 2 ≤ t) (h : 0 ≤ w - x * t) (hx : 1 ≤ x) : ((rng 0 ((w + 1 : Int)).toNat).filter (fun gap : Int => decide (((x * t) + (gap * (t - 1))) = w))).map (fun gap : Int => (x, gap, t)) = cond (decide ((w - x * t) % (t - 1) = 0)) [(x, (w - x * t) / (t - 1), t)] [] := by
  have hxt : 0 < x * t := Int.mul_pos (by omega) (by omega)
  by_cases hd : (w - x * t) % (t - 1) = 0
  · rw [decide_eq_true hd, cond_true]
    have hq := Int.ediv_mul_cancel (Int.dvd_of_emod_eq_zero hd)
    have q0 : 0 ≤ (w - x * t) / (t - 1) := Int.ediv_nonneg h (by omega)
    have q1 : (w - x * t) / (t - 1) ≤ w - x * t := Int.ediv_le_self _ h
    rw [find_uniq (x := (w - x * t) / (t - 1)) q0 (by omega) fun y h0 h1 => ?_]
    · rfl
    · rw [decide_eq_true_eq]
      constructor
      · intro e
        have e2 : y * (t - 1) = w - x * t := by omega
        rw [← e2, Int.mul_ediv_cancel _ (by omega)]
      · intro e
        rw [e]
        omega
  · rw [decide_eq_false hd, cond_false]
    rw [List.filter_eq_nil_iff.mpr]
    · rfl
    · intro y hy z
      rw [decide_eq_true_eq] at z
      apply hd
      have e2 : w - x * t = y * (t - 1) := by omega
      rw [e2, Int.mul_emod_left]
theorem no_gaps {w x t : Int} {β : Type} {n : Nat} (f : Int → β) (ht : 2 ≤ t) (h : w - x * t < 0) : ((rng 0 n).filter (fun gap : Int => decide (((x * t) + (gap * (t - 1))) = w))).map f = [] := by
  rw [List.filter_eq_nil_iff.mpr]
  · rfl
  · intro y hy z
    rw [decide_eq_true_eq] at z
    have := mem_rng hy
    have := Int.mul_nonneg (a := y) (b := t - 1) (by omega) (by omega)
    omega
theorem div_mul_iff {w x t : Int} (ht : 0 < t) : x ≤ w / t ↔ 0 ≤ w - x * t := by
  rw [Int.le_ediv_iff_mul_le ht]
  omega
theorem c7_ {t c d : Int} (ht : 2 ≤ t) (hc : 0 < c) (hd : 0 < d) : (!decide ((plans_filling t c d) = (((rng 1 (((((c * d) + 1) + 1) - 1 : Int)).toNat)).foldl (fun (s27 : (List (Int × Int × Int))) (one : Int) => (s27 ++ ((((rng 0 (((((c * d) + 1) + 1) : Int)).toNat)).filter (fun gap : Int => decide (((one * t) + (gap * (t - 1))) = ((c * d) + 1)))).map (fun gap : Int => (one, gap, t))))) ([] : (List (Int × Int × Int)))))) = false := by
  have hw : 0 < c * d := Int.mul_pos hc hd
  unfold plans_filling
  generalize hW : c * d + 1 = w at *
  simp only [cond_app]
  rw [fold_flat, fold_flat, List.nil_append, List.nil_append]
  have hq := div_bd (a := w) (b := t) (A := w) (by omega) (by omega) (by omega)
  have e : (w + 1 - 1 : Int).toNat = (w / t + 1 - 1 : Int).toNat + (w.toNat - (w / t).toNat) := by omega
  rw [e, rng_add, List.flatMap_append]
  rw [flat_nil (xs := rng (1 + ((w / t + 1 - 1 : Int).toNat : Int)) (w.toNat - (w / t).toNat)) fun x hx => ?_, List.append_nil]
  · rw [decide_eq_true]
    · rfl
    · refine flat_congr fun x hx => ?_
      have h1 := mem_rng hx
      rw [gaps ht ((div_mul_iff (by omega)).mp (by omega)) (by omega)]
  · have h1 := mem_rng hx
    refine no_gaps _ ht ?_
    have := mt (div_mul_iff (w := w) (x := x) (t := t) (by omega)).mpr (by omega)
    omega
theorem c9_ {p r t x : Int} (hp : 0 < p) (hr : 0 ≤ r) (ht : 1 ≤ t) (h0 : 0 ≤ x) (h1 : x < ((law_row p r t).length : Int)) : (!decide (((is_sounding (p, r, t) x).getD default) = decide ((atD (law_row p r t) x) = 1))) = false := by
  rw [law_row_len hp hr ht] at h1
  rw [sound_eq h0 h1, law_row_at hp hr ht h0 h1]
  by_cases h : x % (p + r) < p
  · simp [h]
  · simp [h]
theorem blocks {α : Type} (R Z : List α) : ∀ m : Nat, R ++ (List.replicate m (Z ++ R)).flatten = (List.replicate m (R ++ Z)).flatten ++ R
  | 0 => by simp
  | m + 1 => by
    rw [List.replicate_succ, List.flatten_cons, List.replicate_succ, List.flatten_cons]
    rw [List.append_assoc Z, blocks R Z m]
    simp [List.append_assoc]
theorem fold1 {α : Type} (R Z : List α) (n : Int) : ∀ m : Nat, (m : Int) ≤ n - 1 → (rng 0 m).foldl (fun (s : List α) (k : Int) => ((s ++ R) ++ cond (decide (k < n - 1)) Z [])) [] = (List.replicate m (R ++ Z)).flatten
  | 0, _ => rfl
  | m + 1, h => by
    rw [rng_succ, List.foldl_append, fold1 R Z n m (by omega), List.foldl_cons, List.foldl_nil, decide_eq_true (by omega), cond_true, List.replicate_succ', List.flatten_concat, List.append_assoc]
theorem fold2 {α : Type} (R Z : List α) : ∀ m : Nat, (rng 0 m).foldl (fun (s : List α) (_ : Int) => ((s ++ Z) ++ R)) R = R ++ (List.replicate m (Z ++ R)).flatten
  | 0 => by simp [rng]
  | m + 1 => by
    rw [rng_succ, List.foldl_append, fold2 R Z m, List.foldl_cons, List.foldl_nil, List.replicate_succ', List.flatten_concat, List.append_assoc, List.append_assoc]
theorem nested_eq {p r t g n : Int} (hp : 0 < p) (hr : 0 ≤ r) (ht : 1 ≤ t) (hn : 1 ≤ n) : nested (p, r, t) g n = ((rng 0 (((n - 1) : Int)).toNat)).foldl (fun (s45 : (List Int)) (k' : Int) => ((s45 ++ (List.replicate (g).toNat ([0] : (List Int))).flatten) ++ (law_row p r t))) (law_row p r t) := by
  unfold nested
  rw [row_of_eq hp hr ht, fold2, blocks]
  have e : (n : Int).toNat = (n - 1).toNat + 1 := by omega
  rw [e, rng_succ, List.foldl_append, fold1 _ _ n _ (by omega), List.foldl_cons, List.foldl_nil, decide_eq_false (by omega), cond_false, List.append_nil]
theorem c10_ {p r t g n : Int} (hp : 0 < p) (hr : 0 ≤ r) (ht : 1 ≤ t) (hg : 0 ≤ g) (hn : 1 ≤ n) : ((!decide ((nested (p, r, t) g n) = (((rng 0 (((n - 1) : Int)).toNat)).foldl (fun (s45 : (List Int)) (k' : Int) => ((s45 ++ (List.replicate (g).toNat ([0] : (List Int))).flatten) ++ (law_row p r t))) (law_row p r t)))) || (!decide ((nested_length (p, r, t) g n) = (((((rng 0 (((n - 1) : Int)).toNat)).foldl (fun (s45 : (List Int)) (k' : Int) => ((s45 ++ (List.replicate (g).toNat ([0] : (List Int))).flatten) ++ (law_row p r t))) (law_row p r t))).length : Int)))) = false := by
  rw [nested_eq hp hr ht hn, decide_eq_true rfl, fold2]
  have e : (((law_row p r t) ++ (List.replicate (n - 1).toNat ((List.replicate g.toNat ([0] : List Int)).flatten ++ law_row p r t)).flatten).length : Int) = nested_length (p, r, t) g n := by
    rw [List.length_append, List.length_flatten, List.map_replicate, List.sum_replicate_nat, List.length_append, rep1, List.length_replicate]
    unfold nested_length
    rw [Int.natCast_add, Int.natCast_mul, Int.natCast_add, law_row_len hp hr ht, Int.toNat_of_nonneg (by omega), Int.toNat_of_nonneg hg]
    generalize length_of (p, r, t) = L
    show L + (n - 1) * (g + L) = L * n + g * (n - 1)
    rw [Int.mul_add, Int.mul_comm (n - 1) g, Int.sub_mul, Int.mul_comm n L]
    omega
  rw [e, decide_eq_true rfl]
  rfl
theorem find_congr {α : Type} {f g : α → Bool} : ∀ {xs : List α}, (∀ x ∈ xs, f x = g x) → xs.find? f = xs.find? g
  | [], _ => rfl
  | x :: xs, h => by rw [List.find?_cons, List.find?_cons, h x List.mem_cons_self, find_congr fun y hy => h y (List.mem_cons_of_mem _ hy)]
theorem flat_head {α β : Type} (c : α → Bool) (g : α → β) : ∀ xs : List α, (xs.flatMap fun x => cond (c x) [g x] []).head? = (xs.find? c).map g
  | [] => rfl
  | x :: xs => by
    rw [List.flatMap_cons, List.find?_cons]
    cases h : c x with
    | true => rfl
    | false => rw [cond_false, List.nil_append, flat_head c g xs]
theorem cond_tf (b : Bool) : cond b true false = b := by cases b <;> rfl
theorem row_hits {z : List Int} {x t : Int} (ht : 2 ≤ t) (hx : 1 ≤ x) (h : 0 ≤ (z.length : Int) - x * t) : ((rng 0 ((((z).length : Int) : Int)).toNat).filter (fun k' : Int => decide ((law_row x k' t) = z))).map (fun k' : Int => (x, k', t)) =
    cond (decide ((((z).length : Int) - (x * t)) % (t - 1) = 0) && decide (row_of (x, (((z).length : Int) - (x * t)) / (t - 1), t) = z)) [(x, (((z).length : Int) - (x * t)) / (t - 1), t)] [] := by
  have hxt : 0 < x * t := Int.mul_pos (by omega) (by omega)
  have q0 : 0 ≤ ((z.length : Int) - x * t) / (t - 1) := Int.ediv_nonneg h (by omega)
  have q1 : ((z.length : Int) - x * t) / (t - 1) ≤ (z.length : Int) - x * t := Int.ediv_le_self _ h
  have key : ∀ y : Int, 0 ≤ y → law_row x y t = z → (z.length : Int) - x * t = y * (t - 1) := fun y hy e => by
    have := law_row_len (p := x) (r := y) (t := t) (by omega) hy (by omega)
    rw [e] at this
    unfold length_of at this
    have this : (z.length : Int) = x * t + y * (t - 1) := this
    omega
  rw [row_of_eq (by omega) q0 (by omega)]
  by_cases hd : law_row x (((z.length : Int) - x * t) / (t - 1)) t = z
  · have hm : ((z.length : Int) - x * t) % (t - 1) = 0 := by
      rw [key _ q0 hd, Int.mul_emod_left]
    rw [decide_eq_true hd, decide_eq_true hm]
    rw [find_uniq (x := ((z.length : Int) - x * t) / (t - 1)) q0 (by omega) fun y h0 h1 => ?_]
    · rfl
    · rw [decide_eq_true_eq]
      constructor
      · intro e
        rw [key y h0 e, Int.mul_ediv_cancel _ (by omega)]
      · intro e
        rw [e]
        exact hd
  · rw [decide_eq_false hd, Bool.and_false, cond_false]
    rw [List.filter_eq_nil_iff.mpr]
    · rfl
    · intro y hy w
      rw [decide_eq_true_eq] at w
      apply hd
      have := mem_rng hy
      have e := key y (by omega) w
      rw [e, Int.mul_ediv_cancel _ (by omega)]
      exact w
theorem no_hits {z : List Int} {x t : Int} {n : Nat} (ht : 2 ≤ t) (hx : 1 ≤ x) (h : (z.length : Int) - x * t < 0) : ((rng 0 n).filter (fun k' : Int => decide ((law_row x k' t) = z))).map (fun k' : Int => (x, k', t)) = [] := by
  rw [List.filter_eq_nil_iff.mpr]
  · rfl
  · intro y hy w
    rw [decide_eq_true_eq] at w
    have hy := mem_rng hy
    have := law_row_len (p := x) (r := y) (t := t) (by omega) (by omega) (by omega)
    rw [w] at this
    unfold length_of at this
    have this : (z.length : Int) = x * t + y * (t - 1) := this
    have := Int.mul_nonneg (a := y) (b := t - 1) (by omega) (by omega)
    omega
theorem c11_ {z : List Int} {t : Int} (ht : 2 ≤ t) : (!decide ((plan_of z t) = ((((rng 1 (((((z).length : Int) + 1) - 1 : Int)).toNat)).foldl (fun (s62 : (List (Int × Int × Int))) (one : Int) => (s62 ++ ((((rng 0 ((((z).length : Int) : Int)).toNat)).filter (fun k' : Int => decide ((law_row one k' t) = z))).map (fun k' : Int => (one, k', t))))) ([] : (List (Int × Int × Int))))).head?)) = false := by
  unfold plan_of
  simp only [cond_tf]
  rw [fold_flat, List.nil_append]
  have hq := div_bd (a := (z.length : Int)) (b := t) (A := (z.length : Int)) (by omega) (by omega) (by omega)
  have e : ((z.length : Int) + 1 - 1 : Int).toNat = ((z.length : Int) / t + 1 - 1 : Int).toNat + (z.length - ((z.length : Int) / t).toNat) := by omega
  rw [e, rng_add, List.flatMap_append]
  rw [flat_nil (xs := rng (1 + (((z.length : Int) / t + 1 - 1 : Int).toNat : Int)) (z.length - ((z.length : Int) / t).toNat)) fun x hx => ?_, List.append_nil]
  · rw [flat_congr (g := fun x => cond (decide ((((z).length : Int) - (x * t)) % (t - 1) = 0) && decide (row_of (x, (((z).length : Int) - (x * t)) / (t - 1), t) = z)) [(x, (((z).length : Int) - (x * t)) / (t - 1), t)] []) fun x hx => ?_, flat_head (fun x => (decide ((((z).length : Int) - (x * t)) % (t - 1) = 0) && decide (row_of (x, (((z).length : Int) - (x * t)) / (t - 1), t) = z))) (fun x => (x, (((z).length : Int) - (x * t)) / (t - 1), t))]
    · generalize hf : List.find? _ _ = o
      cases o <;> simp
    · have h1 := mem_rng hx
      exact row_hits ht (by omega) ((div_mul_iff (by omega)).mp (by omega))
  · have h1 := mem_rng hx
    refine no_hits ht (by omega) ?_
    have := mt (div_mul_iff (w := (z.length : Int)) (x := x) (t := t) (by omega)).mpr (by omega)
    omega
theorem law_row_92 {p r t : Int} (hp : 0 < p ∧ p ≤ 12 ∧ 0 ≤ r ∧ r ≤ 8 ∧ 2 ≤ t ∧ t ≤ 5) : ((law_row p r t).length : Int) = length_of (p, r, t) ∧ 0 < ((law_row p r t).length : Int) ∧ ((law_row p r t).length : Int) ≤ 92 := by
  have h := law_row_len (p := p) (r := r) (t := t) (by omega) (by omega) (by omega)
  have h2 := len_pos (p := p) (r := r) (t := t) (by omega) (by omega) (by omega)
  rw [h]
  refine ⟨rfl, h2, ?_⟩
  unfold length_of
  have h3 := mul_bd (a := p) (b := t) (by omega) (A := 12) (by omega) (by omega) (B := 5) (by omega)
  have h4 := mul_bd (a := r) (b := t - 1) (by omega) (A := 8) (by omega) (by omega) (B := 4) (by omega)
  show p * t + r * (t - 1) ≤ 92
  omega
theorem filt_len {α : Type} (lo : Int) (n : Nat) (f : Int → Bool) (g : Int → α) : (((rng lo n).filter f).map g).length ≤ n := by
  rw [List.length_map]
  exact Nat.le_trans (List.length_filter_le _ _) (by rw [rng_len]; exact Nat.le_refl _)
theorem hits_len {α : Type} (n : Nat) (g : Int → List α) (c : Nat) (h : ∀ x, (g x).length ≤ c) : ((rng 1 n).foldl (fun s x => s ++ g x) []).length ≤ n * c := by
  have := foldl_len (fun (s : List α) (x : Int) => s ++ g x) c (fun l x => by rw [List.length_append]; have := h x; omega) (rng 1 n) []
  rw [rng_len, List.length_nil] at this
  omega


section
variable {G : Gb} {e_NoSuch : Addr}
def b_law : List Stmt := (defBody s_law).tail
abbrev N_law : List Str := ["script", "state", "plan", "cycle", "start", "row", "own", "hits", "cycles", "whole", "due", "one", "place", "gap", "many", "wide", "k", "some", "step", "lengths", "here", "total", "phrase", "rest", "times"]
theorem sc_law : FnScope N_law ["script"] (defScope s_law) := ⟨rfl, rfl, rfl, by decide +kernel, rfl, by decide +kernel, by decide +kernel⟩
set_option maxHeartbeats 40000000 in
theorem w_law (T : Tx G e_NoSuch) (F_law_draw : FnE G "_law_draw" ["state", "limit"] 1 (spS G.K G.tabs 1 SDraw)) (F_law_row : FnE G "_law_row" ["phrase", "rest", "times"] 1 (spP G.K G.tabs 3 S_law_row)) (F_is_plan : FnE G "is_plan" ["value"] 2 (spP G.K G.tabs 1 S_is_plan)) (F_length_of : FnE G "length_of" ["plan"] 1 (spP G.K G.tabs 1 S_length_of)) (F_row_of : FnE G "row_of" ["plan"] 3 (spP G.K G.tabs 1 S_row_of)) (F_law_refused : FnE G "_law_refused" ["plan"] 3 (spP G.K G.tabs 1 S_law_refused)) (F_end_from : FnE G "end_from" ["plan", "cycle", "start"] 2 (spP G.K G.tabs 3 S_end_from)) (F_law_end : FnE G "_law_end" ["phrase", "rest", "times", "cycle", "start"] 2 (spP G.K G.tabs 5 S_law_end)) (F_start_for : FnE G "start_for" ["plan", "cycle"] 2 (spP G.K G.tabs 2 S_start_for)) (F_cycles_of : FnE G "cycles_of" ["plan", "cycle"] 2 (spP G.K G.tabs 2 S_cycles_of)) (F_rests_for : FnE G "rests_for" ["phrase", "times", "cycle", "start", "most"] 3 (spP G.K G.tabs 5 S_rests_for)) (F_first_rest : FnE G "first_rest" ["phrase", "times", "cycle", "start"] 4 (spP G.K G.tabs 4 S_first_rest)) (F_phrases_for : FnE G "phrases_for" ["rest", "times", "cycle", "start", "most"] 3 (spP G.K G.tabs 5 S_phrases_for)) (F_plans_filling : FnE G "plans_filling" ["times", "cycle", "cycles"] 1 (spP G.K G.tabs 3 S_plans_filling)) (F_strokes_at : FnE G "strokes_at" ["plan", "cycle", "start"] 1 (spP G.K G.tabs 3 S_strokes_at)) (F_is_sounding : FnE G "is_sounding" ["plan", "place"] 2 (spP G.K G.tabs 2 (S_is_sounding e_NoSuch))) (F_nested : FnE G "nested" ["inner", "rest", "times"] 4 (spP G.K G.tabs 3 S_nested)) (F_nested_length : FnE G "nested_length" ["inner", "rest", "times"] 2 (spP G.K G.tabs 3 S_nested_length)) (F_plan_of : FnE G "plan_of" ["row", "times"] 4 (spP G.K G.tabs 2 S_plan_of)) (F_shrinking : FnE G "shrinking" ["first", "step", "rest", "cycle"] 1 (spP G.K G.tabs 4 S_shrinking)) (cd : Value) (ns : List Int) : Sts (G.cfg N_law s_law 4 cd) (.any :: .st ns :: List.replicate 23 .any) (defBody s_law).tail { nx := fun _ => False, rt := fun d => d = .bool true } := by
  show Sts _ [.any, .st ns, .any, .any, .any, .any, .any, .any, .any, .any, .any, .any, .any, .any, .any, .any, .any, .any, .any, .any, .any, .any, .any, .any, .any] (b_law.drop 0) _
  refine sts_drop (B := b_law) (k := 0) (Nat.le_of_ble_eq_true rfl) ?_
  refine sts_cons (st_set (i := 2) (storeOk (by kernel_rfl) (.inl rfl)) (Nat.le_of_ble_eq_true rfl) ?_)
  refine ev_tup ?_
  refine eva_cons ?_
  refine ev_add ?_
  refine Ev.o (ev_int ?_)
  refine ⟨1, rfl, ?_⟩
  refine Ev.o (ev_callS F_law_draw (globOk (by kernel_rfl)) (Nat.le_of_ble_eq_true rfl) rfl (i := 1) (nameOk (by kernel_rfl)) rfl ?_)
  refine eva_cons ?_
  refine ev_int ?_
  refine eva_nil ?_
  refine ⟨rfl, 12, rfl, (by walk_at "side"), (by walk_at "log"), fun r1 r1a r1b => ?_⟩
  refine ⟨r1, rfl, ?_⟩
  refine eva_cons ?_
  refine ev_callS F_law_draw (globOk (by kernel_rfl)) (Nat.le_of_ble_eq_true rfl) rfl (i := 1) (nameOk (by kernel_rfl)) rfl ?_
  refine eva_cons ?_
  refine ev_int ?_
  refine eva_nil ?_
  refine ⟨rfl, 9, rfl, (by walk_at "side"), (by walk_at "log"), fun r2 r2a r2b => ?_⟩
  refine eva_cons ?_
  refine ev_add ?_
  refine Ev.o (ev_int ?_)
  refine ⟨2, rfl, ?_⟩
  refine Ev.o (ev_callS F_law_draw (globOk (by kernel_rfl)) (Nat.le_of_ble_eq_true rfl) rfl (i := 1) (nameOk (by kernel_rfl)) rfl ?_)
  refine eva_cons ?_
  refine ev_int ?_
  refine eva_nil ?_
  refine ⟨rfl, 4, rfl, (by walk_at "side"), (by walk_at "log"), fun r3 r3a r3b => ?_⟩
  refine ⟨r3, rfl, ?_⟩
  refine eva_nil ?_
  refine ⟨szOk (show 3 ≤ 1000000 by omega), ?_⟩
  show Sts _ [.any, .st ns, .imm (PyData.tuple [PyData.int ((1 + r1)), PyData.int (r2), PyData.int ((2 + r3))]), .any, .any, .any, .any, .any, .any, .any, .any, .any, .any, .any, .any, .any, .any, .any, .any, .any, .any, .any, .any, .any, .any] _ _
  refine sts_drop (B := b_law) (k := 1) (Nat.le_of_ble_eq_true rfl) ?_
  refine sts_cons (st_asg (vs := [22, 23, 24]) ?_)
  refine ev_var (i := 2) (nameOk (by kernel_rfl)) rfl ?_
  refine evg_tup rfl (plains_of rfl) rfl ?_
  refine ⟨_, _, rfl, ?_⟩
  refine evg_name (i := 22) (storeOk (by kernel_rfl) (.inl rfl)) (by simp) (Nat.le_of_ble_eq_true rfl) ?_
  refine ⟨_, _, rfl, ?_⟩
  refine evg_name (i := 23) (storeOk (by kernel_rfl) (.inl rfl)) (by simp) (Nat.le_of_ble_eq_true rfl) ?_
  refine ⟨_, _, rfl, ?_⟩
  refine evg_name (i := 24) (storeOk (by kernel_rfl) (.inl rfl)) (by simp) (Nat.le_of_ble_eq_true rfl) ?_
  refine ⟨rfl, ?_⟩
  show Sts _ [.any, .st ns, .imm (PyData.tuple [PyData.int ((1 + r1)), PyData.int (r2), PyData.int ((2 + r3))]), .any, .any, .any, .any, .any, .any, .any, .any, .any, .any, .any, .any, .any, .any, .any, .any, .any, .any, .any, .imm (PyData.int ((1 + r1))), .imm (PyData.int (r2)), .imm (PyData.int ((2 + r3)))] _ _
  refine sts_drop (B := b_law) (k := 2) (Nat.le_of_ble_eq_true rfl) ?_
  refine sts_cons (st_set (i := 3) (storeOk (by kernel_rfl) (.inl rfl)) (Nat.le_of_ble_eq_true rfl) ?_)
  refine ev_add ?_
  refine Ev.o (ev_int ?_)
  refine ⟨1, rfl, ?_⟩
  refine Ev.o (ev_callS F_law_draw (globOk (by kernel_rfl)) (Nat.le_of_ble_eq_true rfl) rfl (i := 1) (nameOk (by kernel_rfl)) rfl ?_)
  refine eva_cons ?_
  refine ev_int ?_
  refine eva_nil ?_
  refine ⟨rfl, 16, rfl, (by walk_at "side"), (by walk_at "log"), fun r4 r4a r4b => ?_⟩
  refine ⟨r4, rfl, ?_⟩
  show Sts _ [.any, .st ns, .imm (PyData.tuple [PyData.int ((1 + r1)), PyData.int (r2), PyData.int ((2 + r3))]), .imm (PyData.int ((1 + r4))), .any, .any, .any, .any, .any, .any, .any, .any, .any, .any, .any, .any, .any, .any, .any, .any, .any, .any, .imm (PyData.int ((1 + r1))), .imm (PyData.int (r2)), .imm (PyData.int ((2 + r3)))] _ _
  refine sts_drop (B := b_law) (k := 3) (Nat.le_of_ble_eq_true rfl) ?_
  refine sts_cons (st_set (i := 4) (storeOk (by kernel_rfl) (.inl rfl)) (Nat.le_of_ble_eq_true rfl) ?_)
  refine ev_callS F_law_draw (globOk (by kernel_rfl)) (Nat.le_of_ble_eq_true rfl) rfl (i := 1) (nameOk (by kernel_rfl)) rfl ?_
  refine eva_cons ?_
  refine ev_var (i := 3) (nameOk (by kernel_rfl)) rfl ?_
  refine eva_nil ?_
  refine ⟨rfl, (1 + r4), rfl, (by walk_at "side"), (by walk_at "log"), fun r5 r5a r5b => ?_⟩
  show Sts _ [.any, .st ns, .imm (PyData.tuple [PyData.int ((1 + r1)), PyData.int (r2), PyData.int ((2 + r3))]), .imm (PyData.int ((1 + r4))), .imm (PyData.int (r5)), .any, .any, .any, .any, .any, .any, .any, .any, .any, .any, .any, .any, .any, .any, .any, .any, .any, .imm (PyData.int ((1 + r1))), .imm (PyData.int (r2)), .imm (PyData.int ((2 + r3)))] _ _
  refine sts_drop (B := b_law) (k := 4) (Nat.le_of_ble_eq_true rfl) ?_
  refine sts_cons (st_set (i := 5) (storeOk (by kernel_rfl) (.inl rfl)) (Nat.le_of_ble_eq_true rfl) ?_)
  refine ev_call F_law_row (globOk (by kernel_rfl)) (Nat.le_of_ble_eq_true rfl) rfl ?_
  refine eva_cons ?_
  refine ev_var (i := 22) (nameOk (by kernel_rfl)) rfl ?_
  refine eva_cons ?_
  refine ev_var (i := 23) (nameOk (by kernel_rfl)) rfl ?_
  refine eva_cons ?_
  refine ev_var (i := 24) (nameOk (by kernel_rfl)) rfl ?_
  refine eva_nil ?_
  refine ⟨rfl, (1 + r1), r2, (2 + r3), rfl, (by walk_at "pre"), ?_⟩
  show Sts _ [.any, .st ns, .imm (PyData.tuple [PyData.int ((1 + r1)), PyData.int (r2), PyData.int ((2 + r3))]), .imm (PyData.int ((1 + r4))), .imm (PyData.int (r5)), .imm (PyData.tuple (((law_row (1 + r1) r2 (2 + r3))).map PyData.int)), .any, .any, .any, .any, .any, .any, .any, .any, .any, .any, .any, .any, .any, .any, .any, .any, .imm (PyData.int ((1 + r1))), .imm (PyData.int (r2)), .imm (PyData.int ((2 + r3)))] _ _
  refine sts_drop (B := b_law) (k := 5) (Nat.le_of_ble_eq_true rfl) ?_
  have hrow := law_row_92 (p := 1 + r1) (r := r2) (t := 2 + r3) (by omega)
  refine sts_cons (st_if ?_)
  refine evt_det (((!decide ((is_plan (PyData.tuple [PyData.int ((1 + r1)), PyData.int (r2), PyData.int ((2 + r3))])) = true)) || ((!decide ((length_of ((1 + r1), r2, (2 + r3))) = (((law_row (1 + r1) r2 (2 + r3))).length : Int))) || ((!decide ((row_of ((1 + r1), r2, (2 + r3))) = (law_row (1 + r1) r2 (2 + r3)))) || (!(law_refused ((1 + r1), r2, (2 + r3)))))))) ?_ ?_
  · refine EvW.t ?_
    refine evw_or ?_
    refine CmpK.t kNotB ?_ rfl
    refine Ev.o (ev_call F_is_plan (globOk (by kernel_rfl)) (Nat.le_of_ble_eq_true rfl) rfl ?_)
    refine eva_cons ?_
    refine ev_var (i := 2) (nameOk (by kernel_rfl)) rfl ?_
    refine eva_nil ?_
    refine ⟨rfl, (PyData.tuple [PyData.int ((1 + r1)), PyData.int (r2), PyData.int ((2 + r3))]), rfl, ?_⟩
    refine Ev.o (ev_bool ?_)
    refine ⟨(!decide ((is_plan (PyData.tuple [PyData.int ((1 + r1)), PyData.int (r2), PyData.int ((2 + r3))])) = true)), ⟨(is_plan (PyData.tuple [PyData.int ((1 + r1)), PyData.int (r2), PyData.int ((2 + r3))])), true, rfl, rfl, rfl⟩, ?_⟩
    refine ⟨fun (hb6 : ((!decide ((is_plan (PyData.tuple [PyData.int ((1 + r1)), PyData.int (r2), PyData.int ((2 + r3))])) = true))) = false) => ?_, fun (hb6 : ((!decide ((is_plan (PyData.tuple [PyData.int ((1 + r1)), PyData.int (r2), PyData.int ((2 + r3))])) = true))) = true) => by rw [hb6] <;> rfl⟩
    refine evw_or ?_
    refine CmpK.t (kNe rfl) ?_ rfl
    refine Ev.o (ev_call F_length_of (globOk (by kernel_rfl)) (Nat.le_of_ble_eq_true rfl) rfl ?_)
    refine eva_cons ?_
    refine ev_var (i := 2) (nameOk (by kernel_rfl)) rfl ?_
    refine eva_nil ?_
    refine ⟨rfl, ((1 + r1), r2, (2 + r3)), rfl, (by walk_at "pre"), ?_⟩
    refine Ev.o (ev_lenT PyData.int (globOk (by kernel_rfl)) T.z_len ?_)
    refine Ev.o (ev_var (i := 5) (nameOk (by kernel_rfl)) rfl ?_)
    refine ⟨(law_row (1 + r1) r2 (2 + r3)), rfl, ?_⟩
    refine ⟨(!decide ((length_of ((1 + r1), r2, (2 + r3))) = (((law_row (1 + r1) r2 (2 + r3))).length : Int))), cdNe cd_int.o (by decide) (length_of ((1 + r1), r2, (2 + r3))) (((law_row (1 + r1) r2 (2 + r3))).length : Int), ?_⟩
    refine ⟨fun (hb7 : ((!decide ((length_of ((1 + r1), r2, (2 + r3))) = (((law_row (1 + r1) r2 (2 + r3))).length : Int)))) = false) => ?_, fun (hb7 : ((!decide ((length_of ((1 + r1), r2, (2 + r3))) = (((law_row (1 + r1) r2 (2 + r3))).length : Int)))) = true) => by rw [hb6, hb7] <;> rfl⟩
    refine evw_or ?_
    refine CmpK.t (kNe rfl) ?_ rfl
    refine Ev.o (ev_call F_row_of (globOk (by kernel_rfl)) (Nat.le_of_ble_eq_true rfl) rfl ?_)
    refine eva_cons ?_
    refine ev_var (i := 2) (nameOk (by kernel_rfl)) rfl ?_
    refine eva_nil ?_
    refine ⟨rfl, ((1 + r1), r2, (2 + r3)), rfl, (by walk_at "pre"), ?_⟩
    refine Ev.o (ev_var (i := 5) (nameOk (by kernel_rfl)) rfl ?_)
    refine ⟨(!decide ((row_of ((1 + r1), r2, (2 + r3))) = (law_row (1 + r1) r2 (2 + r3)))), cdNe (cd_vtup cd_int).o (by decide) (row_of ((1 + r1), r2, (2 + r3))) (law_row (1 + r1) r2 (2 + r3)), ?_⟩
    refine ⟨fun (hb8 : ((!decide ((row_of ((1 + r1), r2, (2 + r3))) = (law_row (1 + r1) r2 (2 + r3))))) = false) => ?_, fun (hb8 : ((!decide ((row_of ((1 + r1), r2, (2 + r3))) = (law_row (1 + r1) r2 (2 + r3))))) = true) => by rw [hb6, hb7, hb8] <;> rfl⟩
    refine evw_or1 ?_
    refine evt_not ?_
    refine evt_val ?_
    refine ev_call F_law_refused (globOk (by kernel_rfl)) (Nat.le_of_ble_eq_true rfl) rfl ?_
    refine eva_cons ?_
    refine ev_var (i := 2) (nameOk (by kernel_rfl)) rfl ?_
    refine eva_nil ?_
    refine ⟨rfl, ((1 + r1), r2, (2 + r3)), rfl, (by walk_at "pre"), ?_⟩
    refine ⟨(law_refused ((1 + r1), r2, (2 + r3))), rfl, ?_⟩
    rw [hb6, hb7, hb8] <;> rfl
  have c1 : (((!decide ((is_plan (PyData.tuple [PyData.int ((1 + r1)), PyData.int (r2), PyData.int ((2 + r3))])) = true)) || ((!decide ((length_of ((1 + r1), r2, (2 + r3))) = (((law_row (1 + r1) r2 (2 + r3))).length : Int))) || ((!decide ((row_of ((1 + r1), r2, (2 + r3))) = (law_row (1 + r1) r2 (2 + r3)))) || (!(law_refused ((1 + r1), r2, (2 + r3)))))))) = false := by
    exact c1_ (by omega) (by omega) (by omega) (by omega) (by omega) (by omega)
  refine ⟨fun h9 => Bool.noConfusion (h9.symm.trans c1), fun _ => ?_⟩
  refine sts_nil ?_
  show Sts _ [.any, .st ns, .imm (PyData.tuple [PyData.int ((1 + r1)), PyData.int (r2), PyData.int ((2 + r3))]), .imm (PyData.int ((1 + r4))), .imm (PyData.int (r5)), .imm (PyData.tuple (((law_row (1 + r1) r2 (2 + r3))).map PyData.int)), .any, .any, .any, .any, .any, .any, .any, .any, .any, .any, .any, .any, .any, .any, .any, .any, .imm (PyData.int ((1 + r1))), .imm (PyData.int (r2)), .imm (PyData.int ((2 + r3)))] _ _
  refine sts_drop (B := b_law) (k := 6) (Nat.le_of_ble_eq_true rfl) ?_
  refine sts_cons (st_if ?_)
  refine CmpK.t (kNe rfl) ?_ rfl
  refine Ev.o (ev_call F_end_from (globOk (by kernel_rfl)) (Nat.le_of_ble_eq_true rfl) rfl ?_)
  refine eva_cons ?_
  refine ev_var (i := 2) (nameOk (by kernel_rfl)) rfl ?_
  refine eva_cons ?_
  refine ev_var (i := 3) (nameOk (by kernel_rfl)) rfl ?_
  refine eva_cons ?_
  refine ev_var (i := 4) (nameOk (by kernel_rfl)) rfl ?_
  refine eva_nil ?_
  refine ⟨rfl, ((1 + r1), r2, (2 + r3)), (1 + r4), r5, rfl, (by walk_at "pre"), ?_⟩
  refine Ev.o (ev_call F_law_end (globOk (by kernel_rfl)) (Nat.le_of_ble_eq_true rfl) rfl ?_)
  refine eva_cons ?_
  refine ev_var (i := 22) (nameOk (by kernel_rfl)) rfl ?_
  refine eva_cons ?_
  refine ev_var (i := 23) (nameOk (by kernel_rfl)) rfl ?_
  refine eva_cons ?_
  refine ev_var (i := 24) (nameOk (by kernel_rfl)) rfl ?_
  refine eva_cons ?_
  refine ev_var (i := 3) (nameOk (by kernel_rfl)) rfl ?_
  refine eva_cons ?_
  refine ev_var (i := 4) (nameOk (by kernel_rfl)) rfl ?_
  refine eva_nil ?_
  refine ⟨rfl, (1 + r1), r2, (2 + r3), (1 + r4), r5, rfl, (by walk_at "pre"), ?_⟩
  refine ⟨(!decide ((end_from ((1 + r1), r2, (2 + r3)) (1 + r4) r5) = (law_end (1 + r1) r2 (2 + r3) (1 + r4) r5))), cdNe cd_int.o (by decide) (end_from ((1 + r1), r2, (2 + r3)) (1 + r4) r5) (law_end (1 + r1) r2 (2 + r3) (1 + r4) r5), ?_⟩
  have c2 : ((!decide ((end_from ((1 + r1), r2, (2 + r3)) (1 + r4) r5) = (law_end (1 + r1) r2 (2 + r3) (1 + r4) r5)))) = false := by
    exact c2_ (by omega) (by omega) (by omega)
  refine ⟨fun h10 => Bool.noConfusion (h10.symm.trans c2), fun _ => ?_⟩
  refine sts_nil ?_
  show Sts _ [.any, .st ns, .imm (PyData.tuple [PyData.int ((1 + r1)), PyData.int (r2), PyData.int ((2 + r3))]), .imm (PyData.int ((1 + r4))), .imm (PyData.int (r5)), .imm (PyData.tuple (((law_row (1 + r1) r2 (2 + r3))).map PyData.int)), .any, .any, .any, .any, .any, .any, .any, .any, .any, .any, .any, .any, .any, .any, .any, .any, .imm (PyData.int ((1 + r1))), .imm (PyData.int (r2)), .imm (PyData.int ((2 + r3)))] _ _
  refine sts_drop (B := b_law) (k := 7) (Nat.le_of_ble_eq_true rfl) ?_
  refine sts_cons (st_setLc (i := 6) rfl (blkOk (by kernel_rfl)) (storeOk (by kernel_rfl) (.inl rfl)) (by kernel_rfl) (Nat.le_of_ble_eq_true rfl) (by kernel_rfl) (evl_lcT (α := Int) (β := Int) [("place", 12)] PyData.int PyData.int (free_of rfl) ?_))
  refine EvIt.o (eit_range1 (globOk (by kernel_rfl)) T.z_range ?_)
  refine Ev.o (ev_var (i := 3) (nameOk (by kernel_rfl)) rfl ?_)
  refine ⟨(1 + r4), rfl, (by walk_at "side"), (by walk_at "side"), ?_⟩
  refine ⟨(rng 0 (((1 + r4) : Int)).toNat), rfl, (by walk_at "size"), (fun place : Int => decide ((law_end (1 + r1) r2 (2 + r3) (1 + r4) place) = 0)), (fun place : Int => place), ?_, ?_⟩
  · intro place hx11
    have hx11b := mem_rng hx11
    refine evg_name (i := 12) (storeOk (by kernel_rfl) (.inr (by kernel_rfl))) (by simp) (Nat.le_of_ble_eq_true rfl) ?_
    show EvTs _ [.any, .st ns, .imm (PyData.tuple [PyData.int ((1 + r1)), PyData.int (r2), PyData.int ((2 + r3))]), .imm (PyData.int ((1 + r4))), .imm (PyData.int (r5)), .imm (PyData.tuple (((law_row (1 + r1) r2 (2 + r3))).map PyData.int)), .any, .any, .any, .any, .any, .any, .imm (PyData.int (place)), .any, .any, .any, .any, .any, .any, .any, .any, .any, .imm (PyData.int ((1 + r1))), .imm (PyData.int (r2)), .imm (PyData.int ((2 + r3)))] _ _
    refine evts_one ?_
    refine CmpK.t (kEq rfl) ?_ rfl
    refine Ev.o (ev_call F_law_end (globOk (by kernel_rfl)) (Nat.le_of_ble_eq_true rfl) rfl ?_)
    refine eva_cons ?_
    refine ev_var (i := 22) (nameOk (by kernel_rfl)) rfl ?_
    refine eva_cons ?_
    refine ev_var (i := 23) (nameOk (by kernel_rfl)) rfl ?_
    refine eva_cons ?_
    refine ev_var (i := 24) (nameOk (by kernel_rfl)) rfl ?_
    refine eva_cons ?_
    refine ev_var (i := 3) (nameOk (by kernel_rfl)) rfl ?_
    refine eva_cons ?_
    refine ev_var (i := 12) (nameOk (by kernel_rfl)) rfl ?_
    refine eva_nil ?_
    refine ⟨rfl, (1 + r1), r2, (2 + r3), (1 + r4), place, rfl, (by walk_at "pre"), ?_⟩
    refine Ev.o (ev_int ?_)
    refine ⟨decide ((law_end (1 + r1) r2 (2 + r3) (1 + r4) place) = 0), cdEq cd_int.o (by decide) (law_end (1 + r1) r2 (2 + r3) (1 + r4) place) 0, ?_⟩
    refine ⟨rfl, fun (hc12 : (decide ((law_end (1 + r1) r2 (2 + r3) (1 + r4) place) = 0)) = true) => ?_⟩
    refine ev_var (i := 12) (nameOk (by kernel_rfl)) rfl ?_
    rfl
  show Sts _ [.any, .st ns, .imm (PyData.tuple [PyData.int ((1 + r1)), PyData.int (r2), PyData.int ((2 + r3))]), .imm (PyData.int ((1 + r4))), .imm (PyData.int (r5)), .imm (PyData.tuple (((law_row (1 + r1) r2 (2 + r3))).map PyData.int)), .imm (PyData.list ((((((rng 0 (((1 + r4) : Int)).toNat)).filter (fun place : Int => decide ((law_end (1 + r1) r2 (2 + r3) (1 + r4) place) = 0))).map (fun place : Int => place))).map PyData.int)), .any, .any, .any, .any, .any, .any, .any, .any, .any, .any, .any, .any, .any, .any, .any, .imm (PyData.int ((1 + r1))), .imm (PyData.int (r2)), .imm (PyData.int ((2 + r3)))] _ _
  refine sts_drop (B := b_law) (k := 8) (Nat.le_of_ble_eq_true rfl) ?_
  refine sts_cons (st_if ?_)
  refine evt_det (((!decide ((start_for ((1 + r1), r2, (2 + r3)) (1 + r4)) = (atD ((((rng 0 (((1 + r4) : Int)).toNat)).filter (fun place : Int => decide ((law_end (1 + r1) r2 (2 + r3) (1 + r4) place) = 0))).map (fun place : Int => place)) 0))) || (!decide ((cycles_of ((1 + r1), r2, (2 + r3)) (1 + r4)) = (atD ((((rng 0 ((((((law_row (1 + r1) r2 (2 + r3))).length : Int) + 1) : Int)).toNat)).filter (fun k' : Int => decide (((((law_row (1 + r1) r2 (2 + r3))).length : Int) - 1) ≤ (k' * (1 + r4))))).map (fun k' : Int => k')) 0))))) ?_ ?_
  · refine EvW.t ?_
    refine evw_or ?_
    refine CmpK.t (kNe rfl) ?_ rfl
    refine Ev.o (ev_call F_start_for (globOk (by kernel_rfl)) (Nat.le_of_ble_eq_true rfl) rfl ?_)
    refine eva_cons ?_
    refine ev_var (i := 2) (nameOk (by kernel_rfl)) rfl ?_
    refine eva_cons ?_
    refine ev_var (i := 3) (nameOk (by kernel_rfl)) rfl ?_
    refine eva_nil ?_
    refine ⟨rfl, ((1 + r1), r2, (2 + r3)), (1 + r4), rfl, (by walk_at "pre"), ?_⟩
    refine Ev.o (ev_ixL PyData.int ?_)
    refine Ev.o (ev_var (i := 6) (nameOk (by kernel_rfl)) rfl ?_)
    refine ⟨((((rng 0 (((1 + r4) : Int)).toNat)).filter (fun place : Int => decide ((law_end (1 + r1) r2 (2 + r3) (1 + r4) place) = 0))).map (fun place : Int => place)), rfl, ?_⟩
    refine Ev.o (ev_int ?_)
    refine ⟨0, (atD ((((rng 0 (((1 + r4) : Int)).toNat)).filter (fun place : Int => decide ((law_end (1 + r1) r2 (2 + r3) (1 + r4) place) = 0))).map (fun place : Int => place)) 0), rfl, atD_ok (by walk_at "size") (by exact isEmpty_of (head_start (by omega) (by omega) (by omega) (by omega))), ?_⟩
    refine ⟨(!decide ((start_for ((1 + r1), r2, (2 + r3)) (1 + r4)) = (atD ((((rng 0 (((1 + r4) : Int)).toNat)).filter (fun place : Int => decide ((law_end (1 + r1) r2 (2 + r3) (1 + r4) place) = 0))).map (fun place : Int => place)) 0))), cdNe cd_int.o (by decide) (start_for ((1 + r1), r2, (2 + r3)) (1 + r4)) (atD ((((rng 0 (((1 + r4) : Int)).toNat)).filter (fun place : Int => decide ((law_end (1 + r1) r2 (2 + r3) (1 + r4) place) = 0))).map (fun place : Int => place)) 0), ?_⟩
    refine ⟨fun (hb15 : ((!decide ((start_for ((1 + r1), r2, (2 + r3)) (1 + r4)) = (atD ((((rng 0 (((1 + r4) : Int)).toNat)).filter (fun place : Int => decide ((law_end (1 + r1) r2 (2 + r3) (1 + r4) place) = 0))).map (fun place : Int => place)) 0)))) = false) => ?_, fun (hb15 : ((!decide ((start_for ((1 + r1), r2, (2 + r3)) (1 + r4)) = (atD ((((rng 0 (((1 + r4) : Int)).toNat)).filter (fun place : Int => decide ((law_end (1 + r1) r2 (2 + r3) (1 + r4) place) = 0))).map (fun place : Int => place)) 0)))) = true) => by rw [hb15] <;> rfl⟩
    refine evw_or1 ?_
    refine CmpK.t (kNe rfl) ?_ rfl
    refine Ev.o (ev_call F_cycles_of (globOk (by kernel_rfl)) (Nat.le_of_ble_eq_true rfl) rfl ?_)
    refine eva_cons ?_
    refine ev_var (i := 2) (nameOk (by kernel_rfl)) rfl ?_
    refine eva_cons ?_
    refine ev_var (i := 3) (nameOk (by kernel_rfl)) rfl ?_
    refine eva_nil ?_
    refine ⟨rfl, ((1 + r1), r2, (2 + r3)), (1 + r4), rfl, (by walk_at "pre"), ?_⟩
    refine Ev.o (ev_ixL PyData.int ?_)
    refine Ev.o (ev_ofL (EvLc.l rfl (blkOk (by kernel_rfl)) (evl_lcT (α := Int) (β := Int) [("k", 16)] PyData.int PyData.int (free_of rfl) ?_)))
    refine EvIt.o (eit_range1 (globOk (by kernel_rfl)) T.z_range ?_)
    refine Ev.o (ev_add ?_)
    refine Ev.o (ev_lenT PyData.int (globOk (by kernel_rfl)) T.z_len ?_)
    refine Ev.o (ev_var (i := 5) (nameOk (by kernel_rfl)) rfl ?_)
    refine ⟨(law_row (1 + r1) r2 (2 + r3)), rfl, ?_⟩
    refine ⟨(((law_row (1 + r1) r2 (2 + r3))).length : Int), rfl, ?_⟩
    refine Ev.o (ev_int ?_)
    refine ⟨1, rfl, ?_⟩
    refine ⟨((((law_row (1 + r1) r2 (2 + r3))).length : Int) + 1), rfl, (by walk_at "side"), (by walk_at "side"), ?_⟩
    refine ⟨(rng 0 ((((((law_row (1 + r1) r2 (2 + r3))).length : Int) + 1) : Int)).toNat), rfl, (by walk_at "size"), (fun k' : Int => decide (((((law_row (1 + r1) r2 (2 + r3))).length : Int) - 1) ≤ (k' * (1 + r4)))), (fun k' : Int => k'), ?_, ?_⟩
    · intro k' hx13
      have hx13b := mem_rng hx13
      refine evg_name (i := 16) (storeOk (by kernel_rfl) (.inr (by kernel_rfl))) (by simp) (Nat.le_of_ble_eq_true rfl) ?_
      show EvTs _ [.any, .st ns, .imm (PyData.tuple [PyData.int ((1 + r1)), PyData.int (r2), PyData.int ((2 + r3))]), .imm (PyData.int ((1 + r4))), .imm (PyData.int (r5)), .imm (PyData.tuple (((law_row (1 + r1) r2 (2 + r3))).map PyData.int)), .imm (PyData.list ((((((rng 0 (((1 + r4) : Int)).toNat)).filter (fun place : Int => decide ((law_end (1 + r1) r2 (2 + r3) (1 + r4) place) = 0))).map (fun place : Int => place))).map PyData.int)), .any, .any, .any, .any, .any, .any, .any, .any, .any, .imm (PyData.int (k')), .any, .any, .any, .any, .any, .imm (PyData.int ((1 + r1))), .imm (PyData.int (r2)), .imm (PyData.int ((2 + r3)))] _ _
      refine evts_one ?_
      refine CmpK.t kGe ?_ rfl
      refine Ev.o (ev_mul ?_)
      refine Ev.o (ev_var (i := 16) (nameOk (by kernel_rfl)) rfl ?_)
      refine ⟨k', rfl, ?_⟩
      refine Ev.o (ev_var (i := 3) (nameOk (by kernel_rfl)) rfl ?_)
      refine ⟨(1 + r4), rfl, (by walk_at "mul"), ?_⟩
      refine Ev.o (ev_sub ?_)
      refine Ev.o (ev_lenT PyData.int (globOk (by kernel_rfl)) T.z_len ?_)
      refine Ev.o (ev_var (i := 5) (nameOk (by kernel_rfl)) rfl ?_)
      refine ⟨(law_row (1 + r1) r2 (2 + r3)), rfl, ?_⟩
      refine ⟨(((law_row (1 + r1) r2 (2 + r3))).length : Int), rfl, ?_⟩
      refine Ev.o (ev_int ?_)
      refine ⟨1, rfl, ?_⟩
      refine ⟨decide (((((law_row (1 + r1) r2 (2 + r3))).length : Int) - 1) ≤ (k' * (1 + r4))), ⟨(k' * (1 + r4)), ((((law_row (1 + r1) r2 (2 + r3))).length : Int) - 1), rfl, rfl, rfl⟩, ?_⟩
      refine ⟨rfl, fun (hc14 : (decide (((((law_row (1 + r1) r2 (2 + r3))).length : Int) - 1) ≤ (k' * (1 + r4)))) = true) => ?_⟩
      refine ev_var (i := 16) (nameOk (by kernel_rfl)) rfl ?_
      rfl
    refine ⟨((((rng 0 ((((((law_row (1 + r1) r2 (2 + r3))).length : Int) + 1) : Int)).toNat)).filter (fun k' : Int => decide (((((law_row (1 + r1) r2 (2 + r3))).length : Int) - 1) ≤ (k' * (1 + r4))))).map (fun k' : Int => k')), rfl, ?_⟩
    refine Ev.o (ev_int ?_)
    refine ⟨0, (atD ((((rng 0 ((((((law_row (1 + r1) r2 (2 + r3))).length : Int) + 1) : Int)).toNat)).filter (fun k' : Int => decide (((((law_row (1 + r1) r2 (2 + r3))).length : Int) - 1) ≤ (k' * (1 + r4))))).map (fun k' : Int => k')) 0), rfl, atD_ok (by walk_at "size") (by exact isEmpty_of (head_cycles (by omega) (by omega) (by omega) (by omega))), ?_⟩
    refine ⟨(!decide ((cycles_of ((1 + r1), r2, (2 + r3)) (1 + r4)) = (atD ((((rng 0 ((((((law_row (1 + r1) r2 (2 + r3))).length : Int) + 1) : Int)).toNat)).filter (fun k' : Int => decide (((((law_row (1 + r1) r2 (2 + r3))).length : Int) - 1) ≤ (k' * (1 + r4))))).map (fun k' : Int => k')) 0))), cdNe cd_int.o (by decide) (cycles_of ((1 + r1), r2, (2 + r3)) (1 + r4)) (atD ((((rng 0 ((((((law_row (1 + r1) r2 (2 + r3))).length : Int) + 1) : Int)).toNat)).filter (fun k' : Int => decide (((((law_row (1 + r1) r2 (2 + r3))).length : Int) - 1) ≤ (k' * (1 + r4))))).map (fun k' : Int => k')) 0), ?_⟩
    rw [hb15] <;> rfl
  have c3 : (((!decide ((start_for ((1 + r1), r2, (2 + r3)) (1 + r4)) = (atD ((((rng 0 (((1 + r4) : Int)).toNat)).filter (fun place : Int => decide ((law_end (1 + r1) r2 (2 + r3) (1 + r4) place) = 0))).map (fun place : Int => place)) 0))) || (!decide ((cycles_of ((1 + r1), r2, (2 + r3)) (1 + r4)) = (atD ((((rng 0 ((((((law_row (1 + r1) r2 (2 + r3))).length : Int) + 1) : Int)).toNat)).filter (fun k' : Int => decide (((((law_row (1 + r1) r2 (2 + r3))).length : Int) - 1) ≤ (k' * (1 + r4))))).map (fun k' : Int => k')) 0))))) = false := by
    exact c3_ (by omega) (by omega) (by omega) (by omega)
  refine ⟨fun h16 => Bool.noConfusion (h16.symm.trans c3), fun _ => ?_⟩
  refine sts_nil ?_
  show Sts _ [.any, .st ns, .imm (PyData.tuple [PyData.int ((1 + r1)), PyData.int (r2), PyData.int ((2 + r3))]), .imm (PyData.int ((1 + r4))), .imm (PyData.int (r5)), .imm (PyData.tuple (((law_row (1 + r1) r2 (2 + r3))).map PyData.int)), .imm (PyData.list ((((((rng 0 (((1 + r4) : Int)).toNat)).filter (fun place : Int => decide ((law_end (1 + r1) r2 (2 + r3) (1 + r4) place) = 0))).map (fun place : Int => place))).map PyData.int)), .any, .any, .any, .any, .any, .any, .any, .any, .any, .any, .any, .any, .any, .any, .any, .imm (PyData.int ((1 + r1))), .imm (PyData.int (r2)), .imm (PyData.int ((2 + r3)))] _ _
  refine sts_drop (B := b_law) (k := 9) (Nat.le_of_ble_eq_true rfl) ?_
  refine sts_cons (st_if ?_)
  refine CmpK.t (kNe rfl) ?_ rfl
  refine Ev.o (ev_call F_rests_for (globOk (by kernel_rfl)) (Nat.le_of_ble_eq_true rfl) rfl ?_)
  refine eva_cons ?_
  refine ev_var (i := 22) (nameOk (by kernel_rfl)) rfl ?_
  refine eva_cons ?_
  refine ev_var (i := 24) (nameOk (by kernel_rfl)) rfl ?_
  refine eva_cons ?_
  refine ev_var (i := 3) (nameOk (by kernel_rfl)) rfl ?_
  refine eva_cons ?_
  refine ev_var (i := 4) (nameOk (by kernel_rfl)) rfl ?_
  refine eva_cons ?_
  refine ev_int ?_
  refine eva_nil ?_
  refine ⟨rfl, (1 + r1), (2 + r3), (1 + r4), r5, 12, rfl, (by walk_at "pre"), ?_⟩
  refine Ev.o (ev_ofL (EvLc.l rfl (blkOk (by kernel_rfl)) (evl_lcT (α := Int) (β := Int) [("k", 16)] PyData.int PyData.int (free_of rfl) ?_)))
  refine EvIt.o (eit_range1 (globOk (by kernel_rfl)) T.z_range ?_)
  refine Ev.o (ev_int ?_)
  refine ⟨13, rfl, (by walk_at "side"), (by walk_at "side"), ?_⟩
  refine ⟨(rng 0 ((13 : Int)).toNat), rfl, (by walk_at "size"), (fun k' : Int => decide ((law_end (1 + r1) k' (2 + r3) (1 + r4) r5) = 0)), (fun k' : Int => k'), ?_, ?_⟩
  · intro k' hx17
    have hx17b := mem_rng hx17
    refine evg_name (i := 16) (storeOk (by kernel_rfl) (.inr (by kernel_rfl))) (by simp) (Nat.le_of_ble_eq_true rfl) ?_
    show EvTs _ [.any, .st ns, .imm (PyData.tuple [PyData.int ((1 + r1)), PyData.int (r2), PyData.int ((2 + r3))]), .imm (PyData.int ((1 + r4))), .imm (PyData.int (r5)), .imm (PyData.tuple (((law_row (1 + r1) r2 (2 + r3))).map PyData.int)), .imm (PyData.list ((((((rng 0 (((1 + r4) : Int)).toNat)).filter (fun place : Int => decide ((law_end (1 + r1) r2 (2 + r3) (1 + r4) place) = 0))).map (fun place : Int => place))).map PyData.int)), .any, .any, .any, .any, .any, .any, .any, .any, .any, .imm (PyData.int (k')), .any, .any, .any, .any, .any, .imm (PyData.int ((1 + r1))), .imm (PyData.int (r2)), .imm (PyData.int ((2 + r3)))] _ _
    refine evts_one ?_
    refine CmpK.t (kEq rfl) ?_ rfl
    refine Ev.o (ev_call F_law_end (globOk (by kernel_rfl)) (Nat.le_of_ble_eq_true rfl) rfl ?_)
    refine eva_cons ?_
    refine ev_var (i := 22) (nameOk (by kernel_rfl)) rfl ?_
    refine eva_cons ?_
    refine ev_var (i := 16) (nameOk (by kernel_rfl)) rfl ?_
    refine eva_cons ?_
    refine ev_var (i := 24) (nameOk (by kernel_rfl)) rfl ?_
    refine eva_cons ?_
    refine ev_var (i := 3) (nameOk (by kernel_rfl)) rfl ?_
    refine eva_cons ?_
    refine ev_var (i := 4) (nameOk (by kernel_rfl)) rfl ?_
    refine eva_nil ?_
    refine ⟨rfl, (1 + r1), k', (2 + r3), (1 + r4), r5, rfl, (by walk_at "pre"), ?_⟩
    refine Ev.o (ev_int ?_)
    refine ⟨decide ((law_end (1 + r1) k' (2 + r3) (1 + r4) r5) = 0), cdEq cd_int.o (by decide) (law_end (1 + r1) k' (2 + r3) (1 + r4) r5) 0, ?_⟩
    refine ⟨rfl, fun (hc18 : (decide ((law_end (1 + r1) k' (2 + r3) (1 + r4) r5) = 0)) = true) => ?_⟩
    refine ev_var (i := 16) (nameOk (by kernel_rfl)) rfl ?_
    rfl
  refine ⟨(!decide ((rests_for (1 + r1) (2 + r3) (1 + r4) r5 12) = ((((rng 0 ((13 : Int)).toNat)).filter (fun k' : Int => decide ((law_end (1 + r1) k' (2 + r3) (1 + r4) r5) = 0))).map (fun k' : Int => k')))), cdNe (cd_list cd_int).o (by decide) (rests_for (1 + r1) (2 + r3) (1 + r4) r5 12) ((((rng 0 ((13 : Int)).toNat)).filter (fun k' : Int => decide ((law_end (1 + r1) k' (2 + r3) (1 + r4) r5) = 0))).map (fun k' : Int => k')), ?_⟩
  have c4 : ((!decide ((rests_for (1 + r1) (2 + r3) (1 + r4) r5 12) = ((((rng 0 ((13 : Int)).toNat)).filter (fun k' : Int => decide ((law_end (1 + r1) k' (2 + r3) (1 + r4) r5) = 0))).map (fun k' : Int => k'))))) = false := by
    rw [rests_eq (by omega) (by omega)]
    exact congrArg not (decide_eq_true rfl)
  refine ⟨fun h19 => Bool.noConfusion (h19.symm.trans c4), fun _ => ?_⟩
  refine sts_nil ?_
  show Sts _ [.any, .st ns, .imm (PyData.tuple [PyData.int ((1 + r1)), PyData.int (r2), PyData.int ((2 + r3))]), .imm (PyData.int ((1 + r4))), .imm (PyData.int (r5)), .imm (PyData.tuple (((law_row (1 + r1) r2 (2 + r3))).map PyData.int)), .imm (PyData.list ((((((rng 0 (((1 + r4) : Int)).toNat)).filter (fun place : Int => decide ((law_end (1 + r1) r2 (2 + r3) (1 + r4) place) = 0))).map (fun place : Int => place))).map PyData.int)), .any, .any, .any, .any, .any, .any, .any, .any, .any, .any, .any, .any, .any, .any, .any, .imm (PyData.int ((1 + r1))), .imm (PyData.int (r2)), .imm (PyData.int ((2 + r3)))] _ _
  refine sts_drop (B := b_law) (k := 10) (Nat.le_of_ble_eq_true rfl) ?_
  refine sts_cons (st_setLc (i := 7) rfl (blkOk (by kernel_rfl)) (storeOk (by kernel_rfl) (.inl rfl)) (by kernel_rfl) (Nat.le_of_ble_eq_true rfl) (by kernel_rfl) (evl_lcT (α := Int) (β := Int) [("k", 16)] PyData.int PyData.int (free_of rfl) ?_))
  refine EvIt.o (eit_range1 (globOk (by kernel_rfl)) T.z_range ?_)
  refine Ev.o (ev_add ?_)
  refine Ev.o (ev_var (i := 3) (nameOk (by kernel_rfl)) rfl ?_)
  refine ⟨(1 + r4), rfl, ?_⟩
  refine Ev.o (ev_int ?_)
  refine ⟨1, rfl, ?_⟩
  refine ⟨((1 + r4) + 1), rfl, (by walk_at "side"), (by walk_at "side"), ?_⟩
  refine ⟨(rng 0 ((((1 + r4) + 1) : Int)).toNat), rfl, (by walk_at "size"), (fun k' : Int => decide ((law_end (1 + r1) k' (2 + r3) (1 + r4) r5) = 0)), (fun k' : Int => k'), ?_, ?_⟩
  · intro k' hx20
    have hx20b := mem_rng hx20
    refine evg_name (i := 16) (storeOk (by kernel_rfl) (.inr (by kernel_rfl))) (by simp) (Nat.le_of_ble_eq_true rfl) ?_
    show EvTs _ [.any, .st ns, .imm (PyData.tuple [PyData.int ((1 + r1)), PyData.int (r2), PyData.int ((2 + r3))]), .imm (PyData.int ((1 + r4))), .imm (PyData.int (r5)), .imm (PyData.tuple (((law_row (1 + r1) r2 (2 + r3))).map PyData.int)), .imm (PyData.list ((((((rng 0 (((1 + r4) : Int)).toNat)).filter (fun place : Int => decide ((law_end (1 + r1) r2 (2 + r3) (1 + r4) place) = 0))).map (fun place : Int => place))).map PyData.int)), .any, .any, .any, .any, .any, .any, .any, .any, .any, .imm (PyData.int (k')), .any, .any, .any, .any, .any, .imm (PyData.int ((1 + r1))), .imm (PyData.int (r2)), .imm (PyData.int ((2 + r3)))] _ _
    refine evts_one ?_
    refine CmpK.t (kEq rfl) ?_ rfl
    refine Ev.o (ev_call F_law_end (globOk (by kernel_rfl)) (Nat.le_of_ble_eq_true rfl) rfl ?_)
    refine eva_cons ?_
    refine ev_var (i := 22) (nameOk (by kernel_rfl)) rfl ?_
    refine eva_cons ?_
    refine ev_var (i := 16) (nameOk (by kernel_rfl)) rfl ?_
    refine eva_cons ?_
    refine ev_var (i := 24) (nameOk (by kernel_rfl)) rfl ?_
    refine eva_cons ?_
    refine ev_var (i := 3) (nameOk (by kernel_rfl)) rfl ?_
    refine eva_cons ?_
    refine ev_var (i := 4) (nameOk (by kernel_rfl)) rfl ?_
    refine eva_nil ?_
    refine ⟨rfl, (1 + r1), k', (2 + r3), (1 + r4), r5, rfl, (by walk_at "pre"), ?_⟩
    refine Ev.o (ev_int ?_)
    refine ⟨decide ((law_end (1 + r1) k' (2 + r3) (1 + r4) r5) = 0), cdEq cd_int.o (by decide) (law_end (1 + r1) k' (2 + r3) (1 + r4) r5) 0, ?_⟩
    refine ⟨rfl, fun (hc21 : (decide ((law_end (1 + r1) k' (2 + r3) (1 + r4) r5) = 0)) = true) => ?_⟩
    refine ev_var (i := 16) (nameOk (by kernel_rfl)) rfl ?_
    rfl
  show Sts _ [.any, .st ns, .imm (PyData.tuple [PyData.int ((1 + r1)), PyData.int (r2), PyData.int ((2 + r3))]), .imm (PyData.int ((1 + r4))), .imm (PyData.int (r5)), .imm (PyData.tuple (((law_row (1 + r1) r2 (2 + r3))).map PyData.int)), .imm (PyData.list ((((((rng 0 (((1 + r4) : Int)).toNat)).filter (fun place : Int => decide ((law_end (1 + r1) r2 (2 + r3) (1 + r4) place) = 0))).map (fun place : Int => place))).map PyData.int)), .imm (PyData.list ((((((rng 0 ((((1 + r4) + 1) : Int)).toNat)).filter (fun k' : Int => decide ((law_end (1 + r1) k' (2 + r3) (1 + r4) r5) = 0))).map (fun k' : Int => k'))).map PyData.int)), .any, .any, .any, .any, .any, .any, .any, .any, .any, .any, .any, .any, .any, .any, .imm (PyData.int ((1 + r1))), .imm (PyData.int (r2)), .imm (PyData.int ((2 + r3)))] _ _
  refine sts_drop (B := b_law) (k := 11) (Nat.le_of_ble_eq_true rfl) ?_
  refine sts_cons (st_if ?_)
  refine CmpK.t (kNe rfl) ?_ rfl
  refine Ev.o (ev_call F_first_rest (globOk (by kernel_rfl)) (Nat.le_of_ble_eq_true rfl) rfl ?_)
  refine eva_cons ?_
  refine ev_var (i := 22) (nameOk (by kernel_rfl)) rfl ?_
  refine eva_cons ?_
  refine ev_var (i := 24) (nameOk (by kernel_rfl)) rfl ?_
  refine eva_cons ?_
  refine ev_var (i := 3) (nameOk (by kernel_rfl)) rfl ?_
  refine eva_cons ?_
  refine ev_var (i := 4) (nameOk (by kernel_rfl)) rfl ?_
  refine eva_nil ?_
  refine ⟨rfl, (1 + r1), (2 + r3), (1 + r4), r5, rfl, (by walk_at "pre"), ?_⟩
  refine Ev.o (ev_headOr PyData.int ?_)
  refine Ev.o (ev_var (i := 7) (nameOk (by kernel_rfl)) rfl ?_)
  refine ⟨((((rng 0 ((((1 + r4) + 1) : Int)).toNat)).filter (fun k' : Int => decide ((law_end (1 + r1) k' (2 + r3) (1 + r4) r5) = 0))).map (fun k' : Int => k')), rfl, (by exact Nat.le_trans (filt_len _ _ _ _) (by omega)), ?_⟩
  refine Ev.o (ev_int ?_)
  refine ⟨rfl, ?_⟩
  refine ⟨(!decide ((first_rest (1 + r1) (2 + r3) (1 + r4) r5) = (((((rng 0 ((((1 + r4) + 1) : Int)).toNat)).filter (fun k' : Int => decide ((law_end (1 + r1) k' (2 + r3) (1 + r4) r5) = 0))).map (fun k' : Int => k'))).head?)), cdNe (cd_opt cd_int) (by decide) (first_rest (1 + r1) (2 + r3) (1 + r4) r5) ((((((rng 0 ((((1 + r4) + 1) : Int)).toNat)).filter (fun k' : Int => decide ((law_end (1 + r1) k' (2 + r3) (1 + r4) r5) = 0))).map (fun k' : Int => k'))).head?), ?_⟩
  have c5 : ((!decide ((first_rest (1 + r1) (2 + r3) (1 + r4) r5) = (((((rng 0 ((((1 + r4) + 1) : Int)).toNat)).filter (fun k' : Int => decide ((law_end (1 + r1) k' (2 + r3) (1 + r4) r5) = 0))).map (fun k' : Int => k'))).head?))) = false := by
    exact c5_ (by omega) (by omega)
  refine ⟨fun h22 => Bool.noConfusion (h22.symm.trans c5), fun _ => ?_⟩
  refine sts_nil ?_
  show Sts _ [.any, .st ns, .imm (PyData.tuple [PyData.int ((1 + r1)), PyData.int (r2), PyData.int ((2 + r3))]), .imm (PyData.int ((1 + r4))), .imm (PyData.int (r5)), .imm (PyData.tuple (((law_row (1 + r1) r2 (2 + r3))).map PyData.int)), .imm (PyData.list ((((((rng 0 (((1 + r4) : Int)).toNat)).filter (fun place : Int => decide ((law_end (1 + r1) r2 (2 + r3) (1 + r4) place) = 0))).map (fun place : Int => place))).map PyData.int)), .imm (PyData.list ((((((rng 0 ((((1 + r4) + 1) : Int)).toNat)).filter (fun k' : Int => decide ((law_end (1 + r1) k' (2 + r3) (1 + r4) r5) = 0))).map (fun k' : Int => k'))).map PyData.int)), .any, .any, .any, .any, .any, .any, .any, .any, .any, .any, .any, .any, .any, .any, .imm (PyData.int ((1 + r1))), .imm (PyData.int (r2)), .imm (PyData.int ((2 + r3)))] _ _
  refine sts_drop (B := b_law) (k := 12) (Nat.le_of_ble_eq_true rfl) ?_
  refine sts_cons (st_if ?_)
  refine CmpK.t (kNe rfl) ?_ rfl
  refine Ev.o (ev_call F_phrases_for (globOk (by kernel_rfl)) (Nat.le_of_ble_eq_true rfl) rfl ?_)
  refine eva_cons ?_
  refine ev_var (i := 23) (nameOk (by kernel_rfl)) rfl ?_
  refine eva_cons ?_
  refine ev_var (i := 24) (nameOk (by kernel_rfl)) rfl ?_
  refine eva_cons ?_
  refine ev_var (i := 3) (nameOk (by kernel_rfl)) rfl ?_
  refine eva_cons ?_
  refine ev_var (i := 4) (nameOk (by kernel_rfl)) rfl ?_
  refine eva_cons ?_
  refine ev_int ?_
  refine eva_nil ?_
  refine ⟨rfl, r2, (2 + r3), (1 + r4), r5, 12, rfl, (by walk_at "pre"), ?_⟩
  refine Ev.o (ev_ofL (EvLc.l rfl (blkOk (by kernel_rfl)) (evl_lcT (α := Int) (β := Int) [("k", 16)] PyData.int PyData.int (free_of rfl) ?_)))
  refine EvIt.o (eit_range2 (globOk (by kernel_rfl)) T.z_range ?_)
  refine Ev.o (ev_int ?_)
  refine ⟨1, rfl, (by walk_at "side"), (by walk_at "side"), ?_⟩
  refine Ev.o (ev_int ?_)
  refine ⟨13, rfl, (by walk_at "side"), (by walk_at "side"), ?_⟩
  refine ⟨(rng 1 ((13 - 1 : Int)).toNat), rfl, (by walk_at "size"), (fun k' : Int => decide ((law_end k' r2 (2 + r3) (1 + r4) r5) = 0)), (fun k' : Int => k'), ?_, ?_⟩
  · intro k' hx23
    have hx23b := mem_rng hx23
    refine evg_name (i := 16) (storeOk (by kernel_rfl) (.inr (by kernel_rfl))) (by simp) (Nat.le_of_ble_eq_true rfl) ?_
    show EvTs _ [.any, .st ns, .imm (PyData.tuple [PyData.int ((1 + r1)), PyData.int (r2), PyData.int ((2 + r3))]), .imm (PyData.int ((1 + r4))), .imm (PyData.int (r5)), .imm (PyData.tuple (((law_row (1 + r1) r2 (2 + r3))).map PyData.int)), .imm (PyData.list ((((((rng 0 (((1 + r4) : Int)).toNat)).filter (fun place : Int => decide ((law_end (1 + r1) r2 (2 + r3) (1 + r4) place) = 0))).map (fun place : Int => place))).map PyData.int)), .imm (PyData.list ((((((rng 0 ((((1 + r4) + 1) : Int)).toNat)).filter (fun k' : Int => decide ((law_end (1 + r1) k' (2 + r3) (1 + r4) r5) = 0))).map (fun k' : Int => k'))).map PyData.int)), .any, .any, .any, .any, .any, .any, .any, .any, .imm (PyData.int (k')), .any, .any, .any, .any, .any, .imm (PyData.int ((1 + r1))), .imm (PyData.int (r2)), .imm (PyData.int ((2 + r3)))] _ _
    refine evts_one ?_
    refine CmpK.t (kEq rfl) ?_ rfl
    refine Ev.o (ev_call F_law_end (globOk (by kernel_rfl)) (Nat.le_of_ble_eq_true rfl) rfl ?_)
    refine eva_cons ?_
    refine ev_var (i := 16) (nameOk (by kernel_rfl)) rfl ?_
    refine eva_cons ?_
    refine ev_var (i := 23) (nameOk (by kernel_rfl)) rfl ?_
    refine eva_cons ?_
    refine ev_var (i := 24) (nameOk (by kernel_rfl)) rfl ?_
    refine eva_cons ?_
    refine ev_var (i := 3) (nameOk (by kernel_rfl)) rfl ?_
    refine eva_cons ?_
    refine ev_var (i := 4) (nameOk (by kernel_rfl)) rfl ?_
    refine eva_nil ?_
    refine ⟨rfl, k', r2, (2 + r3), (1 + r4), r5, rfl, (by walk_at "pre"), ?_⟩
    refine Ev.o (ev_int ?_)
    refine ⟨decide ((law_end k' r2 (2 + r3) (1 + r4) r5) = 0), cdEq cd_int.o (by decide) (law_end k' r2 (2 + r3) (1 + r4) r5) 0, ?_⟩
    refine ⟨rfl, fun (hc24 : (decide ((law_end k' r2 (2 + r3) (1 + r4) r5) = 0)) = true) => ?_⟩
    refine ev_var (i := 16) (nameOk (by kernel_rfl)) rfl ?_
    rfl
  refine ⟨(!decide ((phrases_for r2 (2 + r3) (1 + r4) r5 12) = ((((rng 1 ((13 - 1 : Int)).toNat)).filter (fun k' : Int => decide ((law_end k' r2 (2 + r3) (1 + r4) r5) = 0))).map (fun k' : Int => k')))), cdNe (cd_list cd_int).o (by decide) (phrases_for r2 (2 + r3) (1 + r4) r5 12) ((((rng 1 ((13 - 1 : Int)).toNat)).filter (fun k' : Int => decide ((law_end k' r2 (2 + r3) (1 + r4) r5) = 0))).map (fun k' : Int => k')), ?_⟩
  have c6 : ((!decide ((phrases_for r2 (2 + r3) (1 + r4) r5 12) = ((((rng 1 ((13 - 1 : Int)).toNat)).filter (fun k' : Int => decide ((law_end k' r2 (2 + r3) (1 + r4) r5) = 0))).map (fun k' : Int => k'))))) = false := by
    rw [phrases_eq (by omega) (by omega)]
    exact congrArg not (decide_eq_true rfl)
  refine ⟨fun h25 => Bool.noConfusion (h25.symm.trans c6), fun _ => ?_⟩
  refine sts_nil ?_
  show Sts _ [.any, .st ns, .imm (PyData.tuple [PyData.int ((1 + r1)), PyData.int (r2), PyData.int ((2 + r3))]), .imm (PyData.int ((1 + r4))), .imm (PyData.int (r5)), .imm (PyData.tuple (((law_row (1 + r1) r2 (2 + r3))).map PyData.int)), .imm (PyData.list ((((((rng 0 (((1 + r4) : Int)).toNat)).filter (fun place : Int => decide ((law_end (1 + r1) r2 (2 + r3) (1 + r4) place) = 0))).map (fun place : Int => place))).map PyData.int)), .imm (PyData.list ((((((rng 0 ((((1 + r4) + 1) : Int)).toNat)).filter (fun k' : Int => decide ((law_end (1 + r1) k' (2 + r3) (1 + r4) r5) = 0))).map (fun k' : Int => k'))).map PyData.int)), .any, .any, .any, .any, .any, .any, .any, .any, .any, .any, .any, .any, .any, .any, .imm (PyData.int ((1 + r1))), .imm (PyData.int (r2)), .imm (PyData.int ((2 + r3)))] _ _
  refine sts_drop (B := b_law) (k := 13) (Nat.le_of_ble_eq_true rfl) ?_
  refine sts_cons (st_set (i := 8) (storeOk (by kernel_rfl) (.inl rfl)) (Nat.le_of_ble_eq_true rfl) ?_)
  refine ev_add ?_
  refine Ev.o (ev_int ?_)
  refine ⟨1, rfl, ?_⟩
  refine Ev.o (ev_callS F_law_draw (globOk (by kernel_rfl)) (Nat.le_of_ble_eq_true rfl) rfl (i := 1) (nameOk (by kernel_rfl)) rfl ?_)
  refine eva_cons ?_
  refine ev_int ?_
  refine eva_nil ?_
  refine ⟨rfl, 3, rfl, (by walk_at "side"), (by walk_at "log"), fun r26 r26a r26b => ?_⟩
  refine ⟨r26, rfl, ?_⟩
  show Sts _ [.any, .st ns, .imm (PyData.tuple [PyData.int ((1 + r1)), PyData.int (r2), PyData.int ((2 + r3))]), .imm (PyData.int ((1 + r4))), .imm (PyData.int (r5)), .imm (PyData.tuple (((law_row (1 + r1) r2 (2 + r3))).map PyData.int)), .imm (PyData.list ((((((rng 0 (((1 + r4) : Int)).toNat)).filter (fun place : Int => decide ((law_end (1 + r1) r2 (2 + r3) (1 + r4) place) = 0))).map (fun place : Int => place))).map PyData.int)), .imm (PyData.list ((((((rng 0 ((((1 + r4) + 1) : Int)).toNat)).filter (fun k' : Int => decide ((law_end (1 + r1) k' (2 + r3) (1 + r4) r5) = 0))).map (fun k' : Int => k'))).map PyData.int)), .imm (PyData.int ((1 + r26))), .any, .any, .any, .any, .any, .any, .any, .any, .any, .any, .any, .any, .any, .imm (PyData.int ((1 + r1))), .imm (PyData.int (r2)), .imm (PyData.int ((2 + r3)))] _ _
  refine sts_drop (B := b_law) (k := 14) (Nat.le_of_ble_eq_true rfl) ?_
  refine sts_cons (st_set (i := 9) (storeOk (by kernel_rfl) (.inl rfl)) (Nat.le_of_ble_eq_true rfl) ?_)
  refine ev_add ?_
  refine Ev.o (ev_mul ?_)
  refine Ev.o (ev_var (i := 3) (nameOk (by kernel_rfl)) rfl ?_)
  refine ⟨(1 + r4), rfl, ?_⟩
  refine Ev.o (ev_var (i := 8) (nameOk (by kernel_rfl)) rfl ?_)
  refine ⟨(1 + r26), rfl, (by walk_at "mul"), ?_⟩
  refine ⟨((1 + r4) * (1 + r26)), rfl, ?_⟩
  refine Ev.o (ev_int ?_)
  refine ⟨1, rfl, ?_⟩
  show Sts _ [.any, .st ns, .imm (PyData.tuple [PyData.int ((1 + r1)), PyData.int (r2), PyData.int ((2 + r3))]), .imm (PyData.int ((1 + r4))), .imm (PyData.int (r5)), .imm (PyData.tuple (((law_row (1 + r1) r2 (2 + r3))).map PyData.int)), .imm (PyData.list ((((((rng 0 (((1 + r4) : Int)).toNat)).filter (fun place : Int => decide ((law_end (1 + r1) r2 (2 + r3) (1 + r4) place) = 0))).map (fun place : Int => place))).map PyData.int)), .imm (PyData.list ((((((rng 0 ((((1 + r4) + 1) : Int)).toNat)).filter (fun k' : Int => decide ((law_end (1 + r1) k' (2 + r3) (1 + r4) r5) = 0))).map (fun k' : Int => k'))).map PyData.int)), .imm (PyData.int ((1 + r26))), .imm (PyData.int ((((1 + r4) * (1 + r26)) + 1))), .any, .any, .any, .any, .any, .any, .any, .any, .any, .any, .any, .any, .imm (PyData.int ((1 + r1))), .imm (PyData.int (r2)), .imm (PyData.int ((2 + r3)))] _ _
  refine sts_drop (B := b_law) (k := 15) (Nat.le_of_ble_eq_true rfl) ?_
  have hw := mul_bd (a := 1 + r4) (b := 1 + r26) (by omega) (A := 16) (by omega) (by omega) (B := 3) (by omega)
  refine sts_cons (st_set (i := 10) (storeOk (by kernel_rfl) (.inl rfl)) (Nat.le_of_ble_eq_true rfl) ?_)
  refine ev_ofL (evl_lst ?_)
  refine eva_nil ?_
  refine ⟨szOk (show 0 ≤ 1000000 by omega), ?_⟩
  show Sts _ [.any, .st ns, .imm (PyData.tuple [PyData.int ((1 + r1)), PyData.int (r2), PyData.int ((2 + r3))]), .imm (PyData.int ((1 + r4))), .imm (PyData.int (r5)), .imm (PyData.tuple (((law_row (1 + r1) r2 (2 + r3))).map PyData.int)), .imm (PyData.list ((((((rng 0 (((1 + r4) : Int)).toNat)).filter (fun place : Int => decide ((law_end (1 + r1) r2 (2 + r3) (1 + r4) place) = 0))).map (fun place : Int => place))).map PyData.int)), .imm (PyData.list ((((((rng 0 ((((1 + r4) + 1) : Int)).toNat)).filter (fun k' : Int => decide ((law_end (1 + r1) k' (2 + r3) (1 + r4) r5) = 0))).map (fun k' : Int => k'))).map PyData.int)), .imm (PyData.int ((1 + r26))), .imm (PyData.int ((((1 + r4) * (1 + r26)) + 1))), .imm (PyData.list ((([] : (List (Int × Int × Int)))).map (fun y : (Int × Int × Int) => PyData.tuple [PyData.int ((y).1), PyData.int ((y).2.1), PyData.int ((y).2.2)]))), .any, .any, .any, .any, .any, .any, .any, .any, .any, .any, .any, .imm (PyData.int ((1 + r1))), .imm (PyData.int (r2)), .imm (PyData.int ((2 + r3)))] _ _
  refine sts_drop (B := b_law) (k := 16) (Nat.le_of_ble_eq_true rfl) ?_
  refine sts_cons (st_forD (α := Int) (β := (List (Int × Int × Int))) rfl ?_)
  refine eit_range2 (globOk (by kernel_rfl)) T.z_range ?_
  refine Ev.o (ev_int ?_)
  refine ⟨1, rfl, (by walk_at "side"), (by walk_at "side"), ?_⟩
  refine Ev.o (ev_add ?_)
  refine Ev.o (ev_var (i := 9) (nameOk (by kernel_rfl)) rfl ?_)
  refine ⟨(((1 + r4) * (1 + r26)) + 1), rfl, ?_⟩
  refine Ev.o (ev_int ?_)
  refine ⟨1, rfl, ?_⟩
  refine ⟨((((1 + r4) * (1 + r26)) + 1) + 1), rfl, (by walk_at "side"), (by walk_at "side"), ?_⟩
  refine ⟨(rng 1 ((((((1 + r4) * (1 + r26)) + 1) + 1) - 1 : Int)).toNat), PyData.int, rfl, (fun s27 : (List (Int × Int × Int)) => [.any, .st ns, .imm (PyData.tuple [PyData.int ((1 + r1)), PyData.int (r2), PyData.int ((2 + r3))]), .imm (PyData.int ((1 + r4))), .imm (PyData.int (r5)), .imm (PyData.tuple (((law_row (1 + r1) r2 (2 + r3))).map PyData.int)), .imm (PyData.list ((((((rng 0 (((1 + r4) : Int)).toNat)).filter (fun place : Int => decide ((law_end (1 + r1) r2 (2 + r3) (1 + r4) place) = 0))).map (fun place : Int => place))).map PyData.int)), .imm (PyData.list ((((((rng 0 ((((1 + r4) + 1) : Int)).toNat)).filter (fun k' : Int => decide ((law_end (1 + r1) k' (2 + r3) (1 + r4) r5) = 0))).map (fun k' : Int => k'))).map PyData.int)), .imm (PyData.int ((1 + r26))), .imm (PyData.int ((((1 + r4) * (1 + r26)) + 1))), .imm (PyData.list ((s27).map (fun y : (Int × Int × Int) => PyData.tuple [PyData.int ((y).1), PyData.int ((y).2.1), PyData.int ((y).2.2)]))), .any, .any, .any, .any, .any, .any, .any, .any, .any, .any, .any, .imm (PyData.int ((1 + r1))), .imm (PyData.int (r2)), .imm (PyData.int ((2 + r3)))]), (fun (i : Nat) (s27 : (List (Int × Int × Int))) => (s27).length ≤ i * 60), (fun (s27 : (List (Int × Int × Int))) (one : Int) => (s27 ++ ((((rng 0 ((((((1 + r4) * (1 + r26)) + 1) + 1) : Int)).toNat)).filter (fun gap : Int => decide (((one * (2 + r3)) + (gap * ((2 + r3) - 1))) = (((1 + r4) * (1 + r26)) + 1)))).map (fun gap : Int => (one, gap, (2 + r3)))))), ([] : (List (Int × Int × Int))), ⟨.inl rfl, ⟨.inl rfl, ⟨.inl rfl, ⟨.inl rfl, ⟨.inl rfl, ⟨.inl rfl, ⟨.inl rfl, ⟨.inl rfl, ⟨.inl rfl, ⟨.inl rfl, ⟨.inl rfl, ⟨.inl rfl, ⟨.inl rfl, ⟨.inl rfl, ⟨.inl rfl, ⟨.inl rfl, ⟨.inl rfl, ⟨.inl rfl, ⟨.inl rfl, ⟨.inl rfl, ⟨.inl rfl, ⟨.inl rfl, ⟨.inl rfl, ⟨.inl rfl, ⟨.inl rfl, trivial⟩⟩⟩⟩⟩⟩⟩⟩⟩⟩⟩⟩⟩⟩⟩⟩⟩⟩⟩⟩⟩⟩⟩⟩⟩, (by walk_at "inv"), ?_, fun hf34 => ?_⟩
  · intro i28 one s27 hx29 hi30
    have hi30 : (s27).length ≤ i28 * 60 := hi30
    have hx29m := List.mem_of_getElem? hx29
    have hx29b := rng_get hx29
    refine ⟨[11], ?_⟩
    refine evg_name (i := 11) (storeOk (by kernel_rfl) (.inl rfl)) (by simp) (Nat.le_of_ble_eq_true rfl) ?_
    show Sts _ [.any, .st ns, .imm (PyData.tuple [PyData.int ((1 + r1)), PyData.int (r2), PyData.int ((2 + r3))]), .imm (PyData.int ((1 + r4))), .imm (PyData.int (r5)), .imm (PyData.tuple (((law_row (1 + r1) r2 (2 + r3))).map PyData.int)), .imm (PyData.list ((((((rng 0 (((1 + r4) : Int)).toNat)).filter (fun place : Int => decide ((law_end (1 + r1) r2 (2 + r3) (1 + r4) place) = 0))).map (fun place : Int => place))).map PyData.int)), .imm (PyData.list ((((((rng 0 ((((1 + r4) + 1) : Int)).toNat)).filter (fun k' : Int => decide ((law_end (1 + r1) k' (2 + r3) (1 + r4) r5) = 0))).map (fun k' : Int => k'))).map PyData.int)), .imm (PyData.int ((1 + r26))), .imm (PyData.int ((((1 + r4) * (1 + r26)) + 1))), .imm (PyData.list ((s27).map (fun y : (Int × Int × Int) => PyData.tuple [PyData.int ((y).1), PyData.int ((y).2.1), PyData.int ((y).2.2)]))), .imm (PyData.int (one)), .any, .any, .any, .any, .any, .any, .any, .any, .any, .any, .imm (PyData.int ((1 + r1))), .imm (PyData.int (r2)), .imm (PyData.int ((2 + r3)))] _ _
    refine sts_cons (st_set (i := 10) (storeOk (by kernel_rfl) (.inl rfl)) (Nat.le_of_ble_eq_true rfl) ?_)
    refine ev_ofL (evl_catT (fun y : (Int × Int × Int) => PyData.tuple [PyData.int ((y).1), PyData.int ((y).2.1), PyData.int ((y).2.2)]) ?_)
    refine Ev.o (ev_var (i := 10) (nameOk (by kernel_rfl)) rfl ?_)
    refine ⟨s27, rfl, ?_⟩
    refine Ev.o (ev_ofL (EvLc.l rfl (blkOk (by kernel_rfl)) (evl_lcT (α := Int) (β := (Int × Int × Int)) [("gap", 13)] PyData.int (fun y : (Int × Int × Int) => PyData.tuple [PyData.int ((y).1), PyData.int ((y).2.1), PyData.int ((y).2.2)]) (free_of rfl) ?_)))
    refine EvIt.o (eit_range1 (globOk (by kernel_rfl)) T.z_range ?_)
    refine Ev.o (ev_add ?_)
    refine Ev.o (ev_var (i := 9) (nameOk (by kernel_rfl)) rfl ?_)
    refine ⟨(((1 + r4) * (1 + r26)) + 1), rfl, ?_⟩
    refine Ev.o (ev_int ?_)
    refine ⟨1, rfl, ?_⟩
    refine ⟨((((1 + r4) * (1 + r26)) + 1) + 1), rfl, (by walk_at "side"), (by walk_at "side"), ?_⟩
    refine ⟨(rng 0 ((((((1 + r4) * (1 + r26)) + 1) + 1) : Int)).toNat), rfl, (by walk_at "size"), (fun gap : Int => decide (((one * (2 + r3)) + (gap * ((2 + r3) - 1))) = (((1 + r4) * (1 + r26)) + 1))), (fun gap : Int => (one, gap, (2 + r3))), ?_, ?_⟩
    · intro gap hx32
      have hx32b := mem_rng hx32
      refine evg_name (i := 13) (storeOk (by kernel_rfl) (.inr (by kernel_rfl))) (by simp) (Nat.le_of_ble_eq_true rfl) ?_
      show EvTs _ [.any, .st ns, .imm (PyData.tuple [PyData.int ((1 + r1)), PyData.int (r2), PyData.int ((2 + r3))]), .imm (PyData.int ((1 + r4))), .imm (PyData.int (r5)), .imm (PyData.tuple (((law_row (1 + r1) r2 (2 + r3))).map PyData.int)), .imm (PyData.list ((((((rng 0 (((1 + r4) : Int)).toNat)).filter (fun place : Int => decide ((law_end (1 + r1) r2 (2 + r3) (1 + r4) place) = 0))).map (fun place : Int => place))).map PyData.int)), .imm (PyData.list ((((((rng 0 ((((1 + r4) + 1) : Int)).toNat)).filter (fun k' : Int => decide ((law_end (1 + r1) k' (2 + r3) (1 + r4) r5) = 0))).map (fun k' : Int => k'))).map PyData.int)), .imm (PyData.int ((1 + r26))), .imm (PyData.int ((((1 + r4) * (1 + r26)) + 1))), .imm (PyData.list ((s27).map (fun y : (Int × Int × Int) => PyData.tuple [PyData.int ((y).1), PyData.int ((y).2.1), PyData.int ((y).2.2)]))), .imm (PyData.int (one)), .any, .imm (PyData.int (gap)), .any, .any, .any, .any, .any, .any, .any, .any, .imm (PyData.int ((1 + r1))), .imm (PyData.int (r2)), .imm (PyData.int ((2 + r3)))] _ _
      refine evts_one ?_
      refine CmpK.t (kEq rfl) ?_ rfl
      refine Ev.o (ev_add ?_)
      refine Ev.o (ev_mul ?_)
      refine Ev.o (ev_var (i := 11) (nameOk (by kernel_rfl)) rfl ?_)
      refine ⟨one, rfl, ?_⟩
      refine Ev.o (ev_var (i := 24) (nameOk (by kernel_rfl)) rfl ?_)
      refine ⟨(2 + r3), rfl, (by walk_at "mul"), ?_⟩
      refine ⟨(one * (2 + r3)), rfl, ?_⟩
      refine Ev.o (ev_mul ?_)
      refine Ev.o (ev_var (i := 13) (nameOk (by kernel_rfl)) rfl ?_)
      refine ⟨gap, rfl, ?_⟩
      refine Ev.o (ev_sub ?_)
      refine Ev.o (ev_var (i := 24) (nameOk (by kernel_rfl)) rfl ?_)
      refine ⟨(2 + r3), rfl, ?_⟩
      refine Ev.o (ev_int ?_)
      refine ⟨1, rfl, ?_⟩
      refine ⟨((2 + r3) - 1), rfl, (by walk_at "mul"), ?_⟩
      refine ⟨(gap * ((2 + r3) - 1)), rfl, ?_⟩
      refine Ev.o (ev_var (i := 9) (nameOk (by kernel_rfl)) rfl ?_)
      refine ⟨decide (((one * (2 + r3)) + (gap * ((2 + r3) - 1))) = (((1 + r4) * (1 + r26)) + 1)), cdEq cd_int.o (by decide) ((one * (2 + r3)) + (gap * ((2 + r3) - 1))) (((1 + r4) * (1 + r26)) + 1), ?_⟩
      refine ⟨rfl, fun (hc33 : (decide (((one * (2 + r3)) + (gap * ((2 + r3) - 1))) = (((1 + r4) * (1 + r26)) + 1))) = true) => ?_⟩
      refine ev_tup ?_
      refine eva_cons ?_
      refine ev_var (i := 11) (nameOk (by kernel_rfl)) rfl ?_
      refine eva_cons ?_
      refine ev_var (i := 13) (nameOk (by kernel_rfl)) rfl ?_
      refine eva_cons ?_
      refine ev_var (i := 24) (nameOk (by kernel_rfl)) rfl ?_
      refine eva_nil ?_
      refine ⟨szOk (show 3 ≤ 1000000 by omega), ?_⟩
      rfl
    refine ⟨((((rng 0 ((((((1 + r4) * (1 + r26)) + 1) + 1) : Int)).toNat)).filter (fun gap : Int => decide (((one * (2 + r3)) + (gap * ((2 + r3) - 1))) = (((1 + r4) * (1 + r26)) + 1)))).map (fun gap : Int => (one, gap, (2 + r3)))), rfl, (by rw [sizeLine_eq]; have hq := filt_len 0 ((1 + r4) * (1 + r26) + 1 + 1 : Int).toNat (fun gap => decide (one * (2 + r3) + gap * (2 + r3 - 1) = (1 + r4) * (1 + r26) + 1)) (fun gap => (one, gap, 2 + r3)); omega), ?_⟩
    show Sts _ [.any, .st ns, .imm (PyData.tuple [PyData.int ((1 + r1)), PyData.int (r2), PyData.int ((2 + r3))]), .imm (PyData.int ((1 + r4))), .imm (PyData.int (r5)), .imm (PyData.tuple (((law_row (1 + r1) r2 (2 + r3))).map PyData.int)), .imm (PyData.list ((((((rng 0 (((1 + r4) : Int)).toNat)).filter (fun place : Int => decide ((law_end (1 + r1) r2 (2 + r3) (1 + r4) place) = 0))).map (fun place : Int => place))).map PyData.int)), .imm (PyData.list ((((((rng 0 ((((1 + r4) + 1) : Int)).toNat)).filter (fun k' : Int => decide ((law_end (1 + r1) k' (2 + r3) (1 + r4) r5) = 0))).map (fun k' : Int => k'))).map PyData.int)), .imm (PyData.int ((1 + r26))), .imm (PyData.int ((((1 + r4) * (1 + r26)) + 1))), .imm (PyData.list (((s27 ++ ((((rng 0 ((((((1 + r4) * (1 + r26)) + 1) + 1) : Int)).toNat)).filter (fun gap : Int => decide (((one * (2 + r3)) + (gap * ((2 + r3) - 1))) = (((1 + r4) * (1 + r26)) + 1)))).map (fun gap : Int => (one, gap, (2 + r3)))))).map (fun y : (Int × Int × Int) => PyData.tuple [PyData.int ((y).1), PyData.int ((y).2.1), PyData.int ((y).2.2)]))), .imm (PyData.int (one)), .any, .any, .any, .any, .any, .any, .any, .any, .any, .any, .imm (PyData.int ((1 + r1))), .imm (PyData.int (r2)), .imm (PyData.int ((2 + r3)))] _ _
    refine sts_nil ?_
    show Weak [.any, .st ns, .imm (PyData.tuple [PyData.int ((1 + r1)), PyData.int (r2), PyData.int ((2 + r3))]), .imm (PyData.int ((1 + r4))), .imm (PyData.int (r5)), .imm (PyData.tuple (((law_row (1 + r1) r2 (2 + r3))).map PyData.int)), .imm (PyData.list ((((((rng 0 (((1 + r4) : Int)).toNat)).filter (fun place : Int => decide ((law_end (1 + r1) r2 (2 + r3) (1 + r4) place) = 0))).map (fun place : Int => place))).map PyData.int)), .imm (PyData.list ((((((rng 0 ((((1 + r4) + 1) : Int)).toNat)).filter (fun k' : Int => decide ((law_end (1 + r1) k' (2 + r3) (1 + r4) r5) = 0))).map (fun k' : Int => k'))).map PyData.int)), .imm (PyData.int ((1 + r26))), .imm (PyData.int ((((1 + r4) * (1 + r26)) + 1))), .imm (PyData.list (((s27 ++ ((((rng 0 ((((((1 + r4) * (1 + r26)) + 1) + 1) : Int)).toNat)).filter (fun gap : Int => decide (((one * (2 + r3)) + (gap * ((2 + r3) - 1))) = (((1 + r4) * (1 + r26)) + 1)))).map (fun gap : Int => (one, gap, (2 + r3)))))).map (fun y : (Int × Int × Int) => PyData.tuple [PyData.int ((y).1), PyData.int ((y).2.1), PyData.int ((y).2.2)]))), .imm (PyData.int (one)), .any, .any, .any, .any, .any, .any, .any, .any, .any, .any, .imm (PyData.int ((1 + r1))), .imm (PyData.int (r2)), .imm (PyData.int ((2 + r3)))] [.any, .st ns, .imm (PyData.tuple [PyData.int ((1 + r1)), PyData.int (r2), PyData.int ((2 + r3))]), .imm (PyData.int ((1 + r4))), .imm (PyData.int (r5)), .imm (PyData.tuple (((law_row (1 + r1) r2 (2 + r3))).map PyData.int)), .imm (PyData.list ((((((rng 0 (((1 + r4) : Int)).toNat)).filter (fun place : Int => decide ((law_end (1 + r1) r2 (2 + r3) (1 + r4) place) = 0))).map (fun place : Int => place))).map PyData.int)), .imm (PyData.list ((((((rng 0 ((((1 + r4) + 1) : Int)).toNat)).filter (fun k' : Int => decide ((law_end (1 + r1) k' (2 + r3) (1 + r4) r5) = 0))).map (fun k' : Int => k'))).map PyData.int)), .imm (PyData.int ((1 + r26))), .imm (PyData.int ((((1 + r4) * (1 + r26)) + 1))), .imm (PyData.list (((s27 ++ ((((rng 0 ((((((1 + r4) * (1 + r26)) + 1) + 1) : Int)).toNat)).filter (fun gap : Int => decide (((one * (2 + r3)) + (gap * ((2 + r3) - 1))) = (((1 + r4) * (1 + r26)) + 1)))).map (fun gap : Int => (one, gap, (2 + r3)))))).map (fun y : (Int × Int × Int) => PyData.tuple [PyData.int ((y).1), PyData.int ((y).2.1), PyData.int ((y).2.2)]))), .any, .any, .any, .any, .any, .any, .any, .any, .any, .any, .any, .imm (PyData.int ((1 + r1))), .imm (PyData.int (r2)), .imm (PyData.int ((2 + r3)))] ∧ ((s27 ++ ((((rng 0 ((((((1 + r4) * (1 + r26)) + 1) + 1) : Int)).toNat)).filter (fun gap : Int => decide (((one * (2 + r3)) + (gap * ((2 + r3) - 1))) = (((1 + r4) * (1 + r26)) + 1)))).map (fun gap : Int => (one, gap, (2 + r3)))))).length ≤ (i28 + 1) * 60
    exact ⟨⟨.inl rfl, ⟨.inl rfl, ⟨.inl rfl, ⟨.inl rfl, ⟨.inl rfl, ⟨.inl rfl, ⟨.inl rfl, ⟨.inl rfl, ⟨.inl rfl, ⟨.inl rfl, ⟨.inl rfl, ⟨.inr rfl, ⟨.inl rfl, ⟨.inl rfl, ⟨.inl rfl, ⟨.inl rfl, ⟨.inl rfl, ⟨.inl rfl, ⟨.inl rfl, ⟨.inl rfl, ⟨.inl rfl, ⟨.inl rfl, ⟨.inl rfl, ⟨.inl rfl, ⟨.inl rfl, trivial⟩⟩⟩⟩⟩⟩⟩⟩⟩⟩⟩⟩⟩⟩⟩⟩⟩⟩⟩⟩⟩⟩⟩⟩⟩, (by rw [List.length_append]; have hq := filt_len 0 ((1 + r4) * (1 + r26) + 1 + 1 : Int).toNat (fun gap => decide (one * (2 + r3) + gap * (2 + r3 - 1) = (1 + r4) * (1 + r26) + 1)) (fun gap => (one, gap, 2 + r3)); omega)⟩
  have hf34 : ((((rng 1 ((((((1 + r4) * (1 + r26)) + 1) + 1) - 1 : Int)).toNat)).foldl (fun (s27 : (List (Int × Int × Int))) (one : Int) => (s27 ++ ((((rng 0 ((((((1 + r4) * (1 + r26)) + 1) + 1) : Int)).toNat)).filter (fun gap : Int => decide (((one * (2 + r3)) + (gap * ((2 + r3) - 1))) = (((1 + r4) * (1 + r26)) + 1)))).map (fun gap : Int => (one, gap, (2 + r3)))))) ([] : (List (Int × Int × Int))))).length ≤ ((rng 1 ((((((1 + r4) * (1 + r26)) + 1) + 1) - 1 : Int)).toNat)).length * 60 := hf34
  show Sts _ [.any, .st ns, .imm (PyData.tuple [PyData.int ((1 + r1)), PyData.int (r2), PyData.int ((2 + r3))]), .imm (PyData.int ((1 + r4))), .imm (PyData.int (r5)), .imm (PyData.tuple (((law_row (1 + r1) r2 (2 + r3))).map PyData.int)), .imm (PyData.list ((((((rng 0 (((1 + r4) : Int)).toNat)).filter (fun place : Int => decide ((law_end (1 + r1) r2 (2 + r3) (1 + r4) place) = 0))).map (fun place : Int => place))).map PyData.int)), .imm (PyData.list ((((((rng 0 ((((1 + r4) + 1) : Int)).toNat)).filter (fun k' : Int => decide ((law_end (1 + r1) k' (2 + r3) (1 + r4) r5) = 0))).map (fun k' : Int => k'))).map PyData.int)), .imm (PyData.int ((1 + r26))), .imm (PyData.int ((((1 + r4) * (1 + r26)) + 1))), .imm (PyData.list (((((rng 1 ((((((1 + r4) * (1 + r26)) + 1) + 1) - 1 : Int)).toNat)).foldl (fun (s27 : (List (Int × Int × Int))) (one : Int) => (s27 ++ ((((rng 0 ((((((1 + r4) * (1 + r26)) + 1) + 1) : Int)).toNat)).filter (fun gap : Int => decide (((one * (2 + r3)) + (gap * ((2 + r3) - 1))) = (((1 + r4) * (1 + r26)) + 1)))).map (fun gap : Int => (one, gap, (2 + r3)))))) ([] : (List (Int × Int × Int))))).map (fun y : (Int × Int × Int) => PyData.tuple [PyData.int ((y).1), PyData.int ((y).2.1), PyData.int ((y).2.2)]))), .any, .any, .any, .any, .any, .any, .any, .any, .any, .any, .any, .imm (PyData.int ((1 + r1))), .imm (PyData.int (r2)), .imm (PyData.int ((2 + r3)))] _ _
  refine sts_drop (B := b_law) (k := 17) (Nat.le_of_ble_eq_true rfl) ?_
  refine sts_cons (st_if ?_)
  refine CmpK.t (kNe rfl) ?_ rfl
  refine Ev.o (ev_call F_plans_filling (globOk (by kernel_rfl)) (Nat.le_of_ble_eq_true rfl) rfl ?_)
  refine eva_cons ?_
  refine ev_var (i := 24) (nameOk (by kernel_rfl)) rfl ?_
  refine eva_cons ?_
  refine ev_var (i := 3) (nameOk (by kernel_rfl)) rfl ?_
  refine eva_cons ?_
  refine ev_var (i := 8) (nameOk (by kernel_rfl)) rfl ?_
  refine eva_nil ?_
  refine ⟨rfl, (2 + r3), (1 + r4), (1 + r26), rfl, (by walk_at "pre"), ?_⟩
  refine Ev.o (ev_var (i := 10) (nameOk (by kernel_rfl)) rfl ?_)
  refine ⟨(!decide ((plans_filling (2 + r3) (1 + r4) (1 + r26)) = (((rng 1 ((((((1 + r4) * (1 + r26)) + 1) + 1) - 1 : Int)).toNat)).foldl (fun (s27 : (List (Int × Int × Int))) (one : Int) => (s27 ++ ((((rng 0 ((((((1 + r4) * (1 + r26)) + 1) + 1) : Int)).toNat)).filter (fun gap : Int => decide (((one * (2 + r3)) + (gap * ((2 + r3) - 1))) = (((1 + r4) * (1 + r26)) + 1)))).map (fun gap : Int => (one, gap, (2 + r3)))))) ([] : (List (Int × Int × Int)))))), cdNe (cd_list (cd_t3 cd_int cd_int cd_int)).o (by decide) (plans_filling (2 + r3) (1 + r4) (1 + r26)) (((rng 1 ((((((1 + r4) * (1 + r26)) + 1) + 1) - 1 : Int)).toNat)).foldl (fun (s27 : (List (Int × Int × Int))) (one : Int) => (s27 ++ ((((rng 0 ((((((1 + r4) * (1 + r26)) + 1) + 1) : Int)).toNat)).filter (fun gap : Int => decide (((one * (2 + r3)) + (gap * ((2 + r3) - 1))) = (((1 + r4) * (1 + r26)) + 1)))).map (fun gap : Int => (one, gap, (2 + r3)))))) ([] : (List (Int × Int × Int)))), ?_⟩
  have c7 : ((!decide ((plans_filling (2 + r3) (1 + r4) (1 + r26)) = (((rng 1 ((((((1 + r4) * (1 + r26)) + 1) + 1) - 1 : Int)).toNat)).foldl (fun (s27 : (List (Int × Int × Int))) (one : Int) => (s27 ++ ((((rng 0 ((((((1 + r4) * (1 + r26)) + 1) + 1) : Int)).toNat)).filter (fun gap : Int => decide (((one * (2 + r3)) + (gap * ((2 + r3) - 1))) = (((1 + r4) * (1 + r26)) + 1)))).map (fun gap : Int => (one, gap, (2 + r3)))))) ([] : (List (Int × Int × Int))))))) = false := by
    exact c7_ (by omega) (by omega) (by omega)
  refine ⟨fun h35 => Bool.noConfusion (h35.symm.trans c7), fun _ => ?_⟩
  refine sts_nil ?_
  show Sts _ [.any, .st ns, .imm (PyData.tuple [PyData.int ((1 + r1)), PyData.int (r2), PyData.int ((2 + r3))]), .imm (PyData.int ((1 + r4))), .imm (PyData.int (r5)), .imm (PyData.tuple (((law_row (1 + r1) r2 (2 + r3))).map PyData.int)), .imm (PyData.list ((((((rng 0 (((1 + r4) : Int)).toNat)).filter (fun place : Int => decide ((law_end (1 + r1) r2 (2 + r3) (1 + r4) place) = 0))).map (fun place : Int => place))).map PyData.int)), .imm (PyData.list ((((((rng 0 ((((1 + r4) + 1) : Int)).toNat)).filter (fun k' : Int => decide ((law_end (1 + r1) k' (2 + r3) (1 + r4) r5) = 0))).map (fun k' : Int => k'))).map PyData.int)), .imm (PyData.int ((1 + r26))), .imm (PyData.int ((((1 + r4) * (1 + r26)) + 1))), .imm (PyData.list (((((rng 1 ((((((1 + r4) * (1 + r26)) + 1) + 1) - 1 : Int)).toNat)).foldl (fun (s27 : (List (Int × Int × Int))) (one : Int) => (s27 ++ ((((rng 0 ((((((1 + r4) * (1 + r26)) + 1) + 1) : Int)).toNat)).filter (fun gap : Int => decide (((one * (2 + r3)) + (gap * ((2 + r3) - 1))) = (((1 + r4) * (1 + r26)) + 1)))).map (fun gap : Int => (one, gap, (2 + r3)))))) ([] : (List (Int × Int × Int))))).map (fun y : (Int × Int × Int) => PyData.tuple [PyData.int ((y).1), PyData.int ((y).2.1), PyData.int ((y).2.2)]))), .any, .any, .any, .any, .any, .any, .any, .any, .any, .any, .any, .imm (PyData.int ((1 + r1))), .imm (PyData.int (r2)), .imm (PyData.int ((2 + r3)))] _ _
  refine sts_drop (B := b_law) (k := 18) (Nat.le_of_ble_eq_true rfl) ?_
  refine sts_cons (st_if ?_)
  refine CmpK.t (kNe rfl) ?_ rfl
  refine Ev.o (ev_call F_strokes_at (globOk (by kernel_rfl)) (Nat.le_of_ble_eq_true rfl) rfl ?_)
  refine eva_cons ?_
  refine ev_var (i := 2) (nameOk (by kernel_rfl)) rfl ?_
  refine eva_cons ?_
  refine ev_var (i := 3) (nameOk (by kernel_rfl)) rfl ?_
  refine eva_cons ?_
  refine ev_var (i := 4) (nameOk (by kernel_rfl)) rfl ?_
  refine eva_nil ?_
  refine ⟨rfl, ((1 + r1), r2, (2 + r3)), (1 + r4), r5, rfl, (by walk_at "pre"), ?_⟩
  refine Ev.o (ev_tuple (globOk (by kernel_rfl)) T.z_tuple ?_)
  refine Ev.o (ev_ofL (EvLc.l rfl (blkOk (by kernel_rfl)) (evl_lcTM (α := Int) (β := Int) [("k", 16)] PyData.int PyData.int (free_of rfl) ?_)))
  refine EvIt.o (eit_range1 (globOk (by kernel_rfl)) T.z_range ?_)
  refine Ev.o (ev_var (i := 24) (nameOk (by kernel_rfl)) rfl ?_)
  refine ⟨(2 + r3), rfl, (by walk_at "side"), (by walk_at "side"), ?_⟩
  refine ⟨(rng 0 (((2 + r3) : Int)).toNat), rfl, (by walk_at "size"), (fun k' : Int => ((r5 + (k' * ((1 + r1) + r2))) % (1 + r4))), ?_, ?_⟩
  · intro k' hx36
    have hx36b := mem_rng hx36
    refine evg_name (i := 16) (storeOk (by kernel_rfl) (.inr (by kernel_rfl))) (by simp) (Nat.le_of_ble_eq_true rfl) ?_
    show Ev _ [.any, .st ns, .imm (PyData.tuple [PyData.int ((1 + r1)), PyData.int (r2), PyData.int ((2 + r3))]), .imm (PyData.int ((1 + r4))), .imm (PyData.int (r5)), .imm (PyData.tuple (((law_row (1 + r1) r2 (2 + r3))).map PyData.int)), .imm (PyData.list ((((((rng 0 (((1 + r4) : Int)).toNat)).filter (fun place : Int => decide ((law_end (1 + r1) r2 (2 + r3) (1 + r4) place) = 0))).map (fun place : Int => place))).map PyData.int)), .imm (PyData.list ((((((rng 0 ((((1 + r4) + 1) : Int)).toNat)).filter (fun k' : Int => decide ((law_end (1 + r1) k' (2 + r3) (1 + r4) r5) = 0))).map (fun k' : Int => k'))).map PyData.int)), .imm (PyData.int ((1 + r26))), .imm (PyData.int ((((1 + r4) * (1 + r26)) + 1))), .imm (PyData.list (((((rng 1 ((((((1 + r4) * (1 + r26)) + 1) + 1) - 1 : Int)).toNat)).foldl (fun (s27 : (List (Int × Int × Int))) (one : Int) => (s27 ++ ((((rng 0 ((((((1 + r4) * (1 + r26)) + 1) + 1) : Int)).toNat)).filter (fun gap : Int => decide (((one * (2 + r3)) + (gap * ((2 + r3) - 1))) = (((1 + r4) * (1 + r26)) + 1)))).map (fun gap : Int => (one, gap, (2 + r3)))))) ([] : (List (Int × Int × Int))))).map (fun y : (Int × Int × Int) => PyData.tuple [PyData.int ((y).1), PyData.int ((y).2.1), PyData.int ((y).2.2)]))), .any, .any, .any, .any, .any, .imm (PyData.int (k')), .any, .any, .any, .any, .any, .imm (PyData.int ((1 + r1))), .imm (PyData.int (r2)), .imm (PyData.int ((2 + r3)))] _ _
    refine ev_mod ?_
    refine Ev.o (ev_toInt (globOk (by kernel_rfl)) T.z_int ?_)
    refine Ev.o (ev_add ?_)
    refine Ev.o (ev_var (i := 4) (nameOk (by kernel_rfl)) rfl ?_)
    refine ⟨r5, rfl, ?_⟩
    refine Ev.o (ev_mul ?_)
    refine Ev.o (ev_var (i := 16) (nameOk (by kernel_rfl)) rfl ?_)
    refine ⟨k', rfl, ?_⟩
    refine Ev.o (ev_add ?_)
    refine Ev.o (ev_var (i := 22) (nameOk (by kernel_rfl)) rfl ?_)
    refine ⟨(1 + r1), rfl, ?_⟩
    refine Ev.o (ev_var (i := 23) (nameOk (by kernel_rfl)) rfl ?_)
    refine ⟨r2, rfl, ?_⟩
    refine ⟨((1 + r1) + r2), rfl, (by walk_at "mul"), ?_⟩
    refine ⟨(k' * ((1 + r1) + r2)), rfl, ?_⟩
    refine ⟨(r5 + (k' * ((1 + r1) + r2))), rfl, ?_⟩
    refine ⟨(r5 + (k' * ((1 + r1) + r2))), rfl, ?_⟩
    refine Ev.o (ev_var (i := 3) (nameOk (by kernel_rfl)) rfl ?_)
    refine ⟨(1 + r4), rfl, (by walk_at "side"), ?_⟩
    rfl
  refine ⟨rfl, ?_⟩
  refine ⟨(!decide ((strokes_at ((1 + r1), r2, (2 + r3)) (1 + r4) r5) = (((rng 0 (((2 + r3) : Int)).toNat)).map (fun k' : Int => ((r5 + (k' * ((1 + r1) + r2))) % (1 + r4)))))), cdNe (cd_vtup cd_int).o (by decide) (strokes_at ((1 + r1), r2, (2 + r3)) (1 + r4) r5) (((rng 0 (((2 + r3) : Int)).toNat)).map (fun k' : Int => ((r5 + (k' * ((1 + r1) + r2))) % (1 + r4)))), ?_⟩
  have c8 : ((!decide ((strokes_at ((1 + r1), r2, (2 + r3)) (1 + r4) r5) = (((rng 0 (((2 + r3) : Int)).toNat)).map (fun k' : Int => ((r5 + (k' * ((1 + r1) + r2))) % (1 + r4))))))) = false := by
    unfold strokes_at; rw [decide_eq_true rfl] <;> rfl
  refine ⟨fun h37 => Bool.noConfusion (h37.symm.trans c8), fun _ => ?_⟩
  refine sts_nil ?_
  show Sts _ [.any, .st ns, .imm (PyData.tuple [PyData.int ((1 + r1)), PyData.int (r2), PyData.int ((2 + r3))]), .imm (PyData.int ((1 + r4))), .imm (PyData.int (r5)), .imm (PyData.tuple (((law_row (1 + r1) r2 (2 + r3))).map PyData.int)), .imm (PyData.list ((((((rng 0 (((1 + r4) : Int)).toNat)).filter (fun place : Int => decide ((law_end (1 + r1) r2 (2 + r3) (1 + r4) place) = 0))).map (fun place : Int => place))).map PyData.int)), .imm (PyData.list ((((((rng 0 ((((1 + r4) + 1) : Int)).toNat)).filter (fun k' : Int => decide ((law_end (1 + r1) k' (2 + r3) (1 + r4) r5) = 0))).map (fun k' : Int => k'))).map PyData.int)), .imm (PyData.int ((1 + r26))), .imm (PyData.int ((((1 + r4) * (1 + r26)) + 1))), .imm (PyData.list (((((rng 1 ((((((1 + r4) * (1 + r26)) + 1) + 1) - 1 : Int)).toNat)).foldl (fun (s27 : (List (Int × Int × Int))) (one : Int) => (s27 ++ ((((rng 0 ((((((1 + r4) * (1 + r26)) + 1) + 1) : Int)).toNat)).filter (fun gap : Int => decide (((one * (2 + r3)) + (gap * ((2 + r3) - 1))) = (((1 + r4) * (1 + r26)) + 1)))).map (fun gap : Int => (one, gap, (2 + r3)))))) ([] : (List (Int × Int × Int))))).map (fun y : (Int × Int × Int) => PyData.tuple [PyData.int ((y).1), PyData.int ((y).2.1), PyData.int ((y).2.2)]))), .any, .any, .any, .any, .any, .any, .any, .any, .any, .any, .any, .imm (PyData.int ((1 + r1))), .imm (PyData.int (r2)), .imm (PyData.int ((2 + r3)))] _ _
  refine sts_drop (B := b_law) (k := 19) (Nat.le_of_ble_eq_true rfl) ?_
  refine sts_cons (st_set (i := 12) (storeOk (by kernel_rfl) (.inl rfl)) (Nat.le_of_ble_eq_true rfl) ?_)
  refine ev_callS F_law_draw (globOk (by kernel_rfl)) (Nat.le_of_ble_eq_true rfl) rfl (i := 1) (nameOk (by kernel_rfl)) rfl ?_
  refine eva_cons ?_
  refine ev_lenT PyData.int (globOk (by kernel_rfl)) T.z_len ?_
  refine Ev.o (ev_var (i := 5) (nameOk (by kernel_rfl)) rfl ?_)
  refine ⟨(law_row (1 + r1) r2 (2 + r3)), rfl, ?_⟩
  refine eva_nil ?_
  refine ⟨rfl, (((law_row (1 + r1) r2 (2 + r3))).length : Int), rfl, (by walk_at "side"), (by walk_at "log"), fun r38 r38a r38b => ?_⟩
  show Sts _ [.any, .st ns, .imm (PyData.tuple [PyData.int ((1 + r1)), PyData.int (r2), PyData.int ((2 + r3))]), .imm (PyData.int ((1 + r4))), .imm (PyData.int (r5)), .imm (PyData.tuple (((law_row (1 + r1) r2 (2 + r3))).map PyData.int)), .imm (PyData.list ((((((rng 0 (((1 + r4) : Int)).toNat)).filter (fun place : Int => decide ((law_end (1 + r1) r2 (2 + r3) (1 + r4) place) = 0))).map (fun place : Int => place))).map PyData.int)), .imm (PyData.list ((((((rng 0 ((((1 + r4) + 1) : Int)).toNat)).filter (fun k' : Int => decide ((law_end (1 + r1) k' (2 + r3) (1 + r4) r5) = 0))).map (fun k' : Int => k'))).map PyData.int)), .imm (PyData.int ((1 + r26))), .imm (PyData.int ((((1 + r4) * (1 + r26)) + 1))), .imm (PyData.list (((((rng 1 ((((((1 + r4) * (1 + r26)) + 1) + 1) - 1 : Int)).toNat)).foldl (fun (s27 : (List (Int × Int × Int))) (one : Int) => (s27 ++ ((((rng 0 ((((((1 + r4) * (1 + r26)) + 1) + 1) : Int)).toNat)).filter (fun gap : Int => decide (((one * (2 + r3)) + (gap * ((2 + r3) - 1))) = (((1 + r4) * (1 + r26)) + 1)))).map (fun gap : Int => (one, gap, (2 + r3)))))) ([] : (List (Int × Int × Int))))).map (fun y : (Int × Int × Int) => PyData.tuple [PyData.int ((y).1), PyData.int ((y).2.1), PyData.int ((y).2.2)]))), .any, .imm (PyData.int (r38)), .any, .any, .any, .any, .any, .any, .any, .any, .any, .imm (PyData.int ((1 + r1))), .imm (PyData.int (r2)), .imm (PyData.int ((2 + r3)))] _ _
  refine sts_drop (B := b_law) (k := 20) (Nat.le_of_ble_eq_true rfl) ?_
  refine sts_cons (st_if ?_)
  refine CmpK.t (kNe rfl) ?_ rfl
  refine Ev.o (ev_call F_is_sounding (globOk (by kernel_rfl)) (Nat.le_of_ble_eq_true rfl) rfl ?_)
  refine eva_cons ?_
  refine ev_var (i := 2) (nameOk (by kernel_rfl)) rfl ?_
  refine eva_cons ?_
  refine ev_var (i := 12) (nameOk (by kernel_rfl)) rfl ?_
  refine eva_nil ?_
  refine ⟨rfl, ((1 + r1), r2, (2 + r3)), r38, rfl, (by walk_at "pre"), fun v39 hv40 => ?_, fun hn41 => absurd hn41 (by exact sounding_ok (by omega))⟩
  obtain rfl : v39 = ((is_sounding ((1 + r1), r2, (2 + r3)) r38).getD default) := by rw [hv40] <;> rfl
  refine Ev.o (CmpK.ev (kEq rfl) ?_ rfl)
  refine Ev.o (ev_ixT PyData.int ?_)
  refine Ev.o (ev_var (i := 5) (nameOk (by kernel_rfl)) rfl ?_)
  refine ⟨(law_row (1 + r1) r2 (2 + r3)), rfl, ?_⟩
  refine Ev.o (ev_var (i := 12) (nameOk (by kernel_rfl)) rfl ?_)
  refine ⟨r38, (atD (law_row (1 + r1) r2 (2 + r3)) r38), rfl, atD_ok (by walk_at "size") (by walk_at "size"), ?_⟩
  refine Ev.o (ev_int ?_)
  refine ⟨decide ((atD (law_row (1 + r1) r2 (2 + r3)) r38) = 1), cdEq cd_int.o (by decide) (atD (law_row (1 + r1) r2 (2 + r3)) r38) 1, ?_⟩
  refine ⟨(!decide (((is_sounding ((1 + r1), r2, (2 + r3)) r38).getD default) = decide ((atD (law_row (1 + r1) r2 (2 + r3)) r38) = 1))), cdNe cd_bool.o (by decide) ((is_sounding ((1 + r1), r2, (2 + r3)) r38).getD default) (decide ((atD (law_row (1 + r1) r2 (2 + r3)) r38) = 1)), ?_⟩
  have c9 : ((!decide (((is_sounding ((1 + r1), r2, (2 + r3)) r38).getD default) = decide ((atD (law_row (1 + r1) r2 (2 + r3)) r38) = 1)))) = false := by
    exact c9_ (by omega) (by omega) (by omega) r38a r38b
  refine ⟨fun h42 => Bool.noConfusion (h42.symm.trans c9), fun _ => ?_⟩
  refine sts_nil ?_
  show Sts _ [.any, .st ns, .imm (PyData.tuple [PyData.int ((1 + r1)), PyData.int (r2), PyData.int ((2 + r3))]), .imm (PyData.int ((1 + r4))), .imm (PyData.int (r5)), .imm (PyData.tuple (((law_row (1 + r1) r2 (2 + r3))).map PyData.int)), .imm (PyData.list ((((((rng 0 (((1 + r4) : Int)).toNat)).filter (fun place : Int => decide ((law_end (1 + r1) r2 (2 + r3) (1 + r4) place) = 0))).map (fun place : Int => place))).map PyData.int)), .imm (PyData.list ((((((rng 0 ((((1 + r4) + 1) : Int)).toNat)).filter (fun k' : Int => decide ((law_end (1 + r1) k' (2 + r3) (1 + r4) r5) = 0))).map (fun k' : Int => k'))).map PyData.int)), .imm (PyData.int ((1 + r26))), .imm (PyData.int ((((1 + r4) * (1 + r26)) + 1))), .imm (PyData.list (((((rng 1 ((((((1 + r4) * (1 + r26)) + 1) + 1) - 1 : Int)).toNat)).foldl (fun (s27 : (List (Int × Int × Int))) (one : Int) => (s27 ++ ((((rng 0 ((((((1 + r4) * (1 + r26)) + 1) + 1) : Int)).toNat)).filter (fun gap : Int => decide (((one * (2 + r3)) + (gap * ((2 + r3) - 1))) = (((1 + r4) * (1 + r26)) + 1)))).map (fun gap : Int => (one, gap, (2 + r3)))))) ([] : (List (Int × Int × Int))))).map (fun y : (Int × Int × Int) => PyData.tuple [PyData.int ((y).1), PyData.int ((y).2.1), PyData.int ((y).2.2)]))), .any, .imm (PyData.int (r38)), .any, .any, .any, .any, .any, .any, .any, .any, .any, .imm (PyData.int ((1 + r1))), .imm (PyData.int (r2)), .imm (PyData.int ((2 + r3)))] _ _
  refine sts_drop (B := b_law) (k := 21) (Nat.le_of_ble_eq_true rfl) ?_
  refine sts_cons (st_set (i := 13) (storeOk (by kernel_rfl) (.inl rfl)) (Nat.le_of_ble_eq_true rfl) ?_)
  refine ev_callS F_law_draw (globOk (by kernel_rfl)) (Nat.le_of_ble_eq_true rfl) rfl (i := 1) (nameOk (by kernel_rfl)) rfl ?_
  refine eva_cons ?_
  refine ev_int ?_
  refine eva_nil ?_
  refine ⟨rfl, 5, rfl, (by walk_at "side"), (by walk_at "log"), fun r43 r43a r43b => ?_⟩
  show Sts _ [.any, .st ns, .imm (PyData.tuple [PyData.int ((1 + r1)), PyData.int (r2), PyData.int ((2 + r3))]), .imm (PyData.int ((1 + r4))), .imm (PyData.int (r5)), .imm (PyData.tuple (((law_row (1 + r1) r2 (2 + r3))).map PyData.int)), .imm (PyData.list ((((((rng 0 (((1 + r4) : Int)).toNat)).filter (fun place : Int => decide ((law_end (1 + r1) r2 (2 + r3) (1 + r4) place) = 0))).map (fun place : Int => place))).map PyData.int)), .imm (PyData.list ((((((rng 0 ((((1 + r4) + 1) : Int)).toNat)).filter (fun k' : Int => decide ((law_end (1 + r1) k' (2 + r3) (1 + r4) r5) = 0))).map (fun k' : Int => k'))).map PyData.int)), .imm (PyData.int ((1 + r26))), .imm (PyData.int ((((1 + r4) * (1 + r26)) + 1))), .imm (PyData.list (((((rng 1 ((((((1 + r4) * (1 + r26)) + 1) + 1) - 1 : Int)).toNat)).foldl (fun (s27 : (List (Int × Int × Int))) (one : Int) => (s27 ++ ((((rng 0 ((((((1 + r4) * (1 + r26)) + 1) + 1) : Int)).toNat)).filter (fun gap : Int => decide (((one * (2 + r3)) + (gap * ((2 + r3) - 1))) = (((1 + r4) * (1 + r26)) + 1)))).map (fun gap : Int => (one, gap, (2 + r3)))))) ([] : (List (Int × Int × Int))))).map (fun y : (Int × Int × Int) => PyData.tuple [PyData.int ((y).1), PyData.int ((y).2.1), PyData.int ((y).2.2)]))), .any, .imm (PyData.int (r38)), .imm (PyData.int (r43)), .any, .any, .any, .any, .any, .any, .any, .any, .imm (PyData.int ((1 + r1))), .imm (PyData.int (r2)), .imm (PyData.int ((2 + r3)))] _ _
  refine sts_drop (B := b_law) (k := 22) (Nat.le_of_ble_eq_true rfl) ?_
  refine sts_cons (st_set (i := 14) (storeOk (by kernel_rfl) (.inl rfl)) (Nat.le_of_ble_eq_true rfl) ?_)
  refine ev_add ?_
  refine Ev.o (ev_int ?_)
  refine ⟨2, rfl, ?_⟩
  refine Ev.o (ev_callS F_law_draw (globOk (by kernel_rfl)) (Nat.le_of_ble_eq_true rfl) rfl (i := 1) (nameOk (by kernel_rfl)) rfl ?_)
  refine eva_cons ?_
  refine ev_int ?_
  refine eva_nil ?_
  refine ⟨rfl, 3, rfl, (by walk_at "side"), (by walk_at "log"), fun r44 r44a r44b => ?_⟩
  refine ⟨r44, rfl, ?_⟩
  show Sts _ [.any, .st ns, .imm (PyData.tuple [PyData.int ((1 + r1)), PyData.int (r2), PyData.int ((2 + r3))]), .imm (PyData.int ((1 + r4))), .imm (PyData.int (r5)), .imm (PyData.tuple (((law_row (1 + r1) r2 (2 + r3))).map PyData.int)), .imm (PyData.list ((((((rng 0 (((1 + r4) : Int)).toNat)).filter (fun place : Int => decide ((law_end (1 + r1) r2 (2 + r3) (1 + r4) place) = 0))).map (fun place : Int => place))).map PyData.int)), .imm (PyData.list ((((((rng 0 ((((1 + r4) + 1) : Int)).toNat)).filter (fun k' : Int => decide ((law_end (1 + r1) k' (2 + r3) (1 + r4) r5) = 0))).map (fun k' : Int => k'))).map PyData.int)), .imm (PyData.int ((1 + r26))), .imm (PyData.int ((((1 + r4) * (1 + r26)) + 1))), .imm (PyData.list (((((rng 1 ((((((1 + r4) * (1 + r26)) + 1) + 1) - 1 : Int)).toNat)).foldl (fun (s27 : (List (Int × Int × Int))) (one : Int) => (s27 ++ ((((rng 0 ((((((1 + r4) * (1 + r26)) + 1) + 1) : Int)).toNat)).filter (fun gap : Int => decide (((one * (2 + r3)) + (gap * ((2 + r3) - 1))) = (((1 + r4) * (1 + r26)) + 1)))).map (fun gap : Int => (one, gap, (2 + r3)))))) ([] : (List (Int × Int × Int))))).map (fun y : (Int × Int × Int) => PyData.tuple [PyData.int ((y).1), PyData.int ((y).2.1), PyData.int ((y).2.2)]))), .any, .imm (PyData.int (r38)), .imm (PyData.int (r43)), .imm (PyData.int ((2 + r44))), .any, .any, .any, .any, .any, .any, .any, .imm (PyData.int ((1 + r1))), .imm (PyData.int (r2)), .imm (PyData.int ((2 + r3)))] _ _
  refine sts_drop (B := b_law) (k := 23) (Nat.le_of_ble_eq_true rfl) ?_
  refine sts_cons (st_set (i := 15) (storeOk (by kernel_rfl) (.inl rfl)) (Nat.le_of_ble_eq_true rfl) ?_)
  refine ev_var (i := 5) (nameOk (by kernel_rfl)) rfl ?_
  show Sts _ [.any, .st ns, .imm (PyData.tuple [PyData.int ((1 + r1)), PyData.int (r2), PyData.int ((2 + r3))]), .imm (PyData.int ((1 + r4))), .imm (PyData.int (r5)), .imm (PyData.tuple (((law_row (1 + r1) r2 (2 + r3))).map PyData.int)), .imm (PyData.list ((((((rng 0 (((1 + r4) : Int)).toNat)).filter (fun place : Int => decide ((law_end (1 + r1) r2 (2 + r3) (1 + r4) place) = 0))).map (fun place : Int => place))).map PyData.int)), .imm (PyData.list ((((((rng 0 ((((1 + r4) + 1) : Int)).toNat)).filter (fun k' : Int => decide ((law_end (1 + r1) k' (2 + r3) (1 + r4) r5) = 0))).map (fun k' : Int => k'))).map PyData.int)), .imm (PyData.int ((1 + r26))), .imm (PyData.int ((((1 + r4) * (1 + r26)) + 1))), .imm (PyData.list (((((rng 1 ((((((1 + r4) * (1 + r26)) + 1) + 1) - 1 : Int)).toNat)).foldl (fun (s27 : (List (Int × Int × Int))) (one : Int) => (s27 ++ ((((rng 0 ((((((1 + r4) * (1 + r26)) + 1) + 1) : Int)).toNat)).filter (fun gap : Int => decide (((one * (2 + r3)) + (gap * ((2 + r3) - 1))) = (((1 + r4) * (1 + r26)) + 1)))).map (fun gap : Int => (one, gap, (2 + r3)))))) ([] : (List (Int × Int × Int))))).map (fun y : (Int × Int × Int) => PyData.tuple [PyData.int ((y).1), PyData.int ((y).2.1), PyData.int ((y).2.2)]))), .any, .imm (PyData.int (r38)), .imm (PyData.int (r43)), .imm (PyData.int ((2 + r44))), .imm (PyData.tuple (((law_row (1 + r1) r2 (2 + r3))).map PyData.int)), .any, .any, .any, .any, .any, .any, .imm (PyData.int ((1 + r1))), .imm (PyData.int (r2)), .imm (PyData.int ((2 + r3)))] _ _
  refine sts_drop (B := b_law) (k := 24) (Nat.le_of_ble_eq_true rfl) ?_
  refine sts_cons (st_forD (α := Int) (β := (List Int)) rfl ?_)
  refine eit_range1 (globOk (by kernel_rfl)) T.z_range ?_
  refine Ev.o (ev_sub ?_)
  refine Ev.o (ev_var (i := 14) (nameOk (by kernel_rfl)) rfl ?_)
  refine ⟨(2 + r44), rfl, ?_⟩
  refine Ev.o (ev_int ?_)
  refine ⟨1, rfl, ?_⟩
  refine ⟨((2 + r44) - 1), rfl, (by walk_at "side"), (by walk_at "side"), ?_⟩
  refine ⟨(rng 0 ((((2 + r44) - 1) : Int)).toNat), PyData.int, rfl, (fun s45 : (List Int) => [.any, .st ns, .imm (PyData.tuple [PyData.int ((1 + r1)), PyData.int (r2), PyData.int ((2 + r3))]), .imm (PyData.int ((1 + r4))), .imm (PyData.int (r5)), .imm (PyData.tuple (((law_row (1 + r1) r2 (2 + r3))).map PyData.int)), .imm (PyData.list ((((((rng 0 (((1 + r4) : Int)).toNat)).filter (fun place : Int => decide ((law_end (1 + r1) r2 (2 + r3) (1 + r4) place) = 0))).map (fun place : Int => place))).map PyData.int)), .imm (PyData.list ((((((rng 0 ((((1 + r4) + 1) : Int)).toNat)).filter (fun k' : Int => decide ((law_end (1 + r1) k' (2 + r3) (1 + r4) r5) = 0))).map (fun k' : Int => k'))).map PyData.int)), .imm (PyData.int ((1 + r26))), .imm (PyData.int ((((1 + r4) * (1 + r26)) + 1))), .imm (PyData.list (((((rng 1 ((((((1 + r4) * (1 + r26)) + 1) + 1) - 1 : Int)).toNat)).foldl (fun (s27 : (List (Int × Int × Int))) (one : Int) => (s27 ++ ((((rng 0 ((((((1 + r4) * (1 + r26)) + 1) + 1) : Int)).toNat)).filter (fun gap : Int => decide (((one * (2 + r3)) + (gap * ((2 + r3) - 1))) = (((1 + r4) * (1 + r26)) + 1)))).map (fun gap : Int => (one, gap, (2 + r3)))))) ([] : (List (Int × Int × Int))))).map (fun y : (Int × Int × Int) => PyData.tuple [PyData.int ((y).1), PyData.int ((y).2.1), PyData.int ((y).2.2)]))), .any, .imm (PyData.int (r38)), .imm (PyData.int (r43)), .imm (PyData.int ((2 + r44))), .imm (PyData.tuple ((s45).map PyData.int)), .any, .any, .any, .any, .any, .any, .imm (PyData.int ((1 + r1))), .imm (PyData.int (r2)), .imm (PyData.int ((2 + r3)))]), (fun (i : Nat) (s45 : (List Int)) => (s45).length ≤ 100 + i * 200), (fun (s45 : (List Int)) (k' : Int) => ((s45 ++ (List.replicate (r43).toNat ([0] : (List Int))).flatten) ++ (law_row (1 + r1) r2 (2 + r3)))), (law_row (1 + r1) r2 (2 + r3)), ⟨.inl rfl, ⟨.inl rfl, ⟨.inl rfl, ⟨.inl rfl, ⟨.inl rfl, ⟨.inl rfl, ⟨.inl rfl, ⟨.inl rfl, ⟨.inl rfl, ⟨.inl rfl, ⟨.inl rfl, ⟨.inl rfl, ⟨.inl rfl, ⟨.inl rfl, ⟨.inl rfl, ⟨.inl rfl, ⟨.inl rfl, ⟨.inl rfl, ⟨.inl rfl, ⟨.inl rfl, ⟨.inl rfl, ⟨.inl rfl, ⟨.inl rfl, ⟨.inl rfl, ⟨.inl rfl, trivial⟩⟩⟩⟩⟩⟩⟩⟩⟩⟩⟩⟩⟩⟩⟩⟩⟩⟩⟩⟩⟩⟩⟩⟩⟩, (by walk_at "inv"), ?_, fun hf50 => ?_⟩
  · intro i46 k' s45 hx47 hi48
    have hi48 : (s45).length ≤ 100 + i46 * 200 := hi48
    have hx47m := List.mem_of_getElem? hx47
    have hx47b := rng_get hx47
    refine ⟨[16], ?_⟩
    refine evg_name (i := 16) (storeOk (by kernel_rfl) (.inl rfl)) (by simp) (Nat.le_of_ble_eq_true rfl) ?_
    show Sts _ [.any, .st ns, .imm (PyData.tuple [PyData.int ((1 + r1)), PyData.int (r2), PyData.int ((2 + r3))]), .imm (PyData.int ((1 + r4))), .imm (PyData.int (r5)), .imm (PyData.tuple (((law_row (1 + r1) r2 (2 + r3))).map PyData.int)), .imm (PyData.list ((((((rng 0 (((1 + r4) : Int)).toNat)).filter (fun place : Int => decide ((law_end (1 + r1) r2 (2 + r3) (1 + r4) place) = 0))).map (fun place : Int => place))).map PyData.int)), .imm (PyData.list ((((((rng 0 ((((1 + r4) + 1) : Int)).toNat)).filter (fun k' : Int => decide ((law_end (1 + r1) k' (2 + r3) (1 + r4) r5) = 0))).map (fun k' : Int => k'))).map PyData.int)), .imm (PyData.int ((1 + r26))), .imm (PyData.int ((((1 + r4) * (1 + r26)) + 1))), .imm (PyData.list (((((rng 1 ((((((1 + r4) * (1 + r26)) + 1) + 1) - 1 : Int)).toNat)).foldl (fun (s27 : (List (Int × Int × Int))) (one : Int) => (s27 ++ ((((rng 0 ((((((1 + r4) * (1 + r26)) + 1) + 1) : Int)).toNat)).filter (fun gap : Int => decide (((one * (2 + r3)) + (gap * ((2 + r3) - 1))) = (((1 + r4) * (1 + r26)) + 1)))).map (fun gap : Int => (one, gap, (2 + r3)))))) ([] : (List (Int × Int × Int))))).map (fun y : (Int × Int × Int) => PyData.tuple [PyData.int ((y).1), PyData.int ((y).2.1), PyData.int ((y).2.2)]))), .any, .imm (PyData.int (r38)), .imm (PyData.int (r43)), .imm (PyData.int ((2 + r44))), .imm (PyData.tuple ((s45).map PyData.int)), .imm (PyData.int (k')), .any, .any, .any, .any, .any, .imm (PyData.int ((1 + r1))), .imm (PyData.int (r2)), .imm (PyData.int ((2 + r3)))] _ _
    refine sts_cons (st_set (i := 15) (storeOk (by kernel_rfl) (.inl rfl)) (Nat.le_of_ble_eq_true rfl) ?_)
    refine ev_addTT PyData.int ?_
    refine Ev.o (ev_addTT PyData.int ?_)
    refine Ev.o (ev_var (i := 15) (nameOk (by kernel_rfl)) rfl ?_)
    refine ⟨s45, rfl, ?_⟩
    refine Ev.o (ev_repTT PyData.int ?_)
    refine Ev.o (ev_tup ?_)
    refine eva_cons ?_
    refine ev_int ?_
    refine eva_nil ?_
    refine ⟨szOk (show 1 ≤ 1000000 by omega), ?_⟩
    refine ⟨([0] : (List Int)), rfl, ?_⟩
    refine Ev.o (ev_var (i := 13) (nameOk (by kernel_rfl)) rfl ?_)
    refine ⟨r43, rfl, (by walk_at "side"), (by walk_at "side"), (by walk_at "size"), ?_⟩
    refine ⟨(List.replicate (r43).toNat ([0] : (List Int))).flatten, rfl, (by simp only [List.length_append, List.length_append, List.length_map, List.length_cons, List.length_nil, List.length_flatten, List.length_replicate, List.map_replicate, List.sum_replicate_nat, sizeLine_eq]; omega), ?_⟩
    refine ⟨(s45 ++ (List.replicate (r43).toNat ([0] : (List Int))).flatten), rfl, ?_⟩
    refine Ev.o (ev_var (i := 5) (nameOk (by kernel_rfl)) rfl ?_)
    refine ⟨(law_row (1 + r1) r2 (2 + r3)), rfl, (by simp only [List.length_append, List.length_append, List.length_map, List.length_cons, List.length_nil, List.length_flatten, List.length_replicate, List.map_replicate, List.sum_replicate_nat, sizeLine_eq]; omega), ?_⟩
    show Sts _ [.any, .st ns, .imm (PyData.tuple [PyData.int ((1 + r1)), PyData.int (r2), PyData.int ((2 + r3))]), .imm (PyData.int ((1 + r4))), .imm (PyData.int (r5)), .imm (PyData.tuple (((law_row (1 + r1) r2 (2 + r3))).map PyData.int)), .imm (PyData.list ((((((rng 0 (((1 + r4) : Int)).toNat)).filter (fun place : Int => decide ((law_end (1 + r1) r2 (2 + r3) (1 + r4) place) = 0))).map (fun place : Int => place))).map PyData.int)), .imm (PyData.list ((((((rng 0 ((((1 + r4) + 1) : Int)).toNat)).filter (fun k' : Int => decide ((law_end (1 + r1) k' (2 + r3) (1 + r4) r5) = 0))).map (fun k' : Int => k'))).map PyData.int)), .imm (PyData.int ((1 + r26))), .imm (PyData.int ((((1 + r4) * (1 + r26)) + 1))), .imm (PyData.list (((((rng 1 ((((((1 + r4) * (1 + r26)) + 1) + 1) - 1 : Int)).toNat)).foldl (fun (s27 : (List (Int × Int × Int))) (one : Int) => (s27 ++ ((((rng 0 ((((((1 + r4) * (1 + r26)) + 1) + 1) : Int)).toNat)).filter (fun gap : Int => decide (((one * (2 + r3)) + (gap * ((2 + r3) - 1))) = (((1 + r4) * (1 + r26)) + 1)))).map (fun gap : Int => (one, gap, (2 + r3)))))) ([] : (List (Int × Int × Int))))).map (fun y : (Int × Int × Int) => PyData.tuple [PyData.int ((y).1), PyData.int ((y).2.1), PyData.int ((y).2.2)]))), .any, .imm (PyData.int (r38)), .imm (PyData.int (r43)), .imm (PyData.int ((2 + r44))), .imm (PyData.tuple ((((s45 ++ (List.replicate (r43).toNat ([0] : (List Int))).flatten) ++ (law_row (1 + r1) r2 (2 + r3)))).map PyData.int)), .imm (PyData.int (k')), .any, .any, .any, .any, .any, .imm (PyData.int ((1 + r1))), .imm (PyData.int (r2)), .imm (PyData.int ((2 + r3)))] _ _
    refine sts_nil ?_
    show Weak [.any, .st ns, .imm (PyData.tuple [PyData.int ((1 + r1)), PyData.int (r2), PyData.int ((2 + r3))]), .imm (PyData.int ((1 + r4))), .imm (PyData.int (r5)), .imm (PyData.tuple (((law_row (1 + r1) r2 (2 + r3))).map PyData.int)), .imm (PyData.list ((((((rng 0 (((1 + r4) : Int)).toNat)).filter (fun place : Int => decide ((law_end (1 + r1) r2 (2 + r3) (1 + r4) place) = 0))).map (fun place : Int => place))).map PyData.int)), .imm (PyData.list ((((((rng 0 ((((1 + r4) + 1) : Int)).toNat)).filter (fun k' : Int => decide ((law_end (1 + r1) k' (2 + r3) (1 + r4) r5) = 0))).map (fun k' : Int => k'))).map PyData.int)), .imm (PyData.int ((1 + r26))), .imm (PyData.int ((((1 + r4) * (1 + r26)) + 1))), .imm (PyData.list (((((rng 1 ((((((1 + r4) * (1 + r26)) + 1) + 1) - 1 : Int)).toNat)).foldl (fun (s27 : (List (Int × Int × Int))) (one : Int) => (s27 ++ ((((rng 0 ((((((1 + r4) * (1 + r26)) + 1) + 1) : Int)).toNat)).filter (fun gap : Int => decide (((one * (2 + r3)) + (gap * ((2 + r3) - 1))) = (((1 + r4) * (1 + r26)) + 1)))).map (fun gap : Int => (one, gap, (2 + r3)))))) ([] : (List (Int × Int × Int))))).map (fun y : (Int × Int × Int) => PyData.tuple [PyData.int ((y).1), PyData.int ((y).2.1), PyData.int ((y).2.2)]))), .any, .imm (PyData.int (r38)), .imm (PyData.int (r43)), .imm (PyData.int ((2 + r44))), .imm (PyData.tuple ((((s45 ++ (List.replicate (r43).toNat ([0] : (List Int))).flatten) ++ (law_row (1 + r1) r2 (2 + r3)))).map PyData.int)), .imm (PyData.int (k')), .any, .any, .any, .any, .any, .imm (PyData.int ((1 + r1))), .imm (PyData.int (r2)), .imm (PyData.int ((2 + r3)))] [.any, .st ns, .imm (PyData.tuple [PyData.int ((1 + r1)), PyData.int (r2), PyData.int ((2 + r3))]), .imm (PyData.int ((1 + r4))), .imm (PyData.int (r5)), .imm (PyData.tuple (((law_row (1 + r1) r2 (2 + r3))).map PyData.int)), .imm (PyData.list ((((((rng 0 (((1 + r4) : Int)).toNat)).filter (fun place : Int => decide ((law_end (1 + r1) r2 (2 + r3) (1 + r4) place) = 0))).map (fun place : Int => place))).map PyData.int)), .imm (PyData.list ((((((rng 0 ((((1 + r4) + 1) : Int)).toNat)).filter (fun k' : Int => decide ((law_end (1 + r1) k' (2 + r3) (1 + r4) r5) = 0))).map (fun k' : Int => k'))).map PyData.int)), .imm (PyData.int ((1 + r26))), .imm (PyData.int ((((1 + r4) * (1 + r26)) + 1))), .imm (PyData.list (((((rng 1 ((((((1 + r4) * (1 + r26)) + 1) + 1) - 1 : Int)).toNat)).foldl (fun (s27 : (List (Int × Int × Int))) (one : Int) => (s27 ++ ((((rng 0 ((((((1 + r4) * (1 + r26)) + 1) + 1) : Int)).toNat)).filter (fun gap : Int => decide (((one * (2 + r3)) + (gap * ((2 + r3) - 1))) = (((1 + r4) * (1 + r26)) + 1)))).map (fun gap : Int => (one, gap, (2 + r3)))))) ([] : (List (Int × Int × Int))))).map (fun y : (Int × Int × Int) => PyData.tuple [PyData.int ((y).1), PyData.int ((y).2.1), PyData.int ((y).2.2)]))), .any, .imm (PyData.int (r38)), .imm (PyData.int (r43)), .imm (PyData.int ((2 + r44))), .imm (PyData.tuple ((((s45 ++ (List.replicate (r43).toNat ([0] : (List Int))).flatten) ++ (law_row (1 + r1) r2 (2 + r3)))).map PyData.int)), .any, .any, .any, .any, .any, .any, .imm (PyData.int ((1 + r1))), .imm (PyData.int (r2)), .imm (PyData.int ((2 + r3)))] ∧ (((s45 ++ (List.replicate (r43).toNat ([0] : (List Int))).flatten) ++ (law_row (1 + r1) r2 (2 + r3)))).length ≤ 100 + (i46 + 1) * 200
    exact ⟨⟨.inl rfl, ⟨.inl rfl, ⟨.inl rfl, ⟨.inl rfl, ⟨.inl rfl, ⟨.inl rfl, ⟨.inl rfl, ⟨.inl rfl, ⟨.inl rfl, ⟨.inl rfl, ⟨.inl rfl, ⟨.inl rfl, ⟨.inl rfl, ⟨.inl rfl, ⟨.inl rfl, ⟨.inl rfl, ⟨.inr rfl, ⟨.inl rfl, ⟨.inl rfl, ⟨.inl rfl, ⟨.inl rfl, ⟨.inl rfl, ⟨.inl rfl, ⟨.inl rfl, ⟨.inl rfl, trivial⟩⟩⟩⟩⟩⟩⟩⟩⟩⟩⟩⟩⟩⟩⟩⟩⟩⟩⟩⟩⟩⟩⟩⟩⟩, (by simp only [List.length_append, List.length_append, List.length_map, List.length_cons, List.length_nil, List.length_flatten, List.length_replicate, List.map_replicate, List.sum_replicate_nat, sizeLine_eq]; omega)⟩
  have hf50 : ((((rng 0 ((((2 + r44) - 1) : Int)).toNat)).foldl (fun (s45 : (List Int)) (k' : Int) => ((s45 ++ (List.replicate (r43).toNat ([0] : (List Int))).flatten) ++ (law_row (1 + r1) r2 (2 + r3)))) (law_row (1 + r1) r2 (2 + r3)))).length ≤ 100 + ((rng 0 ((((2 + r44) - 1) : Int)).toNat)).length * 200 := hf50
  show Sts _ [.any, .st ns, .imm (PyData.tuple [PyData.int ((1 + r1)), PyData.int (r2), PyData.int ((2 + r3))]), .imm (PyData.int ((1 + r4))), .imm (PyData.int (r5)), .imm (PyData.tuple (((law_row (1 + r1) r2 (2 + r3))).map PyData.int)), .imm (PyData.list ((((((rng 0 (((1 + r4) : Int)).toNat)).filter (fun place : Int => decide ((law_end (1 + r1) r2 (2 + r3) (1 + r4) place) = 0))).map (fun place : Int => place))).map PyData.int)), .imm (PyData.list ((((((rng 0 ((((1 + r4) + 1) : Int)).toNat)).filter (fun k' : Int => decide ((law_end (1 + r1) k' (2 + r3) (1 + r4) r5) = 0))).map (fun k' : Int => k'))).map PyData.int)), .imm (PyData.int ((1 + r26))), .imm (PyData.int ((((1 + r4) * (1 + r26)) + 1))), .imm (PyData.list (((((rng 1 ((((((1 + r4) * (1 + r26)) + 1) + 1) - 1 : Int)).toNat)).foldl (fun (s27 : (List (Int × Int × Int))) (one : Int) => (s27 ++ ((((rng 0 ((((((1 + r4) * (1 + r26)) + 1) + 1) : Int)).toNat)).filter (fun gap : Int => decide (((one * (2 + r3)) + (gap * ((2 + r3) - 1))) = (((1 + r4) * (1 + r26)) + 1)))).map (fun gap : Int => (one, gap, (2 + r3)))))) ([] : (List (Int × Int × Int))))).map (fun y : (Int × Int × Int) => PyData.tuple [PyData.int ((y).1), PyData.int ((y).2.1), PyData.int ((y).2.2)]))), .any, .imm (PyData.int (r38)), .imm (PyData.int (r43)), .imm (PyData.int ((2 + r44))), .imm (PyData.tuple (((((rng 0 ((((2 + r44) - 1) : Int)).toNat)).foldl (fun (s45 : (List Int)) (k' : Int) => ((s45 ++ (List.replicate (r43).toNat ([0] : (List Int))).flatten) ++ (law_row (1 + r1) r2 (2 + r3)))) (law_row (1 + r1) r2 (2 + r3)))).map PyData.int)), .any, .any, .any, .any, .any, .any, .imm (PyData.int ((1 + r1))), .imm (PyData.int (r2)), .imm (PyData.int ((2 + r3)))] _ _
  refine sts_drop (B := b_law) (k := 25) (Nat.le_of_ble_eq_true rfl) ?_
  refine sts_cons (st_if ?_)
  refine evt_det (((!decide ((nested ((1 + r1), r2, (2 + r3)) r43 (2 + r44)) = (((rng 0 ((((2 + r44) - 1) : Int)).toNat)).foldl (fun (s45 : (List Int)) (k' : Int) => ((s45 ++ (List.replicate (r43).toNat ([0] : (List Int))).flatten) ++ (law_row (1 + r1) r2 (2 + r3)))) (law_row (1 + r1) r2 (2 + r3))))) || (!decide ((nested_length ((1 + r1), r2, (2 + r3)) r43 (2 + r44)) = (((((rng 0 ((((2 + r44) - 1) : Int)).toNat)).foldl (fun (s45 : (List Int)) (k' : Int) => ((s45 ++ (List.replicate (r43).toNat ([0] : (List Int))).flatten) ++ (law_row (1 + r1) r2 (2 + r3)))) (law_row (1 + r1) r2 (2 + r3)))).length : Int))))) ?_ ?_
  · refine EvW.t ?_
    refine evw_or ?_
    refine CmpK.t (kNe rfl) ?_ rfl
    refine Ev.o (ev_call F_nested (globOk (by kernel_rfl)) (Nat.le_of_ble_eq_true rfl) rfl ?_)
    refine eva_cons ?_
    refine ev_var (i := 2) (nameOk (by kernel_rfl)) rfl ?_
    refine eva_cons ?_
    refine ev_var (i := 13) (nameOk (by kernel_rfl)) rfl ?_
    refine eva_cons ?_
    refine ev_var (i := 14) (nameOk (by kernel_rfl)) rfl ?_
    refine eva_nil ?_
    refine ⟨rfl, ((1 + r1), r2, (2 + r3)), r43, (2 + r44), rfl, (by walk_at "pre"), ?_⟩
    refine Ev.o (ev_var (i := 15) (nameOk (by kernel_rfl)) rfl ?_)
    refine ⟨(!decide ((nested ((1 + r1), r2, (2 + r3)) r43 (2 + r44)) = (((rng 0 ((((2 + r44) - 1) : Int)).toNat)).foldl (fun (s45 : (List Int)) (k' : Int) => ((s45 ++ (List.replicate (r43).toNat ([0] : (List Int))).flatten) ++ (law_row (1 + r1) r2 (2 + r3)))) (law_row (1 + r1) r2 (2 + r3))))), cdNe (cd_vtup cd_int).o (by decide) (nested ((1 + r1), r2, (2 + r3)) r43 (2 + r44)) (((rng 0 ((((2 + r44) - 1) : Int)).toNat)).foldl (fun (s45 : (List Int)) (k' : Int) => ((s45 ++ (List.replicate (r43).toNat ([0] : (List Int))).flatten) ++ (law_row (1 + r1) r2 (2 + r3)))) (law_row (1 + r1) r2 (2 + r3))), ?_⟩
    refine ⟨fun (hb51 : ((!decide ((nested ((1 + r1), r2, (2 + r3)) r43 (2 + r44)) = (((rng 0 ((((2 + r44) - 1) : Int)).toNat)).foldl (fun (s45 : (List Int)) (k' : Int) => ((s45 ++ (List.replicate (r43).toNat ([0] : (List Int))).flatten) ++ (law_row (1 + r1) r2 (2 + r3)))) (law_row (1 + r1) r2 (2 + r3)))))) = false) => ?_, fun (hb51 : ((!decide ((nested ((1 + r1), r2, (2 + r3)) r43 (2 + r44)) = (((rng 0 ((((2 + r44) - 1) : Int)).toNat)).foldl (fun (s45 : (List Int)) (k' : Int) => ((s45 ++ (List.replicate (r43).toNat ([0] : (List Int))).flatten) ++ (law_row (1 + r1) r2 (2 + r3)))) (law_row (1 + r1) r2 (2 + r3)))))) = true) => by rw [hb51] <;> rfl⟩
    refine evw_or1 ?_
    refine CmpK.t (kNe rfl) ?_ rfl
    refine Ev.o (ev_call F_nested_length (globOk (by kernel_rfl)) (Nat.le_of_ble_eq_true rfl) rfl ?_)
    refine eva_cons ?_
    refine ev_var (i := 2) (nameOk (by kernel_rfl)) rfl ?_
    refine eva_cons ?_
    refine ev_var (i := 13) (nameOk (by kernel_rfl)) rfl ?_
    refine eva_cons ?_
    refine ev_var (i := 14) (nameOk (by kernel_rfl)) rfl ?_
    refine eva_nil ?_
    refine ⟨rfl, ((1 + r1), r2, (2 + r3)), r43, (2 + r44), rfl, (by walk_at "pre"), ?_⟩
    refine Ev.o (ev_lenT PyData.int (globOk (by kernel_rfl)) T.z_len ?_)
    refine Ev.o (ev_var (i := 15) (nameOk (by kernel_rfl)) rfl ?_)
    refine ⟨(((rng 0 ((((2 + r44) - 1) : Int)).toNat)).foldl (fun (s45 : (List Int)) (k' : Int) => ((s45 ++ (List.replicate (r43).toNat ([0] : (List Int))).flatten) ++ (law_row (1 + r1) r2 (2 + r3)))) (law_row (1 + r1) r2 (2 + r3))), rfl, ?_⟩
    refine ⟨(!decide ((nested_length ((1 + r1), r2, (2 + r3)) r43 (2 + r44)) = (((((rng 0 ((((2 + r44) - 1) : Int)).toNat)).foldl (fun (s45 : (List Int)) (k' : Int) => ((s45 ++ (List.replicate (r43).toNat ([0] : (List Int))).flatten) ++ (law_row (1 + r1) r2 (2 + r3)))) (law_row (1 + r1) r2 (2 + r3)))).length : Int))), cdNe cd_int.o (by decide) (nested_length ((1 + r1), r2, (2 + r3)) r43 (2 + r44)) (((((rng 0 ((((2 + r44) - 1) : Int)).toNat)).foldl (fun (s45 : (List Int)) (k' : Int) => ((s45 ++ (List.replicate (r43).toNat ([0] : (List Int))).flatten) ++ (law_row (1 + r1) r2 (2 + r3)))) (law_row (1 + r1) r2 (2 + r3)))).length : Int), ?_⟩
    rw [hb51] <;> rfl
  have c10 : (((!decide ((nested ((1 + r1), r2, (2 + r3)) r43 (2 + r44)) = (((rng 0 ((((2 + r44) - 1) : Int)).toNat)).foldl (fun (s45 : (List Int)) (k' : Int) => ((s45 ++ (List.replicate (r43).toNat ([0] : (List Int))).flatten) ++ (law_row (1 + r1) r2 (2 + r3)))) (law_row (1 + r1) r2 (2 + r3))))) || (!decide ((nested_length ((1 + r1), r2, (2 + r3)) r43 (2 + r44)) = (((((rng 0 ((((2 + r44) - 1) : Int)).toNat)).foldl (fun (s45 : (List Int)) (k' : Int) => ((s45 ++ (List.replicate (r43).toNat ([0] : (List Int))).flatten) ++ (law_row (1 + r1) r2 (2 + r3)))) (law_row (1 + r1) r2 (2 + r3)))).length : Int))))) = false := by
    exact c10_ (by omega) (by omega) (by omega) (by omega) (by omega)
  refine ⟨fun h52 => Bool.noConfusion (h52.symm.trans c10), fun _ => ?_⟩
  refine sts_nil ?_
  show Sts _ [.any, .st ns, .imm (PyData.tuple [PyData.int ((1 + r1)), PyData.int (r2), PyData.int ((2 + r3))]), .imm (PyData.int ((1 + r4))), .imm (PyData.int (r5)), .imm (PyData.tuple (((law_row (1 + r1) r2 (2 + r3))).map PyData.int)), .imm (PyData.list ((((((rng 0 (((1 + r4) : Int)).toNat)).filter (fun place : Int => decide ((law_end (1 + r1) r2 (2 + r3) (1 + r4) place) = 0))).map (fun place : Int => place))).map PyData.int)), .imm (PyData.list ((((((rng 0 ((((1 + r4) + 1) : Int)).toNat)).filter (fun k' : Int => decide ((law_end (1 + r1) k' (2 + r3) (1 + r4) r5) = 0))).map (fun k' : Int => k'))).map PyData.int)), .imm (PyData.int ((1 + r26))), .imm (PyData.int ((((1 + r4) * (1 + r26)) + 1))), .imm (PyData.list (((((rng 1 ((((((1 + r4) * (1 + r26)) + 1) + 1) - 1 : Int)).toNat)).foldl (fun (s27 : (List (Int × Int × Int))) (one : Int) => (s27 ++ ((((rng 0 ((((((1 + r4) * (1 + r26)) + 1) + 1) : Int)).toNat)).filter (fun gap : Int => decide (((one * (2 + r3)) + (gap * ((2 + r3) - 1))) = (((1 + r4) * (1 + r26)) + 1)))).map (fun gap : Int => (one, gap, (2 + r3)))))) ([] : (List (Int × Int × Int))))).map (fun y : (Int × Int × Int) => PyData.tuple [PyData.int ((y).1), PyData.int ((y).2.1), PyData.int ((y).2.2)]))), .any, .imm (PyData.int (r38)), .imm (PyData.int (r43)), .imm (PyData.int ((2 + r44))), .imm (PyData.tuple (((((rng 0 ((((2 + r44) - 1) : Int)).toNat)).foldl (fun (s45 : (List Int)) (k' : Int) => ((s45 ++ (List.replicate (r43).toNat ([0] : (List Int))).flatten) ++ (law_row (1 + r1) r2 (2 + r3)))) (law_row (1 + r1) r2 (2 + r3)))).map PyData.int)), .any, .any, .any, .any, .any, .any, .imm (PyData.int ((1 + r1))), .imm (PyData.int (r2)), .imm (PyData.int ((2 + r3)))] _ _
  refine sts_drop (B := b_law) (k := 26) (Nat.le_of_ble_eq_true rfl) ?_
  refine sts_cons (st_set (i := 17) (storeOk (by kernel_rfl) (.inl rfl)) (Nat.le_of_ble_eq_true rfl) ?_)
  refine Ev.imp (P := fun d => ∃ z60 : (List Int), ((z60).length ≤ 150) ∧ d = PyData.tuple ((z60).map PyData.int)) ?_ (fun d hd61 => ?_)
  · refine ev_if ?_
    refine CmpK.t (kEq rfl) ?_ rfl
    refine Ev.o (ev_callS F_law_draw (globOk (by kernel_rfl)) (Nat.le_of_ble_eq_true rfl) rfl (i := 1) (nameOk (by kernel_rfl)) rfl ?_)
    refine eva_cons ?_
    refine ev_int ?_
    refine eva_nil ?_
    refine ⟨rfl, 2, rfl, (by walk_at "side"), (by walk_at "log"), fun r53 r53a r53b => ?_⟩
    refine Ev.o (ev_int ?_)
    refine ⟨decide (r53 = 1), cdEq cd_int.o (by decide) r53 1, ?_⟩
    refine ⟨fun (hc54 : (decide (r53 = 1)) = true) => ?_, fun (hc54 : (decide (r53 = 1)) = false) => ?_⟩
    · refine ev_var (i := 5) (nameOk (by kernel_rfl)) rfl ?_
      exact ⟨(law_row (1 + r1) r2 (2 + r3)), by omega, rfl⟩
    · refine ev_tuple (globOk (by kernel_rfl)) T.z_tuple ?_
      refine Ev.o (ev_ofL (EvLc.l rfl (blkOk (by kernel_rfl)) (evl_lcR (α := Int) (β := Int) (own := [("k", 16)]) (free_of rfl) ?_)))
      refine EvIt.o (eit_range1 (globOk (by kernel_rfl)) T.z_range ?_)
      refine Ev.o (ev_callS F_law_draw (globOk (by kernel_rfl)) (Nat.le_of_ble_eq_true rfl) rfl (i := 1) (nameOk (by kernel_rfl)) rfl ?_)
      refine eva_cons ?_
      refine ev_int ?_
      refine eva_nil ?_
      refine ⟨rfl, 12, rfl, (by walk_at "side"), (by walk_at "log"), fun r55 r55a r55b => ?_⟩
      refine ⟨r55, rfl, (by walk_at "side"), (by walk_at "side"), ?_⟩
      refine ⟨(rng 0 ((r55 : Int)).toNat), PyData.int, rfl, (by walk_at "size"), (fun z59 : Int => 0 ≤ z59 ∧ z59 < 2), PyData.int, ?_, fun zs58 zs58l zs58m => ?_⟩
      · intro k' hx56
        have hx56b := mem_rng hx56
        refine evg_name (i := 16) (storeOk (by kernel_rfl) (.inr (by kernel_rfl))) (by simp) (Nat.le_of_ble_eq_true rfl) ?_
        show Ev _ [.any, .st ns, .imm (PyData.tuple [PyData.int ((1 + r1)), PyData.int (r2), PyData.int ((2 + r3))]), .imm (PyData.int ((1 + r4))), .imm (PyData.int (r5)), .imm (PyData.tuple (((law_row (1 + r1) r2 (2 + r3))).map PyData.int)), .imm (PyData.list ((((((rng 0 (((1 + r4) : Int)).toNat)).filter (fun place : Int => decide ((law_end (1 + r1) r2 (2 + r3) (1 + r4) place) = 0))).map (fun place : Int => place))).map PyData.int)), .imm (PyData.list ((((((rng 0 ((((1 + r4) + 1) : Int)).toNat)).filter (fun k' : Int => decide ((law_end (1 + r1) k' (2 + r3) (1 + r4) r5) = 0))).map (fun k' : Int => k'))).map PyData.int)), .imm (PyData.int ((1 + r26))), .imm (PyData.int ((((1 + r4) * (1 + r26)) + 1))), .imm (PyData.list (((((rng 1 ((((((1 + r4) * (1 + r26)) + 1) + 1) - 1 : Int)).toNat)).foldl (fun (s27 : (List (Int × Int × Int))) (one : Int) => (s27 ++ ((((rng 0 ((((((1 + r4) * (1 + r26)) + 1) + 1) : Int)).toNat)).filter (fun gap : Int => decide (((one * (2 + r3)) + (gap * ((2 + r3) - 1))) = (((1 + r4) * (1 + r26)) + 1)))).map (fun gap : Int => (one, gap, (2 + r3)))))) ([] : (List (Int × Int × Int))))).map (fun y : (Int × Int × Int) => PyData.tuple [PyData.int ((y).1), PyData.int ((y).2.1), PyData.int ((y).2.2)]))), .any, .imm (PyData.int (r38)), .imm (PyData.int (r43)), .imm (PyData.int ((2 + r44))), .imm (PyData.tuple (((((rng 0 ((((2 + r44) - 1) : Int)).toNat)).foldl (fun (s45 : (List Int)) (k' : Int) => ((s45 ++ (List.replicate (r43).toNat ([0] : (List Int))).flatten) ++ (law_row (1 + r1) r2 (2 + r3)))) (law_row (1 + r1) r2 (2 + r3)))).map PyData.int)), .imm (PyData.int (k')), .any, .any, .any, .any, .any, .imm (PyData.int ((1 + r1))), .imm (PyData.int (r2)), .imm (PyData.int ((2 + r3)))] _ _
        refine ev_callS F_law_draw (globOk (by kernel_rfl)) (Nat.le_of_ble_eq_true rfl) rfl (i := 1) (nameOk (by kernel_rfl)) rfl ?_
        refine eva_cons ?_
        refine ev_int ?_
        refine eva_nil ?_
        refine ⟨rfl, 2, rfl, (by walk_at "side"), (by walk_at "log"), fun r57 r57a r57b => ?_⟩
        exact ⟨r57, by omega, rfl⟩
      refine ⟨rfl, ?_⟩
      exact ⟨zs58, by simp only [rng_len] at *; omega, rfl⟩
  obtain ⟨z60, z60h, rfl⟩ := hd61
  show Sts _ [.any, .st ns, .imm (PyData.tuple [PyData.int ((1 + r1)), PyData.int (r2), PyData.int ((2 + r3))]), .imm (PyData.int ((1 + r4))), .imm (PyData.int (r5)), .imm (PyData.tuple (((law_row (1 + r1) r2 (2 + r3))).map PyData.int)), .imm (PyData.list ((((((rng 0 (((1 + r4) : Int)).toNat)).filter (fun place : Int => decide ((law_end (1 + r1) r2 (2 + r3) (1 + r4) place) = 0))).map (fun place : Int => place))).map PyData.int)), .imm (PyData.list ((((((rng 0 ((((1 + r4) + 1) : Int)).toNat)).filter (fun k' : Int => decide ((law_end (1 + r1) k' (2 + r3) (1 + r4) r5) = 0))).map (fun k' : Int => k'))).map PyData.int)), .imm (PyData.int ((1 + r26))), .imm (PyData.int ((((1 + r4) * (1 + r26)) + 1))), .imm (PyData.list (((((rng 1 ((((((1 + r4) * (1 + r26)) + 1) + 1) - 1 : Int)).toNat)).foldl (fun (s27 : (List (Int × Int × Int))) (one : Int) => (s27 ++ ((((rng 0 ((((((1 + r4) * (1 + r26)) + 1) + 1) : Int)).toNat)).filter (fun gap : Int => decide (((one * (2 + r3)) + (gap * ((2 + r3) - 1))) = (((1 + r4) * (1 + r26)) + 1)))).map (fun gap : Int => (one, gap, (2 + r3)))))) ([] : (List (Int × Int × Int))))).map (fun y : (Int × Int × Int) => PyData.tuple [PyData.int ((y).1), PyData.int ((y).2.1), PyData.int ((y).2.2)]))), .any, .imm (PyData.int (r38)), .imm (PyData.int (r43)), .imm (PyData.int ((2 + r44))), .imm (PyData.tuple (((((rng 0 ((((2 + r44) - 1) : Int)).toNat)).foldl (fun (s45 : (List Int)) (k' : Int) => ((s45 ++ (List.replicate (r43).toNat ([0] : (List Int))).flatten) ++ (law_row (1 + r1) r2 (2 + r3)))) (law_row (1 + r1) r2 (2 + r3)))).map PyData.int)), .any, .imm (PyData.tuple ((z60).map PyData.int)), .any, .any, .any, .any, .imm (PyData.int ((1 + r1))), .imm (PyData.int (r2)), .imm (PyData.int ((2 + r3)))] _ _
  refine sts_drop (B := b_law) (k := 27) (Nat.le_of_ble_eq_true rfl) ?_
  refine sts_cons (st_set (i := 7) (storeOk (by kernel_rfl) (.inl rfl)) (Nat.le_of_ble_eq_true rfl) ?_)
  refine ev_ofL (evl_lst ?_)
  refine eva_nil ?_
  refine ⟨szOk (show 0 ≤ 1000000 by omega), ?_⟩
  show Sts _ [.any, .st ns, .imm (PyData.tuple [PyData.int ((1 + r1)), PyData.int (r2), PyData.int ((2 + r3))]), .imm (PyData.int ((1 + r4))), .imm (PyData.int (r5)), .imm (PyData.tuple (((law_row (1 + r1) r2 (2 + r3))).map PyData.int)), .imm (PyData.list ((((((rng 0 (((1 + r4) : Int)).toNat)).filter (fun place : Int => decide ((law_end (1 + r1) r2 (2 + r3) (1 + r4) place) = 0))).map (fun place : Int => place))).map PyData.int)), .imm (PyData.list ((([] : (List (Int × Int × Int)))).map (fun y : (Int × Int × Int) => PyData.tuple [PyData.int ((y).1), PyData.int ((y).2.1), PyData.int ((y).2.2)]))), .imm (PyData.int ((1 + r26))), .imm (PyData.int ((((1 + r4) * (1 + r26)) + 1))), .imm (PyData.list (((((rng 1 ((((((1 + r4) * (1 + r26)) + 1) + 1) - 1 : Int)).toNat)).foldl (fun (s27 : (List (Int × Int × Int))) (one : Int) => (s27 ++ ((((rng 0 ((((((1 + r4) * (1 + r26)) + 1) + 1) : Int)).toNat)).filter (fun gap : Int => decide (((one * (2 + r3)) + (gap * ((2 + r3) - 1))) = (((1 + r4) * (1 + r26)) + 1)))).map (fun gap : Int => (one, gap, (2 + r3)))))) ([] : (List (Int × Int × Int))))).map (fun y : (Int × Int × Int) => PyData.tuple [PyData.int ((y).1), PyData.int ((y).2.1), PyData.int ((y).2.2)]))), .any, .imm (PyData.int (r38)), .imm (PyData.int (r43)), .imm (PyData.int ((2 + r44))), .imm (PyData.tuple (((((rng 0 ((((2 + r44) - 1) : Int)).toNat)).foldl (fun (s45 : (List Int)) (k' : Int) => ((s45 ++ (List.replicate (r43).toNat ([0] : (List Int))).flatten) ++ (law_row (1 + r1) r2 (2 + r3)))) (law_row (1 + r1) r2 (2 + r3)))).map PyData.int)), .any, .imm (PyData.tuple ((z60).map PyData.int)), .any, .any, .any, .any, .imm (PyData.int ((1 + r1))), .imm (PyData.int (r2)), .imm (PyData.int ((2 + r3)))] _ _
  refine sts_drop (B := b_law) (k := 28) (Nat.le_of_ble_eq_true rfl) ?_
  refine sts_cons (st_forD (α := Int) (β := (List (Int × Int × Int))) rfl ?_)
  refine eit_range2 (globOk (by kernel_rfl)) T.z_range ?_
  refine Ev.o (ev_int ?_)
  refine ⟨1, rfl, (by walk_at "side"), (by walk_at "side"), ?_⟩
  refine Ev.o (ev_add ?_)
  refine Ev.o (ev_lenT PyData.int (globOk (by kernel_rfl)) T.z_len ?_)
  refine Ev.o (ev_var (i := 17) (nameOk (by kernel_rfl)) rfl ?_)
  refine ⟨z60, rfl, ?_⟩
  refine ⟨((z60).length : Int), rfl, ?_⟩
  refine Ev.o (ev_int ?_)
  refine ⟨1, rfl, ?_⟩
  refine ⟨(((z60).length : Int) + 1), rfl, (by walk_at "side"), (by walk_at "side"), ?_⟩
  refine ⟨(rng 1 (((((z60).length : Int) + 1) - 1 : Int)).toNat), PyData.int, rfl, (fun s62 : (List (Int × Int × Int)) => [.any, .st ns, .imm (PyData.tuple [PyData.int ((1 + r1)), PyData.int (r2), PyData.int ((2 + r3))]), .imm (PyData.int ((1 + r4))), .imm (PyData.int (r5)), .imm (PyData.tuple (((law_row (1 + r1) r2 (2 + r3))).map PyData.int)), .imm (PyData.list ((((((rng 0 (((1 + r4) : Int)).toNat)).filter (fun place : Int => decide ((law_end (1 + r1) r2 (2 + r3) (1 + r4) place) = 0))).map (fun place : Int => place))).map PyData.int)), .imm (PyData.list ((s62).map (fun y : (Int × Int × Int) => PyData.tuple [PyData.int ((y).1), PyData.int ((y).2.1), PyData.int ((y).2.2)]))), .imm (PyData.int ((1 + r26))), .imm (PyData.int ((((1 + r4) * (1 + r26)) + 1))), .imm (PyData.list (((((rng 1 ((((((1 + r4) * (1 + r26)) + 1) + 1) - 1 : Int)).toNat)).foldl (fun (s27 : (List (Int × Int × Int))) (one : Int) => (s27 ++ ((((rng 0 ((((((1 + r4) * (1 + r26)) + 1) + 1) : Int)).toNat)).filter (fun gap : Int => decide (((one * (2 + r3)) + (gap * ((2 + r3) - 1))) = (((1 + r4) * (1 + r26)) + 1)))).map (fun gap : Int => (one, gap, (2 + r3)))))) ([] : (List (Int × Int × Int))))).map (fun y : (Int × Int × Int) => PyData.tuple [PyData.int ((y).1), PyData.int ((y).2.1), PyData.int ((y).2.2)]))), .any, .imm (PyData.int (r38)), .imm (PyData.int (r43)), .imm (PyData.int ((2 + r44))), .imm (PyData.tuple (((((rng 0 ((((2 + r44) - 1) : Int)).toNat)).foldl (fun (s45 : (List Int)) (k' : Int) => ((s45 ++ (List.replicate (r43).toNat ([0] : (List Int))).flatten) ++ (law_row (1 + r1) r2 (2 + r3)))) (law_row (1 + r1) r2 (2 + r3)))).map PyData.int)), .any, .imm (PyData.tuple ((z60).map PyData.int)), .any, .any, .any, .any, .imm (PyData.int ((1 + r1))), .imm (PyData.int (r2)), .imm (PyData.int ((2 + r3)))]), (fun (i : Nat) (s62 : (List (Int × Int × Int))) => (s62).length ≤ i * 150), (fun (s62 : (List (Int × Int × Int))) (one : Int) => (s62 ++ ((((rng 0 ((((z60).length : Int) : Int)).toNat)).filter (fun k' : Int => decide ((law_row one k' (2 + r3)) = z60))).map (fun k' : Int => (one, k', (2 + r3)))))), ([] : (List (Int × Int × Int))), ⟨.inl rfl, ⟨.inl rfl, ⟨.inl rfl, ⟨.inl rfl, ⟨.inl rfl, ⟨.inl rfl, ⟨.inl rfl, ⟨.inl rfl, ⟨.inl rfl, ⟨.inl rfl, ⟨.inl rfl, ⟨.inl rfl, ⟨.inl rfl, ⟨.inl rfl, ⟨.inl rfl, ⟨.inl rfl, ⟨.inl rfl, ⟨.inl rfl, ⟨.inl rfl, ⟨.inl rfl, ⟨.inl rfl, ⟨.inl rfl, ⟨.inl rfl, ⟨.inl rfl, ⟨.inl rfl, trivial⟩⟩⟩⟩⟩⟩⟩⟩⟩⟩⟩⟩⟩⟩⟩⟩⟩⟩⟩⟩⟩⟩⟩⟩⟩, (by walk_at "inv"), ?_, fun hf69 => ?_⟩
  · intro i63 one s62 hx64 hi65
    have hi65 : (s62).length ≤ i63 * 150 := hi65
    have hx64m := List.mem_of_getElem? hx64
    have hx64b := rng_get hx64
    refine ⟨[11], ?_⟩
    refine evg_name (i := 11) (storeOk (by kernel_rfl) (.inl rfl)) (by simp) (Nat.le_of_ble_eq_true rfl) ?_
    show Sts _ [.any, .st ns, .imm (PyData.tuple [PyData.int ((1 + r1)), PyData.int (r2), PyData.int ((2 + r3))]), .imm (PyData.int ((1 + r4))), .imm (PyData.int (r5)), .imm (PyData.tuple (((law_row (1 + r1) r2 (2 + r3))).map PyData.int)), .imm (PyData.list ((((((rng 0 (((1 + r4) : Int)).toNat)).filter (fun place : Int => decide ((law_end (1 + r1) r2 (2 + r3) (1 + r4) place) = 0))).map (fun place : Int => place))).map PyData.int)), .imm (PyData.list ((s62).map (fun y : (Int × Int × Int) => PyData.tuple [PyData.int ((y).1), PyData.int ((y).2.1), PyData.int ((y).2.2)]))), .imm (PyData.int ((1 + r26))), .imm (PyData.int ((((1 + r4) * (1 + r26)) + 1))), .imm (PyData.list (((((rng 1 ((((((1 + r4) * (1 + r26)) + 1) + 1) - 1 : Int)).toNat)).foldl (fun (s27 : (List (Int × Int × Int))) (one : Int) => (s27 ++ ((((rng 0 ((((((1 + r4) * (1 + r26)) + 1) + 1) : Int)).toNat)).filter (fun gap : Int => decide (((one * (2 + r3)) + (gap * ((2 + r3) - 1))) = (((1 + r4) * (1 + r26)) + 1)))).map (fun gap : Int => (one, gap, (2 + r3)))))) ([] : (List (Int × Int × Int))))).map (fun y : (Int × Int × Int) => PyData.tuple [PyData.int ((y).1), PyData.int ((y).2.1), PyData.int ((y).2.2)]))), .imm (PyData.int (one)), .imm (PyData.int (r38)), .imm (PyData.int (r43)), .imm (PyData.int ((2 + r44))), .imm (PyData.tuple (((((rng 0 ((((2 + r44) - 1) : Int)).toNat)).foldl (fun (s45 : (List Int)) (k' : Int) => ((s45 ++ (List.replicate (r43).toNat ([0] : (List Int))).flatten) ++ (law_row (1 + r1) r2 (2 + r3)))) (law_row (1 + r1) r2 (2 + r3)))).map PyData.int)), .any, .imm (PyData.tuple ((z60).map PyData.int)), .any, .any, .any, .any, .imm (PyData.int ((1 + r1))), .imm (PyData.int (r2)), .imm (PyData.int ((2 + r3)))] _ _
    refine sts_cons (st_set (i := 7) (storeOk (by kernel_rfl) (.inl rfl)) (Nat.le_of_ble_eq_true rfl) ?_)
    refine ev_ofL (evl_catT (fun y : (Int × Int × Int) => PyData.tuple [PyData.int ((y).1), PyData.int ((y).2.1), PyData.int ((y).2.2)]) ?_)
    refine Ev.o (ev_var (i := 7) (nameOk (by kernel_rfl)) rfl ?_)
    refine ⟨s62, rfl, ?_⟩
    refine Ev.o (ev_ofL (EvLc.l rfl (blkOk (by kernel_rfl)) (evl_lcT (α := Int) (β := (Int × Int × Int)) [("k", 16)] PyData.int (fun y : (Int × Int × Int) => PyData.tuple [PyData.int ((y).1), PyData.int ((y).2.1), PyData.int ((y).2.2)]) (free_of rfl) ?_)))
    refine EvIt.o (eit_range1 (globOk (by kernel_rfl)) T.z_range ?_)
    refine Ev.o (ev_lenT PyData.int (globOk (by kernel_rfl)) T.z_len ?_)
    refine Ev.o (ev_var (i := 17) (nameOk (by kernel_rfl)) rfl ?_)
    refine ⟨z60, rfl, ?_⟩
    refine ⟨((z60).length : Int), rfl, (by walk_at "side"), (by walk_at "side"), ?_⟩
    refine ⟨(rng 0 ((((z60).length : Int) : Int)).toNat), rfl, (by walk_at "size"), (fun k' : Int => decide ((law_row one k' (2 + r3)) = z60)), (fun k' : Int => (one, k', (2 + r3))), ?_, ?_⟩
    · intro k' hx67
      have hx67b := mem_rng hx67
      refine evg_name (i := 16) (storeOk (by kernel_rfl) (.inr (by kernel_rfl))) (by simp) (Nat.le_of_ble_eq_true rfl) ?_
      show EvTs _ [.any, .st ns, .imm (PyData.tuple [PyData.int ((1 + r1)), PyData.int (r2), PyData.int ((2 + r3))]), .imm (PyData.int ((1 + r4))), .imm (PyData.int (r5)), .imm (PyData.tuple (((law_row (1 + r1) r2 (2 + r3))).map PyData.int)), .imm (PyData.list ((((((rng 0 (((1 + r4) : Int)).toNat)).filter (fun place : Int => decide ((law_end (1 + r1) r2 (2 + r3) (1 + r4) place) = 0))).map (fun place : Int => place))).map PyData.int)), .imm (PyData.list ((s62).map (fun y : (Int × Int × Int) => PyData.tuple [PyData.int ((y).1), PyData.int ((y).2.1), PyData.int ((y).2.2)]))), .imm (PyData.int ((1 + r26))), .imm (PyData.int ((((1 + r4) * (1 + r26)) + 1))), .imm (PyData.list (((((rng 1 ((((((1 + r4) * (1 + r26)) + 1) + 1) - 1 : Int)).toNat)).foldl (fun (s27 : (List (Int × Int × Int))) (one : Int) => (s27 ++ ((((rng 0 ((((((1 + r4) * (1 + r26)) + 1) + 1) : Int)).toNat)).filter (fun gap : Int => decide (((one * (2 + r3)) + (gap * ((2 + r3) - 1))) = (((1 + r4) * (1 + r26)) + 1)))).map (fun gap : Int => (one, gap, (2 + r3)))))) ([] : (List (Int × Int × Int))))).map (fun y : (Int × Int × Int) => PyData.tuple [PyData.int ((y).1), PyData.int ((y).2.1), PyData.int ((y).2.2)]))), .imm (PyData.int (one)), .imm (PyData.int (r38)), .imm (PyData.int (r43)), .imm (PyData.int ((2 + r44))), .imm (PyData.tuple (((((rng 0 ((((2 + r44) - 1) : Int)).toNat)).foldl (fun (s45 : (List Int)) (k' : Int) => ((s45 ++ (List.replicate (r43).toNat ([0] : (List Int))).flatten) ++ (law_row (1 + r1) r2 (2 + r3)))) (law_row (1 + r1) r2 (2 + r3)))).map PyData.int)), .imm (PyData.int (k')), .imm (PyData.tuple ((z60).map PyData.int)), .any, .any, .any, .any, .imm (PyData.int ((1 + r1))), .imm (PyData.int (r2)), .imm (PyData.int ((2 + r3)))] _ _
      refine evts_one ?_
      refine CmpK.t (kEq rfl) ?_ rfl
      refine Ev.o (ev_call F_law_row (globOk (by kernel_rfl)) (Nat.le_of_ble_eq_true rfl) rfl ?_)
      refine eva_cons ?_
      refine ev_var (i := 11) (nameOk (by kernel_rfl)) rfl ?_
      refine eva_cons ?_
      refine ev_var (i := 16) (nameOk (by kernel_rfl)) rfl ?_
      refine eva_cons ?_
      refine ev_var (i := 24) (nameOk (by kernel_rfl)) rfl ?_
      refine eva_nil ?_
      refine ⟨rfl, one, k', (2 + r3), rfl, (by walk_at "pre"), ?_⟩
      refine Ev.o (ev_var (i := 17) (nameOk (by kernel_rfl)) rfl ?_)
      refine ⟨decide ((law_row one k' (2 + r3)) = z60), cdEq (cd_vtup cd_int).o (by decide) (law_row one k' (2 + r3)) z60, ?_⟩
      refine ⟨rfl, fun (hc68 : (decide ((law_row one k' (2 + r3)) = z60)) = true) => ?_⟩
      refine ev_tup ?_
      refine eva_cons ?_
      refine ev_var (i := 11) (nameOk (by kernel_rfl)) rfl ?_
      refine eva_cons ?_
      refine ev_var (i := 16) (nameOk (by kernel_rfl)) rfl ?_
      refine eva_cons ?_
      refine ev_var (i := 24) (nameOk (by kernel_rfl)) rfl ?_
      refine eva_nil ?_
      refine ⟨szOk (show 3 ≤ 1000000 by omega), ?_⟩
      rfl
    refine ⟨((((rng 0 ((((z60).length : Int) : Int)).toNat)).filter (fun k' : Int => decide ((law_row one k' (2 + r3)) = z60))).map (fun k' : Int => (one, k', (2 + r3)))), rfl, (by rw [sizeLine_eq]; have hq := filt_len 0 ((z60.length : Int)).toNat (fun k' => decide (law_row one k' (2 + r3) = z60)) (fun k' => (one, k', 2 + r3)); omega), ?_⟩
    show Sts _ [.any, .st ns, .imm (PyData.tuple [PyData.int ((1 + r1)), PyData.int (r2), PyData.int ((2 + r3))]), .imm (PyData.int ((1 + r4))), .imm (PyData.int (r5)), .imm (PyData.tuple (((law_row (1 + r1) r2 (2 + r3))).map PyData.int)), .imm (PyData.list ((((((rng 0 (((1 + r4) : Int)).toNat)).filter (fun place : Int => decide ((law_end (1 + r1) r2 (2 + r3) (1 + r4) place) = 0))).map (fun place : Int => place))).map PyData.int)), .imm (PyData.list (((s62 ++ ((((rng 0 ((((z60).length : Int) : Int)).toNat)).filter (fun k' : Int => decide ((law_row one k' (2 + r3)) = z60))).map (fun k' : Int => (one, k', (2 + r3)))))).map (fun y : (Int × Int × Int) => PyData.tuple [PyData.int ((y).1), PyData.int ((y).2.1), PyData.int ((y).2.2)]))), .imm (PyData.int ((1 + r26))), .imm (PyData.int ((((1 + r4) * (1 + r26)) + 1))), .imm (PyData.list (((((rng 1 ((((((1 + r4) * (1 + r26)) + 1) + 1) - 1 : Int)).toNat)).foldl (fun (s27 : (List (Int × Int × Int))) (one : Int) => (s27 ++ ((((rng 0 ((((((1 + r4) * (1 + r26)) + 1) + 1) : Int)).toNat)).filter (fun gap : Int => decide (((one * (2 + r3)) + (gap * ((2 + r3) - 1))) = (((1 + r4) * (1 + r26)) + 1)))).map (fun gap : Int => (one, gap, (2 + r3)))))) ([] : (List (Int × Int × Int))))).map (fun y : (Int × Int × Int) => PyData.tuple [PyData.int ((y).1), PyData.int ((y).2.1), PyData.int ((y).2.2)]))), .imm (PyData.int (one)), .imm (PyData.int (r38)), .imm (PyData.int (r43)), .imm (PyData.int ((2 + r44))), .imm (PyData.tuple (((((rng 0 ((((2 + r44) - 1) : Int)).toNat)).foldl (fun (s45 : (List Int)) (k' : Int) => ((s45 ++ (List.replicate (r43).toNat ([0] : (List Int))).flatten) ++ (law_row (1 + r1) r2 (2 + r3)))) (law_row (1 + r1) r2 (2 + r3)))).map PyData.int)), .any, .imm (PyData.tuple ((z60).map PyData.int)), .any, .any, .any, .any, .imm (PyData.int ((1 + r1))), .imm (PyData.int (r2)), .imm (PyData.int ((2 + r3)))] _ _
    refine sts_nil ?_
    show Weak [.any, .st ns, .imm (PyData.tuple [PyData.int ((1 + r1)), PyData.int (r2), PyData.int ((2 + r3))]), .imm (PyData.int ((1 + r4))), .imm (PyData.int (r5)), .imm (PyData.tuple (((law_row (1 + r1) r2 (2 + r3))).map PyData.int)), .imm (PyData.list ((((((rng 0 (((1 + r4) : Int)).toNat)).filter (fun place : Int => decide ((law_end (1 + r1) r2 (2 + r3) (1 + r4) place) = 0))).map (fun place : Int => place))).map PyData.int)), .imm (PyData.list (((s62 ++ ((((rng 0 ((((z60).length : Int) : Int)).toNat)).filter (fun k' : Int => decide ((law_row one k' (2 + r3)) = z60))).map (fun k' : Int => (one, k', (2 + r3)))))).map (fun y : (Int × Int × Int) => PyData.tuple [PyData.int ((y).1), PyData.int ((y).2.1), PyData.int ((y).2.2)]))), .imm (PyData.int ((1 + r26))), .imm (PyData.int ((((1 + r4) * (1 + r26)) + 1))), .imm (PyData.list (((((rng 1 ((((((1 + r4) * (1 + r26)) + 1) + 1) - 1 : Int)).toNat)).foldl (fun (s27 : (List (Int × Int × Int))) (one : Int) => (s27 ++ ((((rng 0 ((((((1 + r4) * (1 + r26)) + 1) + 1) : Int)).toNat)).filter (fun gap : Int => decide (((one * (2 + r3)) + (gap * ((2 + r3) - 1))) = (((1 + r4) * (1 + r26)) + 1)))).map (fun gap : Int => (one, gap, (2 + r3)))))) ([] : (List (Int × Int × Int))))).map (fun y : (Int × Int × Int) => PyData.tuple [PyData.int ((y).1), PyData.int ((y).2.1), PyData.int ((y).2.2)]))), .imm (PyData.int (one)), .imm (PyData.int (r38)), .imm (PyData.int (r43)), .imm (PyData.int ((2 + r44))), .imm (PyData.tuple (((((rng 0 ((((2 + r44) - 1) : Int)).toNat)).foldl (fun (s45 : (List Int)) (k' : Int) => ((s45 ++ (List.replicate (r43).toNat ([0] : (List Int))).flatten) ++ (law_row (1 + r1) r2 (2 + r3)))) (law_row (1 + r1) r2 (2 + r3)))).map PyData.int)), .any, .imm (PyData.tuple ((z60).map PyData.int)), .any, .any, .any, .any, .imm (PyData.int ((1 + r1))), .imm (PyData.int (r2)), .imm (PyData.int ((2 + r3)))] [.any, .st ns, .imm (PyData.tuple [PyData.int ((1 + r1)), PyData.int (r2), PyData.int ((2 + r3))]), .imm (PyData.int ((1 + r4))), .imm (PyData.int (r5)), .imm (PyData.tuple (((law_row (1 + r1) r2 (2 + r3))).map PyData.int)), .imm (PyData.list ((((((rng 0 (((1 + r4) : Int)).toNat)).filter (fun place : Int => decide ((law_end (1 + r1) r2 (2 + r3) (1 + r4) place) = 0))).map (fun place : Int => place))).map PyData.int)), .imm (PyData.list (((s62 ++ ((((rng 0 ((((z60).length : Int) : Int)).toNat)).filter (fun k' : Int => decide ((law_row one k' (2 + r3)) = z60))).map (fun k' : Int => (one, k', (2 + r3)))))).map (fun y : (Int × Int × Int) => PyData.tuple [PyData.int ((y).1), PyData.int ((y).2.1), PyData.int ((y).2.2)]))), .imm (PyData.int ((1 + r26))), .imm (PyData.int ((((1 + r4) * (1 + r26)) + 1))), .imm (PyData.list (((((rng 1 ((((((1 + r4) * (1 + r26)) + 1) + 1) - 1 : Int)).toNat)).foldl (fun (s27 : (List (Int × Int × Int))) (one : Int) => (s27 ++ ((((rng 0 ((((((1 + r4) * (1 + r26)) + 1) + 1) : Int)).toNat)).filter (fun gap : Int => decide (((one * (2 + r3)) + (gap * ((2 + r3) - 1))) = (((1 + r4) * (1 + r26)) + 1)))).map (fun gap : Int => (one, gap, (2 + r3)))))) ([] : (List (Int × Int × Int))))).map (fun y : (Int × Int × Int) => PyData.tuple [PyData.int ((y).1), PyData.int ((y).2.1), PyData.int ((y).2.2)]))), .any, .imm (PyData.int (r38)), .imm (PyData.int (r43)), .imm (PyData.int ((2 + r44))), .imm (PyData.tuple (((((rng 0 ((((2 + r44) - 1) : Int)).toNat)).foldl (fun (s45 : (List Int)) (k' : Int) => ((s45 ++ (List.replicate (r43).toNat ([0] : (List Int))).flatten) ++ (law_row (1 + r1) r2 (2 + r3)))) (law_row (1 + r1) r2 (2 + r3)))).map PyData.int)), .any, .imm (PyData.tuple ((z60).map PyData.int)), .any, .any, .any, .any, .imm (PyData.int ((1 + r1))), .imm (PyData.int (r2)), .imm (PyData.int ((2 + r3)))] ∧ ((s62 ++ ((((rng 0 ((((z60).length : Int) : Int)).toNat)).filter (fun k' : Int => decide ((law_row one k' (2 + r3)) = z60))).map (fun k' : Int => (one, k', (2 + r3)))))).length ≤ (i63 + 1) * 150
    exact ⟨⟨.inl rfl, ⟨.inl rfl, ⟨.inl rfl, ⟨.inl rfl, ⟨.inl rfl, ⟨.inl rfl, ⟨.inl rfl, ⟨.inl rfl, ⟨.inl rfl, ⟨.inl rfl, ⟨.inl rfl, ⟨.inr rfl, ⟨.inl rfl, ⟨.inl rfl, ⟨.inl rfl, ⟨.inl rfl, ⟨.inl rfl, ⟨.inl rfl, ⟨.inl rfl, ⟨.inl rfl, ⟨.inl rfl, ⟨.inl rfl, ⟨.inl rfl, ⟨.inl rfl, ⟨.inl rfl, trivial⟩⟩⟩⟩⟩⟩⟩⟩⟩⟩⟩⟩⟩⟩⟩⟩⟩⟩⟩⟩⟩⟩⟩⟩⟩, (by rw [List.length_append]; have hq := filt_len 0 ((z60.length : Int)).toNat (fun k' => decide (law_row one k' (2 + r3) = z60)) (fun k' => (one, k', 2 + r3)); omega)⟩
  have hf69 : ((((rng 1 (((((z60).length : Int) + 1) - 1 : Int)).toNat)).foldl (fun (s62 : (List (Int × Int × Int))) (one : Int) => (s62 ++ ((((rng 0 ((((z60).length : Int) : Int)).toNat)).filter (fun k' : Int => decide ((law_row one k' (2 + r3)) = z60))).map (fun k' : Int => (one, k', (2 + r3)))))) ([] : (List (Int × Int × Int))))).length ≤ ((rng 1 (((((z60).length : Int) + 1) - 1 : Int)).toNat)).length * 150 := hf69
  show Sts _ [.any, .st ns, .imm (PyData.tuple [PyData.int ((1 + r1)), PyData.int (r2), PyData.int ((2 + r3))]), .imm (PyData.int ((1 + r4))), .imm (PyData.int (r5)), .imm (PyData.tuple (((law_row (1 + r1) r2 (2 + r3))).map PyData.int)), .imm (PyData.list ((((((rng 0 (((1 + r4) : Int)).toNat)).filter (fun place : Int => decide ((law_end (1 + r1) r2 (2 + r3) (1 + r4) place) = 0))).map (fun place : Int => place))).map PyData.int)), .imm (PyData.list (((((rng 1 (((((z60).length : Int) + 1) - 1 : Int)).toNat)).foldl (fun (s62 : (List (Int × Int × Int))) (one : Int) => (s62 ++ ((((rng 0 ((((z60).length : Int) : Int)).toNat)).filter (fun k' : Int => decide ((law_row one k' (2 + r3)) = z60))).map (fun k' : Int => (one, k', (2 + r3)))))) ([] : (List (Int × Int × Int))))).map (fun y : (Int × Int × Int) => PyData.tuple [PyData.int ((y).1), PyData.int ((y).2.1), PyData.int ((y).2.2)]))), .imm (PyData.int ((1 + r26))), .imm (PyData.int ((((1 + r4) * (1 + r26)) + 1))), .imm (PyData.list (((((rng 1 ((((((1 + r4) * (1 + r26)) + 1) + 1) - 1 : Int)).toNat)).foldl (fun (s27 : (List (Int × Int × Int))) (one : Int) => (s27 ++ ((((rng 0 ((((((1 + r4) * (1 + r26)) + 1) + 1) : Int)).toNat)).filter (fun gap : Int => decide (((one * (2 + r3)) + (gap * ((2 + r3) - 1))) = (((1 + r4) * (1 + r26)) + 1)))).map (fun gap : Int => (one, gap, (2 + r3)))))) ([] : (List (Int × Int × Int))))).map (fun y : (Int × Int × Int) => PyData.tuple [PyData.int ((y).1), PyData.int ((y).2.1), PyData.int ((y).2.2)]))), .any, .imm (PyData.int (r38)), .imm (PyData.int (r43)), .imm (PyData.int ((2 + r44))), .imm (PyData.tuple (((((rng 0 ((((2 + r44) - 1) : Int)).toNat)).foldl (fun (s45 : (List Int)) (k' : Int) => ((s45 ++ (List.replicate (r43).toNat ([0] : (List Int))).flatten) ++ (law_row (1 + r1) r2 (2 + r3)))) (law_row (1 + r1) r2 (2 + r3)))).map PyData.int)), .any, .imm (PyData.tuple ((z60).map PyData.int)), .any, .any, .any, .any, .imm (PyData.int ((1 + r1))), .imm (PyData.int (r2)), .imm (PyData.int ((2 + r3)))] _ _
  refine sts_drop (B := b_law) (k := 29) (Nat.le_of_ble_eq_true rfl) ?_
  refine sts_cons (st_if ?_)
  refine CmpK.t (kNe rfl) ?_ rfl
  refine Ev.o (ev_call F_plan_of (globOk (by kernel_rfl)) (Nat.le_of_ble_eq_true rfl) rfl ?_)
  refine eva_cons ?_
  refine ev_var (i := 17) (nameOk (by kernel_rfl)) rfl ?_
  refine eva_cons ?_
  refine ev_var (i := 24) (nameOk (by kernel_rfl)) rfl ?_
  refine eva_nil ?_
  refine ⟨rfl, z60, (2 + r3), rfl, (by walk_at "pre"), ?_⟩
  refine Ev.o (ev_headOr (fun y : (Int × Int × Int) => PyData.tuple [PyData.int ((y).1), PyData.int ((y).2.1), PyData.int ((y).2.2)]) ?_)
  refine Ev.o (ev_var (i := 7) (nameOk (by kernel_rfl)) rfl ?_)
  refine ⟨(((rng 1 (((((z60).length : Int) + 1) - 1 : Int)).toNat)).foldl (fun (s62 : (List (Int × Int × Int))) (one : Int) => (s62 ++ ((((rng 0 ((((z60).length : Int) : Int)).toNat)).filter (fun k' : Int => decide ((law_row one k' (2 + r3)) = z60))).map (fun k' : Int => (one, k', (2 + r3)))))) ([] : (List (Int × Int × Int)))), rfl, (by exact Nat.le_trans (hits_len _ _ 150 fun x => Nat.le_trans (filt_len _ _ _ _) (by omega)) (by omega)), ?_⟩
  refine Ev.o (ev_int ?_)
  refine ⟨rfl, ?_⟩
  refine ⟨(!decide ((plan_of z60 (2 + r3)) = ((((rng 1 (((((z60).length : Int) + 1) - 1 : Int)).toNat)).foldl (fun (s62 : (List (Int × Int × Int))) (one : Int) => (s62 ++ ((((rng 0 ((((z60).length : Int) : Int)).toNat)).filter (fun k' : Int => decide ((law_row one k' (2 + r3)) = z60))).map (fun k' : Int => (one, k', (2 + r3)))))) ([] : (List (Int × Int × Int))))).head?)), cdNe (cd_opt (cd_t3 cd_int cd_int cd_int)) (by decide) (plan_of z60 (2 + r3)) (((((rng 1 (((((z60).length : Int) + 1) - 1 : Int)).toNat)).foldl (fun (s62 : (List (Int × Int × Int))) (one : Int) => (s62 ++ ((((rng 0 ((((z60).length : Int) : Int)).toNat)).filter (fun k' : Int => decide ((law_row one k' (2 + r3)) = z60))).map (fun k' : Int => (one, k', (2 + r3)))))) ([] : (List (Int × Int × Int))))).head?), ?_⟩
  have c11 : ((!decide ((plan_of z60 (2 + r3)) = ((((rng 1 (((((z60).length : Int) + 1) - 1 : Int)).toNat)).foldl (fun (s62 : (List (Int × Int × Int))) (one : Int) => (s62 ++ ((((rng 0 ((((z60).length : Int) : Int)).toNat)).filter (fun k' : Int => decide ((law_row one k' (2 + r3)) = z60))).map (fun k' : Int => (one, k', (2 + r3)))))) ([] : (List (Int × Int × Int))))).head?))) = false := by
    exact c11_ (by omega)
  refine ⟨fun h70 => Bool.noConfusion (h70.symm.trans c11), fun _ => ?_⟩
  refine sts_nil ?_
  show Sts _ [.any, .st ns, .imm (PyData.tuple [PyData.int ((1 + r1)), PyData.int (r2), PyData.int ((2 + r3))]), .imm (PyData.int ((1 + r4))), .imm (PyData.int (r5)), .imm (PyData.tuple (((law_row (1 + r1) r2 (2 + r3))).map PyData.int)), .imm (PyData.list ((((((rng 0 (((1 + r4) : Int)).toNat)).filter (fun place : Int => decide ((law_end (1 + r1) r2 (2 + r3) (1 + r4) place) = 0))).map (fun place : Int => place))).map PyData.int)), .imm (PyData.list (((((rng 1 (((((z60).length : Int) + 1) - 1 : Int)).toNat)).foldl (fun (s62 : (List (Int × Int × Int))) (one : Int) => (s62 ++ ((((rng 0 ((((z60).length : Int) : Int)).toNat)).filter (fun k' : Int => decide ((law_row one k' (2 + r3)) = z60))).map (fun k' : Int => (one, k', (2 + r3)))))) ([] : (List (Int × Int × Int))))).map (fun y : (Int × Int × Int) => PyData.tuple [PyData.int ((y).1), PyData.int ((y).2.1), PyData.int ((y).2.2)]))), .imm (PyData.int ((1 + r26))), .imm (PyData.int ((((1 + r4) * (1 + r26)) + 1))), .imm (PyData.list (((((rng 1 ((((((1 + r4) * (1 + r26)) + 1) + 1) - 1 : Int)).toNat)).foldl (fun (s27 : (List (Int × Int × Int))) (one : Int) => (s27 ++ ((((rng 0 ((((((1 + r4) * (1 + r26)) + 1) + 1) : Int)).toNat)).filter (fun gap : Int => decide (((one * (2 + r3)) + (gap * ((2 + r3) - 1))) = (((1 + r4) * (1 + r26)) + 1)))).map (fun gap : Int => (one, gap, (2 + r3)))))) ([] : (List (Int × Int × Int))))).map (fun y : (Int × Int × Int) => PyData.tuple [PyData.int ((y).1), PyData.int ((y).2.1), PyData.int ((y).2.2)]))), .any, .imm (PyData.int (r38)), .imm (PyData.int (r43)), .imm (PyData.int ((2 + r44))), .imm (PyData.tuple (((((rng 0 ((((2 + r44) - 1) : Int)).toNat)).foldl (fun (s45 : (List Int)) (k' : Int) => ((s45 ++ (List.replicate (r43).toNat ([0] : (List Int))).flatten) ++ (law_row (1 + r1) r2 (2 + r3)))) (law_row (1 + r1) r2 (2 + r3)))).map PyData.int)), .any, .imm (PyData.tuple ((z60).map PyData.int)), .any, .any, .any, .any, .imm (PyData.int ((1 + r1))), .imm (PyData.int (r2)), .imm (PyData.int ((2 + r3)))] _ _
  refine sts_drop (B := b_law) (k := 30) (Nat.le_of_ble_eq_true rfl) ?_
  refine sts_cons (st_set (i := 18) (storeOk (by kernel_rfl) (.inl rfl)) (Nat.le_of_ble_eq_true rfl) ?_)
  refine ev_add ?_
  refine Ev.o (ev_int ?_)
  refine ⟨1, rfl, ?_⟩
  refine Ev.o (ev_callS F_law_draw (globOk (by kernel_rfl)) (Nat.le_of_ble_eq_true rfl) rfl (i := 1) (nameOk (by kernel_rfl)) rfl ?_)
  refine eva_cons ?_
  refine ev_int ?_
  refine eva_nil ?_
  refine ⟨rfl, 4, rfl, (by walk_at "side"), (by walk_at "log"), fun r71 r71a r71b => ?_⟩
  refine ⟨r71, rfl, ?_⟩
  show Sts _ [.any, .st ns, .imm (PyData.tuple [PyData.int ((1 + r1)), PyData.int (r2), PyData.int ((2 + r3))]), .imm (PyData.int ((1 + r4))), .imm (PyData.int (r5)), .imm (PyData.tuple (((law_row (1 + r1) r2 (2 + r3))).map PyData.int)), .imm (PyData.list ((((((rng 0 (((1 + r4) : Int)).toNat)).filter (fun place : Int => decide ((law_end (1 + r1) r2 (2 + r3) (1 + r4) place) = 0))).map (fun place : Int => place))).map PyData.int)), .imm (PyData.list (((((rng 1 (((((z60).length : Int) + 1) - 1 : Int)).toNat)).foldl (fun (s62 : (List (Int × Int × Int))) (one : Int) => (s62 ++ ((((rng 0 ((((z60).length : Int) : Int)).toNat)).filter (fun k' : Int => decide ((law_row one k' (2 + r3)) = z60))).map (fun k' : Int => (one, k', (2 + r3)))))) ([] : (List (Int × Int × Int))))).map (fun y : (Int × Int × Int) => PyData.tuple [PyData.int ((y).1), PyData.int ((y).2.1), PyData.int ((y).2.2)]))), .imm (PyData.int ((1 + r26))), .imm (PyData.int ((((1 + r4) * (1 + r26)) + 1))), .imm (PyData.list (((((rng 1 ((((((1 + r4) * (1 + r26)) + 1) + 1) - 1 : Int)).toNat)).foldl (fun (s27 : (List (Int × Int × Int))) (one : Int) => (s27 ++ ((((rng 0 ((((((1 + r4) * (1 + r26)) + 1) + 1) : Int)).toNat)).filter (fun gap : Int => decide (((one * (2 + r3)) + (gap * ((2 + r3) - 1))) = (((1 + r4) * (1 + r26)) + 1)))).map (fun gap : Int => (one, gap, (2 + r3)))))) ([] : (List (Int × Int × Int))))).map (fun y : (Int × Int × Int) => PyData.tuple [PyData.int ((y).1), PyData.int ((y).2.1), PyData.int ((y).2.2)]))), .any, .imm (PyData.int (r38)), .imm (PyData.int (r43)), .imm (PyData.int ((2 + r44))), .imm (PyData.tuple (((((rng 0 ((((2 + r44) - 1) : Int)).toNat)).foldl (fun (s45 : (List Int)) (k' : Int) => ((s45 ++ (List.replicate (r43).toNat ([0] : (List Int))).flatten) ++ (law_row (1 + r1) r2 (2 + r3)))) (law_row (1 + r1) r2 (2 + r3)))).map PyData.int)), .any, .imm (PyData.tuple ((z60).map PyData.int)), .imm (PyData.int ((1 + r71))), .any, .any, .any, .imm (PyData.int ((1 + r1))), .imm (PyData.int (r2)), .imm (PyData.int ((2 + r3)))] _ _
  refine sts_drop (B := b_law) (k := 31) (Nat.le_of_ble_eq_true rfl) ?_
  refine sts_cons (st_setL (i := 19) (storeOk (by kernel_rfl) (.inl rfl)) (Nat.le_of_ble_eq_true rfl) ?_)
  refine evl_lst ?_
  refine eva_nil ?_
  refine ⟨szOk (show 0 ≤ 1000000 by omega), ?_⟩
  show Sts _ [.any, .st ns, .imm (PyData.tuple [PyData.int ((1 + r1)), PyData.int (r2), PyData.int ((2 + r3))]), .imm (PyData.int ((1 + r4))), .imm (PyData.int (r5)), .imm (PyData.tuple (((law_row (1 + r1) r2 (2 + r3))).map PyData.int)), .imm (PyData.list ((((((rng 0 (((1 + r4) : Int)).toNat)).filter (fun place : Int => decide ((law_end (1 + r1) r2 (2 + r3) (1 + r4) place) = 0))).map (fun place : Int => place))).map PyData.int)), .imm (PyData.list (((((rng 1 (((((z60).length : Int) + 1) - 1 : Int)).toNat)).foldl (fun (s62 : (List (Int × Int × Int))) (one : Int) => (s62 ++ ((((rng 0 ((((z60).length : Int) : Int)).toNat)).filter (fun k' : Int => decide ((law_row one k' (2 + r3)) = z60))).map (fun k' : Int => (one, k', (2 + r3)))))) ([] : (List (Int × Int × Int))))).map (fun y : (Int × Int × Int) => PyData.tuple [PyData.int ((y).1), PyData.int ((y).2.1), PyData.int ((y).2.2)]))), .imm (PyData.int ((1 + r26))), .imm (PyData.int ((((1 + r4) * (1 + r26)) + 1))), .imm (PyData.list (((((rng 1 ((((((1 + r4) * (1 + r26)) + 1) + 1) - 1 : Int)).toNat)).foldl (fun (s27 : (List (Int × Int × Int))) (one : Int) => (s27 ++ ((((rng 0 ((((((1 + r4) * (1 + r26)) + 1) + 1) : Int)).toNat)).filter (fun gap : Int => decide (((one * (2 + r3)) + (gap * ((2 + r3) - 1))) = (((1 + r4) * (1 + r26)) + 1)))).map (fun gap : Int => (one, gap, (2 + r3)))))) ([] : (List (Int × Int × Int))))).map (fun y : (Int × Int × Int) => PyData.tuple [PyData.int ((y).1), PyData.int ((y).2.1), PyData.int ((y).2.2)]))), .any, .imm (PyData.int (r38)), .imm (PyData.int (r43)), .imm (PyData.int ((2 + r44))), .imm (PyData.tuple (((((rng 0 ((((2 + r44) - 1) : Int)).toNat)).foldl (fun (s45 : (List Int)) (k' : Int) => ((s45 ++ (List.replicate (r43).toNat ([0] : (List Int))).flatten) ++ (law_row (1 + r1) r2 (2 + r3)))) (law_row (1 + r1) r2 (2 + r3)))).map PyData.int)), .any, .imm (PyData.tuple ((z60).map PyData.int)), .imm (PyData.int ((1 + r71))), .own ((([] : (List Int))).map PyData.int), .any, .any, .imm (PyData.int ((1 + r1))), .imm (PyData.int (r2)), .imm (PyData.int ((2 + r3)))] _ _
  refine sts_drop (B := b_law) (k := 32) (Nat.le_of_ble_eq_true rfl) ?_
  refine sts_cons (st_set (i := 20) (storeOk (by kernel_rfl) (.inl rfl)) (Nat.le_of_ble_eq_true rfl) ?_)
  refine ev_var (i := 22) (nameOk (by kernel_rfl)) rfl ?_
  show Sts _ [.any, .st ns, .imm (PyData.tuple [PyData.int ((1 + r1)), PyData.int (r2), PyData.int ((2 + r3))]), .imm (PyData.int ((1 + r4))), .imm (PyData.int (r5)), .imm (PyData.tuple (((law_row (1 + r1) r2 (2 + r3))).map PyData.int)), .imm (PyData.list ((((((rng 0 (((1 + r4) : Int)).toNat)).filter (fun place : Int => decide ((law_end (1 + r1) r2 (2 + r3) (1 + r4) place) = 0))).map (fun place : Int => place))).map PyData.int)), .imm (PyData.list (((((rng 1 (((((z60).length : Int) + 1) - 1 : Int)).toNat)).foldl (fun (s62 : (List (Int × Int × Int))) (one : Int) => (s62 ++ ((((rng 0 ((((z60).length : Int) : Int)).toNat)).filter (fun k' : Int => decide ((law_row one k' (2 + r3)) = z60))).map (fun k' : Int => (one, k', (2 + r3)))))) ([] : (List (Int × Int × Int))))).map (fun y : (Int × Int × Int) => PyData.tuple [PyData.int ((y).1), PyData.int ((y).2.1), PyData.int ((y).2.2)]))), .imm (PyData.int ((1 + r26))), .imm (PyData.int ((((1 + r4) * (1 + r26)) + 1))), .imm (PyData.list (((((rng 1 ((((((1 + r4) * (1 + r26)) + 1) + 1) - 1 : Int)).toNat)).foldl (fun (s27 : (List (Int × Int × Int))) (one : Int) => (s27 ++ ((((rng 0 ((((((1 + r4) * (1 + r26)) + 1) + 1) : Int)).toNat)).filter (fun gap : Int => decide (((one * (2 + r3)) + (gap * ((2 + r3) - 1))) = (((1 + r4) * (1 + r26)) + 1)))).map (fun gap : Int => (one, gap, (2 + r3)))))) ([] : (List (Int × Int × Int))))).map (fun y : (Int × Int × Int) => PyData.tuple [PyData.int ((y).1), PyData.int ((y).2.1), PyData.int ((y).2.2)]))), .any, .imm (PyData.int (r38)), .imm (PyData.int (r43)), .imm (PyData.int ((2 + r44))), .imm (PyData.tuple (((((rng 0 ((((2 + r44) - 1) : Int)).toNat)).foldl (fun (s45 : (List Int)) (k' : Int) => ((s45 ++ (List.replicate (r43).toNat ([0] : (List Int))).flatten) ++ (law_row (1 + r1) r2 (2 + r3)))) (law_row (1 + r1) r2 (2 + r3)))).map PyData.int)), .any, .imm (PyData.tuple ((z60).map PyData.int)), .imm (PyData.int ((1 + r71))), .own ((([] : (List Int))).map PyData.int), .imm (PyData.int ((1 + r1))), .any, .imm (PyData.int ((1 + r1))), .imm (PyData.int (r2)), .imm (PyData.int ((2 + r3)))] _ _
  refine sts_drop (B := b_law) (k := 33) (Nat.le_of_ble_eq_true rfl) ?_
  refine sts_cons (st_whileD (fun (s72 : (List Int) × Int) => [.any, .st ns, .imm (PyData.tuple [PyData.int ((1 + r1)), PyData.int (r2), PyData.int ((2 + r3))]), .imm (PyData.int ((1 + r4))), .imm (PyData.int (r5)), .imm (PyData.tuple (((law_row (1 + r1) r2 (2 + r3))).map PyData.int)), .imm (PyData.list ((((((rng 0 (((1 + r4) : Int)).toNat)).filter (fun place : Int => decide ((law_end (1 + r1) r2 (2 + r3) (1 + r4) place) = 0))).map (fun place : Int => place))).map PyData.int)), .imm (PyData.list (((((rng 1 (((((z60).length : Int) + 1) - 1 : Int)).toNat)).foldl (fun (s62 : (List (Int × Int × Int))) (one : Int) => (s62 ++ ((((rng 0 ((((z60).length : Int) : Int)).toNat)).filter (fun k' : Int => decide ((law_row one k' (2 + r3)) = z60))).map (fun k' : Int => (one, k', (2 + r3)))))) ([] : (List (Int × Int × Int))))).map (fun y : (Int × Int × Int) => PyData.tuple [PyData.int ((y).1), PyData.int ((y).2.1), PyData.int ((y).2.2)]))), .imm (PyData.int ((1 + r26))), .imm (PyData.int ((((1 + r4) * (1 + r26)) + 1))), .imm (PyData.list (((((rng 1 ((((((1 + r4) * (1 + r26)) + 1) + 1) - 1 : Int)).toNat)).foldl (fun (s27 : (List (Int × Int × Int))) (one : Int) => (s27 ++ ((((rng 0 ((((((1 + r4) * (1 + r26)) + 1) + 1) : Int)).toNat)).filter (fun gap : Int => decide (((one * (2 + r3)) + (gap * ((2 + r3) - 1))) = (((1 + r4) * (1 + r26)) + 1)))).map (fun gap : Int => (one, gap, (2 + r3)))))) ([] : (List (Int × Int × Int))))).map (fun y : (Int × Int × Int) => PyData.tuple [PyData.int ((y).1), PyData.int ((y).2.1), PyData.int ((y).2.2)]))), .any, .imm (PyData.int (r38)), .imm (PyData.int (r43)), .imm (PyData.int ((2 + r44))), .imm (PyData.tuple (((((rng 0 ((((2 + r44) - 1) : Int)).toNat)).foldl (fun (s45 : (List Int)) (k' : Int) => ((s45 ++ (List.replicate (r43).toNat ([0] : (List Int))).flatten) ++ (law_row (1 + r1) r2 (2 + r3)))) (law_row (1 + r1) r2 (2 + r3)))).map PyData.int)), .any, .imm (PyData.tuple ((z60).map PyData.int)), .imm (PyData.int ((1 + r71))), .own (((s72).1).map PyData.int), .imm (PyData.int ((s72).2)), .any, .imm (PyData.int ((1 + r1))), .imm (PyData.int (r2)), .imm (PyData.int ((2 + r3)))]) (fun (s72 : (List Int) × Int) => ((s72).1).length + ((s72).2).toNat ≤ 1000) (fun (s72 : (List Int) × Int) => ((s72).2).toNat) (fun (s72 : (List Int) × Int) => decide (0 < (s72).2)) (fun (s72 : (List Int) × Int) => (((s72).1 ++ [(s72).2]), ((s72).2 - (1 + r71)))) (([] : (List Int)), (1 + r1)) ⟨.inl rfl, ⟨.inl rfl, ⟨.inl rfl, ⟨.inl rfl, ⟨.inl rfl, ⟨.inl rfl, ⟨.inl rfl, ⟨.inl rfl, ⟨.inl rfl, ⟨.inl rfl, ⟨.inl rfl, ⟨.inl rfl, ⟨.inl rfl, ⟨.inl rfl, ⟨.inl rfl, ⟨.inl rfl, ⟨.inl rfl, ⟨.inl rfl, ⟨.inl rfl, ⟨.inl rfl, ⟨.inl rfl, ⟨.inl rfl, ⟨.inl rfl, ⟨.inl rfl, ⟨.inl rfl, trivial⟩⟩⟩⟩⟩⟩⟩⟩⟩⟩⟩⟩⟩⟩⟩⟩⟩⟩⟩⟩⟩⟩⟩⟩⟩ (by first | trivial | omega | (dsimp only; omega) | (simp only [List.length_nil]; omega)) (by intro s hi hc; simp only [decide_eq_true_eq] at hc; dsimp only at hi ⊢; try simp only [List.length_append, List.length_cons, List.length_nil]; omega) ?_ ?_)
  · intro s72 hi74
    refine CmpK.t kGt ?_ rfl
    refine Ev.o (ev_var (i := 20) (nameOk (by kernel_rfl)) rfl ?_)
    refine Ev.o (ev_int ?_)
    refine ⟨decide (0 < (s72).2), ⟨(s72).2, 0, rfl, rfl, rfl⟩, ?_⟩
    refine ⟨rfl, fun (hw76 : (decide (0 < (s72).2)) = true) => ?_⟩
    show Sts _ [.any, .st ns, .imm (PyData.tuple [PyData.int ((1 + r1)), PyData.int (r2), PyData.int ((2 + r3))]), .imm (PyData.int ((1 + r4))), .imm (PyData.int (r5)), .imm (PyData.tuple (((law_row (1 + r1) r2 (2 + r3))).map PyData.int)), .imm (PyData.list ((((((rng 0 (((1 + r4) : Int)).toNat)).filter (fun place : Int => decide ((law_end (1 + r1) r2 (2 + r3) (1 + r4) place) = 0))).map (fun place : Int => place))).map PyData.int)), .imm (PyData.list (((((rng 1 (((((z60).length : Int) + 1) - 1 : Int)).toNat)).foldl (fun (s62 : (List (Int × Int × Int))) (one : Int) => (s62 ++ ((((rng 0 ((((z60).length : Int) : Int)).toNat)).filter (fun k' : Int => decide ((law_row one k' (2 + r3)) = z60))).map (fun k' : Int => (one, k', (2 + r3)))))) ([] : (List (Int × Int × Int))))).map (fun y : (Int × Int × Int) => PyData.tuple [PyData.int ((y).1), PyData.int ((y).2.1), PyData.int ((y).2.2)]))), .imm (PyData.int ((1 + r26))), .imm (PyData.int ((((1 + r4) * (1 + r26)) + 1))), .imm (PyData.list (((((rng 1 ((((((1 + r4) * (1 + r26)) + 1) + 1) - 1 : Int)).toNat)).foldl (fun (s27 : (List (Int × Int × Int))) (one : Int) => (s27 ++ ((((rng 0 ((((((1 + r4) * (1 + r26)) + 1) + 1) : Int)).toNat)).filter (fun gap : Int => decide (((one * (2 + r3)) + (gap * ((2 + r3) - 1))) = (((1 + r4) * (1 + r26)) + 1)))).map (fun gap : Int => (one, gap, (2 + r3)))))) ([] : (List (Int × Int × Int))))).map (fun y : (Int × Int × Int) => PyData.tuple [PyData.int ((y).1), PyData.int ((y).2.1), PyData.int ((y).2.2)]))), .any, .imm (PyData.int (r38)), .imm (PyData.int (r43)), .imm (PyData.int ((2 + r44))), .imm (PyData.tuple (((((rng 0 ((((2 + r44) - 1) : Int)).toNat)).foldl (fun (s45 : (List Int)) (k' : Int) => ((s45 ++ (List.replicate (r43).toNat ([0] : (List Int))).flatten) ++ (law_row (1 + r1) r2 (2 + r3)))) (law_row (1 + r1) r2 (2 + r3)))).map PyData.int)), .any, .imm (PyData.tuple ((z60).map PyData.int)), .imm (PyData.int ((1 + r71))), .own (((s72).1).map PyData.int), .imm (PyData.int ((s72).2)), .any, .imm (PyData.int ((1 + r1))), .imm (PyData.int (r2)), .imm (PyData.int ((2 + r3)))] _ _
    refine sts_cons (st_append (i := 19) (ds := ((s72).1).map PyData.int) (nameOk (by kernel_rfl)) rfl (by walk_at "size") ?_)
    refine ev_var (i := 20) (nameOk (by kernel_rfl)) rfl ?_
    refine own_app (i := 19) ((s72).1) ((s72).2) PyData.int ?_
    show Sts _ [.any, .st ns, .imm (PyData.tuple [PyData.int ((1 + r1)), PyData.int (r2), PyData.int ((2 + r3))]), .imm (PyData.int ((1 + r4))), .imm (PyData.int (r5)), .imm (PyData.tuple (((law_row (1 + r1) r2 (2 + r3))).map PyData.int)), .imm (PyData.list ((((((rng 0 (((1 + r4) : Int)).toNat)).filter (fun place : Int => decide ((law_end (1 + r1) r2 (2 + r3) (1 + r4) place) = 0))).map (fun place : Int => place))).map PyData.int)), .imm (PyData.list (((((rng 1 (((((z60).length : Int) + 1) - 1 : Int)).toNat)).foldl (fun (s62 : (List (Int × Int × Int))) (one : Int) => (s62 ++ ((((rng 0 ((((z60).length : Int) : Int)).toNat)).filter (fun k' : Int => decide ((law_row one k' (2 + r3)) = z60))).map (fun k' : Int => (one, k', (2 + r3)))))) ([] : (List (Int × Int × Int))))).map (fun y : (Int × Int × Int) => PyData.tuple [PyData.int ((y).1), PyData.int ((y).2.1), PyData.int ((y).2.2)]))), .imm (PyData.int ((1 + r26))), .imm (PyData.int ((((1 + r4) * (1 + r26)) + 1))), .imm (PyData.list (((((rng 1 ((((((1 + r4) * (1 + r26)) + 1) + 1) - 1 : Int)).toNat)).foldl (fun (s27 : (List (Int × Int × Int))) (one : Int) => (s27 ++ ((((rng 0 ((((((1 + r4) * (1 + r26)) + 1) + 1) : Int)).toNat)).filter (fun gap : Int => decide (((one * (2 + r3)) + (gap * ((2 + r3) - 1))) = (((1 + r4) * (1 + r26)) + 1)))).map (fun gap : Int => (one, gap, (2 + r3)))))) ([] : (List (Int × Int × Int))))).map (fun y : (Int × Int × Int) => PyData.tuple [PyData.int ((y).1), PyData.int ((y).2.1), PyData.int ((y).2.2)]))), .any, .imm (PyData.int (r38)), .imm (PyData.int (r43)), .imm (PyData.int ((2 + r44))), .imm (PyData.tuple (((((rng 0 ((((2 + r44) - 1) : Int)).toNat)).foldl (fun (s45 : (List Int)) (k' : Int) => ((s45 ++ (List.replicate (r43).toNat ([0] : (List Int))).flatten) ++ (law_row (1 + r1) r2 (2 + r3)))) (law_row (1 + r1) r2 (2 + r3)))).map PyData.int)), .any, .imm (PyData.tuple ((z60).map PyData.int)), .imm (PyData.int ((1 + r71))), .own ((((s72).1 ++ [(s72).2])).map PyData.int), .imm (PyData.int ((s72).2)), .any, .imm (PyData.int ((1 + r1))), .imm (PyData.int (r2)), .imm (PyData.int ((2 + r3)))] _ _
    refine sts_cons (st_set (i := 20) (storeOk (by kernel_rfl) (.inl rfl)) (Nat.le_of_ble_eq_true rfl) ?_)
    refine ev_sub ?_
    refine Ev.o (ev_var (i := 20) (nameOk (by kernel_rfl)) rfl ?_)
    refine ⟨(s72).2, rfl, ?_⟩
    refine Ev.o (ev_var (i := 18) (nameOk (by kernel_rfl)) rfl ?_)
    refine ⟨(1 + r71), rfl, ?_⟩
    show Sts _ [.any, .st ns, .imm (PyData.tuple [PyData.int ((1 + r1)), PyData.int (r2), PyData.int ((2 + r3))]), .imm (PyData.int ((1 + r4))), .imm (PyData.int (r5)), .imm (PyData.tuple (((law_row (1 + r1) r2 (2 + r3))).map PyData.int)), .imm (PyData.list ((((((rng 0 (((1 + r4) : Int)).toNat)).filter (fun place : Int => decide ((law_end (1 + r1) r2 (2 + r3) (1 + r4) place) = 0))).map (fun place : Int => place))).map PyData.int)), .imm (PyData.list (((((rng 1 (((((z60).length : Int) + 1) - 1 : Int)).toNat)).foldl (fun (s62 : (List (Int × Int × Int))) (one : Int) => (s62 ++ ((((rng 0 ((((z60).length : Int) : Int)).toNat)).filter (fun k' : Int => decide ((law_row one k' (2 + r3)) = z60))).map (fun k' : Int => (one, k', (2 + r3)))))) ([] : (List (Int × Int × Int))))).map (fun y : (Int × Int × Int) => PyData.tuple [PyData.int ((y).1), PyData.int ((y).2.1), PyData.int ((y).2.2)]))), .imm (PyData.int ((1 + r26))), .imm (PyData.int ((((1 + r4) * (1 + r26)) + 1))), .imm (PyData.list (((((rng 1 ((((((1 + r4) * (1 + r26)) + 1) + 1) - 1 : Int)).toNat)).foldl (fun (s27 : (List (Int × Int × Int))) (one : Int) => (s27 ++ ((((rng 0 ((((((1 + r4) * (1 + r26)) + 1) + 1) : Int)).toNat)).filter (fun gap : Int => decide (((one * (2 + r3)) + (gap * ((2 + r3) - 1))) = (((1 + r4) * (1 + r26)) + 1)))).map (fun gap : Int => (one, gap, (2 + r3)))))) ([] : (List (Int × Int × Int))))).map (fun y : (Int × Int × Int) => PyData.tuple [PyData.int ((y).1), PyData.int ((y).2.1), PyData.int ((y).2.2)]))), .any, .imm (PyData.int (r38)), .imm (PyData.int (r43)), .imm (PyData.int ((2 + r44))), .imm (PyData.tuple (((((rng 0 ((((2 + r44) - 1) : Int)).toNat)).foldl (fun (s45 : (List Int)) (k' : Int) => ((s45 ++ (List.replicate (r43).toNat ([0] : (List Int))).flatten) ++ (law_row (1 + r1) r2 (2 + r3)))) (law_row (1 + r1) r2 (2 + r3)))).map PyData.int)), .any, .imm (PyData.tuple ((z60).map PyData.int)), .imm (PyData.int ((1 + r71))), .own ((((s72).1 ++ [(s72).2])).map PyData.int), .imm (PyData.int (((s72).2 - (1 + r71)))), .any, .imm (PyData.int ((1 + r1))), .imm (PyData.int (r2)), .imm (PyData.int ((2 + r3)))] _ _
    refine sts_nil ?_
    show Weak [.any, .st ns, .imm (PyData.tuple [PyData.int ((1 + r1)), PyData.int (r2), PyData.int ((2 + r3))]), .imm (PyData.int ((1 + r4))), .imm (PyData.int (r5)), .imm (PyData.tuple (((law_row (1 + r1) r2 (2 + r3))).map PyData.int)), .imm (PyData.list ((((((rng 0 (((1 + r4) : Int)).toNat)).filter (fun place : Int => decide ((law_end (1 + r1) r2 (2 + r3) (1 + r4) place) = 0))).map (fun place : Int => place))).map PyData.int)), .imm (PyData.list (((((rng 1 (((((z60).length : Int) + 1) - 1 : Int)).toNat)).foldl (fun (s62 : (List (Int × Int × Int))) (one : Int) => (s62 ++ ((((rng 0 ((((z60).length : Int) : Int)).toNat)).filter (fun k' : Int => decide ((law_row one k' (2 + r3)) = z60))).map (fun k' : Int => (one, k', (2 + r3)))))) ([] : (List (Int × Int × Int))))).map (fun y : (Int × Int × Int) => PyData.tuple [PyData.int ((y).1), PyData.int ((y).2.1), PyData.int ((y).2.2)]))), .imm (PyData.int ((1 + r26))), .imm (PyData.int ((((1 + r4) * (1 + r26)) + 1))), .imm (PyData.list (((((rng 1 ((((((1 + r4) * (1 + r26)) + 1) + 1) - 1 : Int)).toNat)).foldl (fun (s27 : (List (Int × Int × Int))) (one : Int) => (s27 ++ ((((rng 0 ((((((1 + r4) * (1 + r26)) + 1) + 1) : Int)).toNat)).filter (fun gap : Int => decide (((one * (2 + r3)) + (gap * ((2 + r3) - 1))) = (((1 + r4) * (1 + r26)) + 1)))).map (fun gap : Int => (one, gap, (2 + r3)))))) ([] : (List (Int × Int × Int))))).map (fun y : (Int × Int × Int) => PyData.tuple [PyData.int ((y).1), PyData.int ((y).2.1), PyData.int ((y).2.2)]))), .any, .imm (PyData.int (r38)), .imm (PyData.int (r43)), .imm (PyData.int ((2 + r44))), .imm (PyData.tuple (((((rng 0 ((((2 + r44) - 1) : Int)).toNat)).foldl (fun (s45 : (List Int)) (k' : Int) => ((s45 ++ (List.replicate (r43).toNat ([0] : (List Int))).flatten) ++ (law_row (1 + r1) r2 (2 + r3)))) (law_row (1 + r1) r2 (2 + r3)))).map PyData.int)), .any, .imm (PyData.tuple ((z60).map PyData.int)), .imm (PyData.int ((1 + r71))), .own ((((s72).1 ++ [(s72).2])).map PyData.int), .imm (PyData.int (((s72).2 - (1 + r71)))), .any, .imm (PyData.int ((1 + r1))), .imm (PyData.int (r2)), .imm (PyData.int ((2 + r3)))] [.any, .st ns, .imm (PyData.tuple [PyData.int ((1 + r1)), PyData.int (r2), PyData.int ((2 + r3))]), .imm (PyData.int ((1 + r4))), .imm (PyData.int (r5)), .imm (PyData.tuple (((law_row (1 + r1) r2 (2 + r3))).map PyData.int)), .imm (PyData.list ((((((rng 0 (((1 + r4) : Int)).toNat)).filter (fun place : Int => decide ((law_end (1 + r1) r2 (2 + r3) (1 + r4) place) = 0))).map (fun place : Int => place))).map PyData.int)), .imm (PyData.list (((((rng 1 (((((z60).length : Int) + 1) - 1 : Int)).toNat)).foldl (fun (s62 : (List (Int × Int × Int))) (one : Int) => (s62 ++ ((((rng 0 ((((z60).length : Int) : Int)).toNat)).filter (fun k' : Int => decide ((law_row one k' (2 + r3)) = z60))).map (fun k' : Int => (one, k', (2 + r3)))))) ([] : (List (Int × Int × Int))))).map (fun y : (Int × Int × Int) => PyData.tuple [PyData.int ((y).1), PyData.int ((y).2.1), PyData.int ((y).2.2)]))), .imm (PyData.int ((1 + r26))), .imm (PyData.int ((((1 + r4) * (1 + r26)) + 1))), .imm (PyData.list (((((rng 1 ((((((1 + r4) * (1 + r26)) + 1) + 1) - 1 : Int)).toNat)).foldl (fun (s27 : (List (Int × Int × Int))) (one : Int) => (s27 ++ ((((rng 0 ((((((1 + r4) * (1 + r26)) + 1) + 1) : Int)).toNat)).filter (fun gap : Int => decide (((one * (2 + r3)) + (gap * ((2 + r3) - 1))) = (((1 + r4) * (1 + r26)) + 1)))).map (fun gap : Int => (one, gap, (2 + r3)))))) ([] : (List (Int × Int × Int))))).map (fun y : (Int × Int × Int) => PyData.tuple [PyData.int ((y).1), PyData.int ((y).2.1), PyData.int ((y).2.2)]))), .any, .imm (PyData.int (r38)), .imm (PyData.int (r43)), .imm (PyData.int ((2 + r44))), .imm (PyData.tuple (((((rng 0 ((((2 + r44) - 1) : Int)).toNat)).foldl (fun (s45 : (List Int)) (k' : Int) => ((s45 ++ (List.replicate (r43).toNat ([0] : (List Int))).flatten) ++ (law_row (1 + r1) r2 (2 + r3)))) (law_row (1 + r1) r2 (2 + r3)))).map PyData.int)), .any, .imm (PyData.tuple ((z60).map PyData.int)), .imm (PyData.int ((1 + r71))), .own ((((((s72).1 ++ [(s72).2]), ((s72).2 - (1 + r71)))).1).map PyData.int), .imm (PyData.int (((((s72).1 ++ [(s72).2]), ((s72).2 - (1 + r71)))).2)), .any, .imm (PyData.int ((1 + r1))), .imm (PyData.int (r2)), .imm (PyData.int ((2 + r3)))]
    exact ⟨.inl rfl, ⟨.inl rfl, ⟨.inl rfl, ⟨.inl rfl, ⟨.inl rfl, ⟨.inl rfl, ⟨.inl rfl, ⟨.inl rfl, ⟨.inl rfl, ⟨.inl rfl, ⟨.inl rfl, ⟨.inl rfl, ⟨.inl rfl, ⟨.inl rfl, ⟨.inl rfl, ⟨.inl rfl, ⟨.inl rfl, ⟨.inl rfl, ⟨.inl rfl, ⟨.inl rfl, ⟨.inl rfl, ⟨.inl rfl, ⟨.inl rfl, ⟨.inl rfl, ⟨.inl rfl, trivial⟩⟩⟩⟩⟩⟩⟩⟩⟩⟩⟩⟩⟩⟩⟩⟩⟩⟩⟩⟩⟩⟩⟩⟩⟩
  intro hc75 hi74
  show Sts _ [.any, .st ns, .imm (PyData.tuple [PyData.int ((1 + r1)), PyData.int (r2), PyData.int ((2 + r3))]), .imm (PyData.int ((1 + r4))), .imm (PyData.int (r5)), .imm (PyData.tuple (((law_row (1 + r1) r2 (2 + r3))).map PyData.int)), .imm (PyData.list ((((((rng 0 (((1 + r4) : Int)).toNat)).filter (fun place : Int => decide ((law_end (1 + r1) r2 (2 + r3) (1 + r4) place) = 0))).map (fun place : Int => place))).map PyData.int)), .imm (PyData.list (((((rng 1 (((((z60).length : Int) + 1) - 1 : Int)).toNat)).foldl (fun (s62 : (List (Int × Int × Int))) (one : Int) => (s62 ++ ((((rng 0 ((((z60).length : Int) : Int)).toNat)).filter (fun k' : Int => decide ((law_row one k' (2 + r3)) = z60))).map (fun k' : Int => (one, k', (2 + r3)))))) ([] : (List (Int × Int × Int))))).map (fun y : (Int × Int × Int) => PyData.tuple [PyData.int ((y).1), PyData.int ((y).2.1), PyData.int ((y).2.2)]))), .imm (PyData.int ((1 + r26))), .imm (PyData.int ((((1 + r4) * (1 + r26)) + 1))), .imm (PyData.list (((((rng 1 ((((((1 + r4) * (1 + r26)) + 1) + 1) - 1 : Int)).toNat)).foldl (fun (s27 : (List (Int × Int × Int))) (one : Int) => (s27 ++ ((((rng 0 ((((((1 + r4) * (1 + r26)) + 1) + 1) : Int)).toNat)).filter (fun gap : Int => decide (((one * (2 + r3)) + (gap * ((2 + r3) - 1))) = (((1 + r4) * (1 + r26)) + 1)))).map (fun gap : Int => (one, gap, (2 + r3)))))) ([] : (List (Int × Int × Int))))).map (fun y : (Int × Int × Int) => PyData.tuple [PyData.int ((y).1), PyData.int ((y).2.1), PyData.int ((y).2.2)]))), .any, .imm (PyData.int (r38)), .imm (PyData.int (r43)), .imm (PyData.int ((2 + r44))), .imm (PyData.tuple (((((rng 0 ((((2 + r44) - 1) : Int)).toNat)).foldl (fun (s45 : (List Int)) (k' : Int) => ((s45 ++ (List.replicate (r43).toNat ([0] : (List Int))).flatten) ++ (law_row (1 + r1) r2 (2 + r3)))) (law_row (1 + r1) r2 (2 + r3)))).map PyData.int)), .any, .imm (PyData.tuple ((z60).map PyData.int)), .imm (PyData.int ((1 + r71))), .own ((((whl (fun (s72 : (List Int) × Int) => decide (0 < (s72).2)) (fun (s72 : (List Int) × Int) => (((s72).1 ++ [(s72).2]), ((s72).2 - (1 + r71)))) ((fun (s72 : (List Int) × Int) => ((s72).2).toNat) (([] : (List Int)), (1 + r1))) (([] : (List Int)), (1 + r1)))).1).map PyData.int), .imm (PyData.int (((whl (fun (s72 : (List Int) × Int) => decide (0 < (s72).2)) (fun (s72 : (List Int) × Int) => (((s72).1 ++ [(s72).2]), ((s72).2 - (1 + r71)))) ((fun (s72 : (List Int) × Int) => ((s72).2).toNat) (([] : (List Int)), (1 + r1))) (([] : (List Int)), (1 + r1)))).2)), .any, .imm (PyData.int ((1 + r1))), .imm (PyData.int (r2)), .imm (PyData.int ((2 + r3)))] _ _
  refine sts_drop (B := b_law) (k := 34) (Nat.le_of_ble_eq_true rfl) ?_
  refine sts_cons (st_set (i := 21) (storeOk (by kernel_rfl) (.inl rfl)) (Nat.le_of_ble_eq_true rfl) ?_)
  refine ev_add ?_
  refine Ev.o (ev_sum rfl (globOk (by kernel_rfl)) T.z_sum ?_)
  refine evo_own (i := 19) (nameOk (by kernel_rfl)) rfl ?_
  refine ⟨((whl (fun (s72 : (List Int) × Int) => decide (0 < (s72).2)) (fun (s72 : (List Int) × Int) => (((s72).1 ++ [(s72).2]), ((s72).2 - (1 + r71)))) ((fun (s72 : (List Int) × Int) => ((s72).2).toNat) (([] : (List Int)), (1 + r1))) (([] : (List Int)), (1 + r1)))).1, rfl, rfl, ?_⟩
  refine ⟨(((whl (fun (s72 : (List Int) × Int) => decide (0 < (s72).2)) (fun (s72 : (List Int) × Int) => (((s72).1 ++ [(s72).2]), ((s72).2 - (1 + r71)))) ((fun (s72 : (List Int) × Int) => ((s72).2).toNat) (([] : (List Int)), (1 + r1))) (([] : (List Int)), (1 + r1)))).1).sum, rfl, ?_⟩
  refine Ev.o (ev_mul ?_)
  refine Ev.o (ev_var (i := 23) (nameOk (by kernel_rfl)) rfl ?_)
  refine ⟨r2, rfl, ?_⟩
  refine Ev.o (ev_sub ?_)
  refine Ev.o (ev_lenL PyData.int (globOk (by kernel_rfl)) T.z_len ?_)
  refine evo_own (i := 19) (nameOk (by kernel_rfl)) rfl ?_
  refine ⟨((whl (fun (s72 : (List Int) × Int) => decide (0 < (s72).2)) (fun (s72 : (List Int) × Int) => (((s72).1 ++ [(s72).2]), ((s72).2 - (1 + r71)))) ((fun (s72 : (List Int) × Int) => ((s72).2).toNat) (([] : (List Int)), (1 + r1))) (([] : (List Int)), (1 + r1)))).1, rfl, ?_⟩
  refine ⟨((((whl (fun (s72 : (List Int) × Int) => decide (0 < (s72).2)) (fun (s72 : (List Int) × Int) => (((s72).1 ++ [(s72).2]), ((s72).2 - (1 + r71)))) ((fun (s72 : (List Int) × Int) => ((s72).2).toNat) (([] : (List Int)), (1 + r1))) (([] : (List Int)), (1 + r1)))).1).length : Int), rfl, ?_⟩
  refine Ev.o (ev_int ?_)
  refine ⟨1, rfl, ?_⟩
  refine ⟨(((((whl (fun (s72 : (List Int) × Int) => decide (0 < (s72).2)) (fun (s72 : (List Int) × Int) => (((s72).1 ++ [(s72).2]), ((s72).2 - (1 + r71)))) ((fun (s72 : (List Int) × Int) => ((s72).2).toNat) (([] : (List Int)), (1 + r1))) (([] : (List Int)), (1 + r1)))).1).length : Int) - 1), rfl, (by walk_at "mul"), ?_⟩
  refine ⟨(r2 * (((((whl (fun (s72 : (List Int) × Int) => decide (0 < (s72).2)) (fun (s72 : (List Int) × Int) => (((s72).1 ++ [(s72).2]), ((s72).2 - (1 + r71)))) ((fun (s72 : (List Int) × Int) => ((s72).2).toNat) (([] : (List Int)), (1 + r1))) (([] : (List Int)), (1 + r1)))).1).length : Int) - 1)), rfl, ?_⟩
  show Sts _ [.any, .st ns, .imm (PyData.tuple [PyData.int ((1 + r1)), PyData.int (r2), PyData.int ((2 + r3))]), .imm (PyData.int ((1 + r4))), .imm (PyData.int (r5)), .imm (PyData.tuple (((law_row (1 + r1) r2 (2 + r3))).map PyData.int)), .imm (PyData.list ((((((rng 0 (((1 + r4) : Int)).toNat)).filter (fun place : Int => decide ((law_end (1 + r1) r2 (2 + r3) (1 + r4) place) = 0))).map (fun place : Int => place))).map PyData.int)), .imm (PyData.list (((((rng 1 (((((z60).length : Int) + 1) - 1 : Int)).toNat)).foldl (fun (s62 : (List (Int × Int × Int))) (one : Int) => (s62 ++ ((((rng 0 ((((z60).length : Int) : Int)).toNat)).filter (fun k' : Int => decide ((law_row one k' (2 + r3)) = z60))).map (fun k' : Int => (one, k', (2 + r3)))))) ([] : (List (Int × Int × Int))))).map (fun y : (Int × Int × Int) => PyData.tuple [PyData.int ((y).1), PyData.int ((y).2.1), PyData.int ((y).2.2)]))), .imm (PyData.int ((1 + r26))), .imm (PyData.int ((((1 + r4) * (1 + r26)) + 1))), .imm (PyData.list (((((rng 1 ((((((1 + r4) * (1 + r26)) + 1) + 1) - 1 : Int)).toNat)).foldl (fun (s27 : (List (Int × Int × Int))) (one : Int) => (s27 ++ ((((rng 0 ((((((1 + r4) * (1 + r26)) + 1) + 1) : Int)).toNat)).filter (fun gap : Int => decide (((one * (2 + r3)) + (gap * ((2 + r3) - 1))) = (((1 + r4) * (1 + r26)) + 1)))).map (fun gap : Int => (one, gap, (2 + r3)))))) ([] : (List (Int × Int × Int))))).map (fun y : (Int × Int × Int) => PyData.tuple [PyData.int ((y).1), PyData.int ((y).2.1), PyData.int ((y).2.2)]))), .any, .imm (PyData.int (r38)), .imm (PyData.int (r43)), .imm (PyData.int ((2 + r44))), .imm (PyData.tuple (((((rng 0 ((((2 + r44) - 1) : Int)).toNat)).foldl (fun (s45 : (List Int)) (k' : Int) => ((s45 ++ (List.replicate (r43).toNat ([0] : (List Int))).flatten) ++ (law_row (1 + r1) r2 (2 + r3)))) (law_row (1 + r1) r2 (2 + r3)))).map PyData.int)), .any, .imm (PyData.tuple ((z60).map PyData.int)), .imm (PyData.int ((1 + r71))), .own ((((whl (fun (s72 : (List Int) × Int) => decide (0 < (s72).2)) (fun (s72 : (List Int) × Int) => (((s72).1 ++ [(s72).2]), ((s72).2 - (1 + r71)))) ((fun (s72 : (List Int) × Int) => ((s72).2).toNat) (([] : (List Int)), (1 + r1))) (([] : (List Int)), (1 + r1)))).1).map PyData.int), .imm (PyData.int (((whl (fun (s72 : (List Int) × Int) => decide (0 < (s72).2)) (fun (s72 : (List Int) × Int) => (((s72).1 ++ [(s72).2]), ((s72).2 - (1 + r71)))) ((fun (s72 : (List Int) × Int) => ((s72).2).toNat) (([] : (List Int)), (1 + r1))) (([] : (List Int)), (1 + r1)))).2)), .imm (PyData.int (((((whl (fun (s72 : (List Int) × Int) => decide (0 < (s72).2)) (fun (s72 : (List Int) × Int) => (((s72).1 ++ [(s72).2]), ((s72).2 - (1 + r71)))) ((fun (s72 : (List Int) × Int) => ((s72).2).toNat) (([] : (List Int)), (1 + r1))) (([] : (List Int)), (1 + r1)))).1).sum + (r2 * (((((whl (fun (s72 : (List Int) × Int) => decide (0 < (s72).2)) (fun (s72 : (List Int) × Int) => (((s72).1 ++ [(s72).2]), ((s72).2 - (1 + r71)))) ((fun (s72 : (List Int) × Int) => ((s72).2).toNat) (([] : (List Int)), (1 + r1))) (([] : (List Int)), (1 + r1)))).1).length : Int) - 1))))), .imm (PyData.int ((1 + r1))), .imm (PyData.int (r2)), .imm (PyData.int ((2 + r3)))] _ _
  refine sts_drop (B := b_law) (k := 35) (Nat.le_of_ble_eq_true rfl) ?_
  refine sts_cons (st_if ?_)
  refine CmpK.t (kNe rfl) ?_ rfl
  refine Ev.o (ev_call F_shrinking (globOk (by kernel_rfl)) (Nat.le_of_ble_eq_true rfl) rfl ?_)
  refine eva_cons ?_
  refine ev_var (i := 22) (nameOk (by kernel_rfl)) rfl ?_
  refine eva_cons ?_
  refine ev_var (i := 18) (nameOk (by kernel_rfl)) rfl ?_
  refine eva_cons ?_
  refine ev_var (i := 23) (nameOk (by kernel_rfl)) rfl ?_
  refine eva_cons ?_
  refine ev_var (i := 3) (nameOk (by kernel_rfl)) rfl ?_
  refine eva_nil ?_
  refine ⟨rfl, (1 + r1), (1 + r71), r2, (1 + r4), rfl, (by walk_at "pre"), ?_⟩
  refine Ev.o (ev_tup ?_)
  refine eva_cons ?_
  refine ev_tuple (globOk (by kernel_rfl)) T.z_tuple ?_
  refine evo_own (i := 19) (nameOk (by kernel_rfl)) rfl ?_
  refine ⟨rfl, ?_⟩
  refine eva_cons ?_
  refine ev_mod ?_
  refine Ev.o (ev_toInt (globOk (by kernel_rfl)) T.z_int ?_)
  refine Ev.o (ev_sub ?_)
  refine Ev.o (ev_int ?_)
  refine ⟨1, rfl, ?_⟩
  refine Ev.o (ev_var (i := 21) (nameOk (by kernel_rfl)) rfl ?_)
  refine ⟨((((whl (fun (s72 : (List Int) × Int) => decide (0 < (s72).2)) (fun (s72 : (List Int) × Int) => (((s72).1 ++ [(s72).2]), ((s72).2 - (1 + r71)))) ((fun (s72 : (List Int) × Int) => ((s72).2).toNat) (([] : (List Int)), (1 + r1))) (([] : (List Int)), (1 + r1)))).1).sum + (r2 * (((((whl (fun (s72 : (List Int) × Int) => decide (0 < (s72).2)) (fun (s72 : (List Int) × Int) => (((s72).1 ++ [(s72).2]), ((s72).2 - (1 + r71)))) ((fun (s72 : (List Int) × Int) => ((s72).2).toNat) (([] : (List Int)), (1 + r1))) (([] : (List Int)), (1 + r1)))).1).length : Int) - 1))), rfl, ?_⟩
  refine ⟨(1 - ((((whl (fun (s72 : (List Int) × Int) => decide (0 < (s72).2)) (fun (s72 : (List Int) × Int) => (((s72).1 ++ [(s72).2]), ((s72).2 - (1 + r71)))) ((fun (s72 : (List Int) × Int) => ((s72).2).toNat) (([] : (List Int)), (1 + r1))) (([] : (List Int)), (1 + r1)))).1).sum + (r2 * (((((whl (fun (s72 : (List Int) × Int) => decide (0 < (s72).2)) (fun (s72 : (List Int) × Int) => (((s72).1 ++ [(s72).2]), ((s72).2 - (1 + r71)))) ((fun (s72 : (List Int) × Int) => ((s72).2).toNat) (([] : (List Int)), (1 + r1))) (([] : (List Int)), (1 + r1)))).1).length : Int) - 1)))), rfl, ?_⟩
  refine ⟨(1 - ((((whl (fun (s72 : (List Int) × Int) => decide (0 < (s72).2)) (fun (s72 : (List Int) × Int) => (((s72).1 ++ [(s72).2]), ((s72).2 - (1 + r71)))) ((fun (s72 : (List Int) × Int) => ((s72).2).toNat) (([] : (List Int)), (1 + r1))) (([] : (List Int)), (1 + r1)))).1).sum + (r2 * (((((whl (fun (s72 : (List Int) × Int) => decide (0 < (s72).2)) (fun (s72 : (List Int) × Int) => (((s72).1 ++ [(s72).2]), ((s72).2 - (1 + r71)))) ((fun (s72 : (List Int) × Int) => ((s72).2).toNat) (([] : (List Int)), (1 + r1))) (([] : (List Int)), (1 + r1)))).1).length : Int) - 1)))), rfl, ?_⟩
  refine Ev.o (ev_var (i := 3) (nameOk (by kernel_rfl)) rfl ?_)
  refine ⟨(1 + r4), rfl, (by walk_at "side"), ?_⟩
  refine eva_nil ?_
  refine ⟨szOk (show 2 ≤ 1000000 by omega), ?_⟩
  refine ⟨(!decide ((shrinking (1 + r1) (1 + r71) r2 (1 + r4)) = (((whl (fun (s72 : (List Int) × Int) => decide (0 < (s72).2)) (fun (s72 : (List Int) × Int) => (((s72).1 ++ [(s72).2]), ((s72).2 - (1 + r71)))) ((fun (s72 : (List Int) × Int) => ((s72).2).toNat) (([] : (List Int)), (1 + r1))) (([] : (List Int)), (1 + r1)))).1, ((1 - ((((whl (fun (s72 : (List Int) × Int) => decide (0 < (s72).2)) (fun (s72 : (List Int) × Int) => (((s72).1 ++ [(s72).2]), ((s72).2 - (1 + r71)))) ((fun (s72 : (List Int) × Int) => ((s72).2).toNat) (([] : (List Int)), (1 + r1))) (([] : (List Int)), (1 + r1)))).1).sum + (r2 * (((((whl (fun (s72 : (List Int) × Int) => decide (0 < (s72).2)) (fun (s72 : (List Int) × Int) => (((s72).1 ++ [(s72).2]), ((s72).2 - (1 + r71)))) ((fun (s72 : (List Int) × Int) => ((s72).2).toNat) (([] : (List Int)), (1 + r1))) (([] : (List Int)), (1 + r1)))).1).length : Int) - 1)))) % (1 + r4))))), cdNe (cd_t2 (cd_vtup cd_int) cd_int).o (by decide) (shrinking (1 + r1) (1 + r71) r2 (1 + r4)) (((whl (fun (s72 : (List Int) × Int) => decide (0 < (s72).2)) (fun (s72 : (List Int) × Int) => (((s72).1 ++ [(s72).2]), ((s72).2 - (1 + r71)))) ((fun (s72 : (List Int) × Int) => ((s72).2).toNat) (([] : (List Int)), (1 + r1))) (([] : (List Int)), (1 + r1)))).1, ((1 - ((((whl (fun (s72 : (List Int) × Int) => decide (0 < (s72).2)) (fun (s72 : (List Int) × Int) => (((s72).1 ++ [(s72).2]), ((s72).2 - (1 + r71)))) ((fun (s72 : (List Int) × Int) => ((s72).2).toNat) (([] : (List Int)), (1 + r1))) (([] : (List Int)), (1 + r1)))).1).sum + (r2 * (((((whl (fun (s72 : (List Int) × Int) => decide (0 < (s72).2)) (fun (s72 : (List Int) × Int) => (((s72).1 ++ [(s72).2]), ((s72).2 - (1 + r71)))) ((fun (s72 : (List Int) × Int) => ((s72).2).toNat) (([] : (List Int)), (1 + r1))) (([] : (List Int)), (1 + r1)))).1).length : Int) - 1)))) % (1 + r4))), ?_⟩
  have c12 : ((!decide ((shrinking (1 + r1) (1 + r71) r2 (1 + r4)) = (((whl (fun (s72 : (List Int) × Int) => decide (0 < (s72).2)) (fun (s72 : (List Int) × Int) => (((s72).1 ++ [(s72).2]), ((s72).2 - (1 + r71)))) ((fun (s72 : (List Int) × Int) => ((s72).2).toNat) (([] : (List Int)), (1 + r1))) (([] : (List Int)), (1 + r1)))).1, ((1 - ((((whl (fun (s72 : (List Int) × Int) => decide (0 < (s72).2)) (fun (s72 : (List Int) × Int) => (((s72).1 ++ [(s72).2]), ((s72).2 - (1 + r71)))) ((fun (s72 : (List Int) × Int) => ((s72).2).toNat) (([] : (List Int)), (1 + r1))) (([] : (List Int)), (1 + r1)))).1).sum + (r2 * (((((whl (fun (s72 : (List Int) × Int) => decide (0 < (s72).2)) (fun (s72 : (List Int) × Int) => (((s72).1 ++ [(s72).2]), ((s72).2 - (1 + r71)))) ((fun (s72 : (List Int) × Int) => ((s72).2).toNat) (([] : (List Int)), (1 + r1))) (([] : (List Int)), (1 + r1)))).1).length : Int) - 1)))) % (1 + r4)))))) = false := by
    unfold shrinking; rw [decide_eq_true rfl] <;> rfl
  refine ⟨fun h77 => Bool.noConfusion (h77.symm.trans c12), fun _ => ?_⟩
  refine sts_nil ?_
  show Sts _ [.any, .st ns, .imm (PyData.tuple [PyData.int ((1 + r1)), PyData.int (r2), PyData.int ((2 + r3))]), .imm (PyData.int ((1 + r4))), .imm (PyData.int (r5)), .imm (PyData.tuple (((law_row (1 + r1) r2 (2 + r3))).map PyData.int)), .imm (PyData.list ((((((rng 0 (((1 + r4) : Int)).toNat)).filter (fun place : Int => decide ((law_end (1 + r1) r2 (2 + r3) (1 + r4) place) = 0))).map (fun place : Int => place))).map PyData.int)), .imm (PyData.list (((((rng 1 (((((z60).length : Int) + 1) - 1 : Int)).toNat)).foldl (fun (s62 : (List (Int × Int × Int))) (one : Int) => (s62 ++ ((((rng 0 ((((z60).length : Int) : Int)).toNat)).filter (fun k' : Int => decide ((law_row one k' (2 + r3)) = z60))).map (fun k' : Int => (one, k', (2 + r3)))))) ([] : (List (Int × Int × Int))))).map (fun y : (Int × Int × Int) => PyData.tuple [PyData.int ((y).1), PyData.int ((y).2.1), PyData.int ((y).2.2)]))), .imm (PyData.int ((1 + r26))), .imm (PyData.int ((((1 + r4) * (1 + r26)) + 1))), .imm (PyData.list (((((rng 1 ((((((1 + r4) * (1 + r26)) + 1) + 1) - 1 : Int)).toNat)).foldl (fun (s27 : (List (Int × Int × Int))) (one : Int) => (s27 ++ ((((rng 0 ((((((1 + r4) * (1 + r26)) + 1) + 1) : Int)).toNat)).filter (fun gap : Int => decide (((one * (2 + r3)) + (gap * ((2 + r3) - 1))) = (((1 + r4) * (1 + r26)) + 1)))).map (fun gap : Int => (one, gap, (2 + r3)))))) ([] : (List (Int × Int × Int))))).map (fun y : (Int × Int × Int) => PyData.tuple [PyData.int ((y).1), PyData.int ((y).2.1), PyData.int ((y).2.2)]))), .any, .imm (PyData.int (r38)), .imm (PyData.int (r43)), .imm (PyData.int ((2 + r44))), .imm (PyData.tuple (((((rng 0 ((((2 + r44) - 1) : Int)).toNat)).foldl (fun (s45 : (List Int)) (k' : Int) => ((s45 ++ (List.replicate (r43).toNat ([0] : (List Int))).flatten) ++ (law_row (1 + r1) r2 (2 + r3)))) (law_row (1 + r1) r2 (2 + r3)))).map PyData.int)), .any, .imm (PyData.tuple ((z60).map PyData.int)), .imm (PyData.int ((1 + r71))), .own ((((whl (fun (s72 : (List Int) × Int) => decide (0 < (s72).2)) (fun (s72 : (List Int) × Int) => (((s72).1 ++ [(s72).2]), ((s72).2 - (1 + r71)))) ((fun (s72 : (List Int) × Int) => ((s72).2).toNat) (([] : (List Int)), (1 + r1))) (([] : (List Int)), (1 + r1)))).1).map PyData.int), .imm (PyData.int (((whl (fun (s72 : (List Int) × Int) => decide (0 < (s72).2)) (fun (s72 : (List Int) × Int) => (((s72).1 ++ [(s72).2]), ((s72).2 - (1 + r71)))) ((fun (s72 : (List Int) × Int) => ((s72).2).toNat) (([] : (List Int)), (1 + r1))) (([] : (List Int)), (1 + r1)))).2)), .imm (PyData.int (((((whl (fun (s72 : (List Int) × Int) => decide (0 < (s72).2)) (fun (s72 : (List Int) × Int) => (((s72).1 ++ [(s72).2]), ((s72).2 - (1 + r71)))) ((fun (s72 : (List Int) × Int) => ((s72).2).toNat) (([] : (List Int)), (1 + r1))) (([] : (List Int)), (1 + r1)))).1).sum + (r2 * (((((whl (fun (s72 : (List Int) × Int) => decide (0 < (s72).2)) (fun (s72 : (List Int) × Int) => (((s72).1 ++ [(s72).2]), ((s72).2 - (1 + r71)))) ((fun (s72 : (List Int) × Int) => ((s72).2).toNat) (([] : (List Int)), (1 + r1))) (([] : (List Int)), (1 + r1)))).1).length : Int) - 1))))), .imm (PyData.int ((1 + r1))), .imm (PyData.int (r2)), .imm (PyData.int ((2 + r3)))] _ _
  refine sts_drop (B := b_law) (k := 36) (Nat.le_of_ble_eq_true rfl) ?_
  refine sts_cons (st_ret ?_)
  refine CmpK.ev kIsB ?_ rfl
  refine Ev.o (ev_call F_is_plan (globOk (by kernel_rfl)) (Nat.le_of_ble_eq_true rfl) rfl ?_)
  refine eva_cons ?_
  refine ev_ixL (fun d : D => d) ?_
  refine Ev.o (ev_ofL (evl_lst ?_))
  refine eva_cons ?_
  refine ev_tup ?_
  refine eva_cons ?_
  refine ev_int ?_
  refine eva_cons ?_
  refine ev_int ?_
  refine eva_cons ?_
  refine ev_int ?_
  refine eva_nil ?_
  refine ⟨szOk (show 3 ≤ 1000000 by omega), ?_⟩
  refine eva_cons ?_
  refine ev_tup ?_
  refine eva_cons ?_
  refine ev_int ?_
  refine eva_cons ?_
  refine ev_int ?_
  refine eva_cons ?_
  refine ev_int ?_
  refine eva_nil ?_
  refine ⟨szOk (show 3 ≤ 1000000 by omega), ?_⟩
  refine eva_cons ?_
  refine ev_tup ?_
  refine eva_cons ?_
  refine ev_int ?_
  refine eva_cons ?_
  refine ev_sub ?_
  refine Ev.o (ev_int ?_)
  refine ⟨0, rfl, ?_⟩
  refine Ev.o (ev_int ?_)
  refine ⟨1, rfl, ?_⟩
  refine eva_cons ?_
  refine ev_int ?_
  refine eva_nil ?_
  refine ⟨szOk (show 3 ≤ 1000000 by omega), ?_⟩
  refine eva_cons ?_
  refine ev_ofL (evl_lst ?_)
  refine eva_cons ?_
  refine ev_int ?_
  refine eva_cons ?_
  refine ev_int ?_
  refine eva_cons ?_
  refine ev_int ?_
  refine eva_nil ?_
  refine ⟨szOk (show 3 ≤ 1000000 by omega), ?_⟩
  refine eva_cons ?_
  refine ev_tup ?_
  refine eva_cons ?_
  refine ev_int ?_
  refine eva_cons ?_
  refine ev_int ?_
  refine eva_nil ?_
  refine ⟨szOk (show 2 ≤ 1000000 by omega), ?_⟩
  refine eva_cons ?_
  refine ev_tup ?_
  refine eva_cons ?_
  refine ev_bool ?_
  refine eva_cons ?_
  refine ev_int ?_
  refine eva_cons ?_
  refine ev_int ?_
  refine eva_nil ?_
  refine ⟨szOk (show 3 ≤ 1000000 by omega), ?_⟩
  refine eva_cons ?_
  refine ev_non ?_
  refine eva_cons ?_
  refine ev_tup ?_
  refine eva_cons ?_
  refine ev_int ?_
  refine eva_cons ?_
  refine ev_int ?_
  refine eva_cons ?_
  refine ev_int ?_
  refine eva_nil ?_
  refine ⟨szOk (show 3 ≤ 1000000 by omega), ?_⟩
  refine eva_nil ?_
  refine ⟨szOk (show 8 ≤ 1000000 by omega), ?_⟩
  refine ⟨([(PyData.tuple [PyData.int (0), PyData.int (1), PyData.int (3)]), (PyData.tuple [PyData.int (1), PyData.int (1), PyData.int (1)]), (PyData.tuple [PyData.int (1), PyData.int ((0 - 1)), PyData.int (3)]), (PyData.list ((([1, 1, 3] : List Int)).map PyData.int)), (PyData.tuple [PyData.int (1), PyData.int (1)]), (PyData.tuple [PyData.bool (true), PyData.int (1), PyData.int (3)]), (PyData.none), (PyData.tuple [PyData.int (1), PyData.int (1), PyData.int (10)])] : List D), rfl, ?_⟩
  refine Ev.o (ev_callS F_law_draw (globOk (by kernel_rfl)) (Nat.le_of_ble_eq_true rfl) rfl (i := 1) (nameOk (by kernel_rfl)) rfl ?_)
  refine eva_cons ?_
  refine ev_int ?_
  refine eva_nil ?_
  refine ⟨rfl, 8, rfl, (by walk_at "side"), (by walk_at "log"), fun r78 r78a r78b => ?_⟩
  refine ⟨r78, (atD ([(PyData.tuple [PyData.int (0), PyData.int (1), PyData.int (3)]), (PyData.tuple [PyData.int (1), PyData.int (1), PyData.int (1)]), (PyData.tuple [PyData.int (1), PyData.int ((0 - 1)), PyData.int (3)]), (PyData.list ((([1, 1, 3] : List Int)).map PyData.int)), (PyData.tuple [PyData.int (1), PyData.int (1)]), (PyData.tuple [PyData.bool (true), PyData.int (1), PyData.int (3)]), (PyData.none), (PyData.tuple [PyData.int (1), PyData.int (1), PyData.int (10)])] : List D) r78), rfl, atD_ok (by walk_at "size") (by walk_at "size"), ?_⟩
  refine eva_nil ?_
  refine ⟨rfl, (atD ([(PyData.tuple [PyData.int (0), PyData.int (1), PyData.int (3)]), (PyData.tuple [PyData.int (1), PyData.int (1), PyData.int (1)]), (PyData.tuple [PyData.int (1), PyData.int ((0 - 1)), PyData.int (3)]), (PyData.list ((([1, 1, 3] : List Int)).map PyData.int)), (PyData.tuple [PyData.int (1), PyData.int (1)]), (PyData.tuple [PyData.bool (true), PyData.int (1), PyData.int (3)]), (PyData.none), (PyData.tuple [PyData.int (1), PyData.int (1), PyData.int (10)])] : List D) r78), rfl, ?_⟩
  refine Ev.o (ev_bool ?_)
  refine ⟨decide ((is_plan (atD ([(PyData.tuple [PyData.int (0), PyData.int (1), PyData.int (3)]), (PyData.tuple [PyData.int (1), PyData.int (1), PyData.int (1)]), (PyData.tuple [PyData.int (1), PyData.int ((0 - 1)), PyData.int (3)]), (PyData.list ((([1, 1, 3] : List Int)).map PyData.int)), (PyData.tuple [PyData.int (1), PyData.int (1)]), (PyData.tuple [PyData.bool (true), PyData.int (1), PyData.int (3)]), (PyData.none), (PyData.tuple [PyData.int (1), PyData.int (1), PyData.int (10)])] : List D) r78)) = false), ⟨(is_plan (atD ([(PyData.tuple [PyData.int (0), PyData.int (1), PyData.int (3)]), (PyData.tuple [PyData.int (1), PyData.int (1), PyData.int (1)]), (PyData.tuple [PyData.int (1), PyData.int ((0 - 1)), PyData.int (3)]), (PyData.list ((([1, 1, 3] : List Int)).map PyData.int)), (PyData.tuple [PyData.int (1), PyData.int (1)]), (PyData.tuple [PyData.bool (true), PyData.int (1), PyData.int (3)]), (PyData.none), (PyData.tuple [PyData.int (1), PyData.int (1), PyData.int (10)])] : List D) r78)), false, rfl, rfl, rfl⟩, ?_⟩
  show PyData.bool (decide ((is_plan (atD ([(PyData.tuple [PyData.int (0), PyData.int (1), PyData.int (3)]), (PyData.tuple [PyData.int (1), PyData.int (1), PyData.int (1)]), (PyData.tuple [PyData.int (1), PyData.int ((0 - 1)), PyData.int (3)]), (PyData.list ((([1, 1, 3] : List Int)).map PyData.int)), (PyData.tuple [PyData.int (1), PyData.int (1)]), (PyData.tuple [PyData.bool (true), PyData.int (1), PyData.int (3)]), (PyData.none), (PyData.tuple [PyData.int (1), PyData.int (1), PyData.int (10)])] : List D) r78)) = false)) = PyData.bool true
  have c_end : (decide ((is_plan (atD ([(PyData.tuple [PyData.int (0), PyData.int (1), PyData.int (3)]), (PyData.tuple [PyData.int (1), PyData.int (1), PyData.int (1)]), (PyData.tuple [PyData.int (1), PyData.int ((0 - 1)), PyData.int (3)]), (PyData.list ((([1, 1, 3] : List Int)).map PyData.int)), (PyData.tuple [PyData.int (1), PyData.int (1)]), (PyData.tuple [PyData.bool (true), PyData.int (1), PyData.int (3)]), (PyData.none), (PyData.tuple [PyData.int (1), PyData.int (1), PyData.int (10)])] : List D) r78)) = false)) = true := by
    have hr : r78 = 0 ∨ r78 = 1 ∨ r78 = 2 ∨ r78 = 3 ∨ r78 = 4 ∨ r78 = 5 ∨ r78 = 6 ∨ r78 = 7 := by omega
    rcases hr with rfl | rfl | rfl | rfl | rfl | rfl | rfl | rfl <;> rfl
  rw [c_end]
end
theorem all_mk {l : PySem.W.OpenLaw} {w : World} {K : PySem.W.Frag} {h : Heap} {mg : Str → Option Value} {fa : Addr} {e_NoSuch : Addr} (X : K.In h) (Gn : h.Ns mainGlobals mg) (hfa : mg "law" = some (.ref fa))
    (x_NoSuch : ErrIn K "NoSuch" e_NoSuch)
    (z_bool : PySem.W.nsIn K mainGlobals "bool" = some none)
    (z_int : PySem.W.nsIn K mainGlobals "int" = some none)
    (z_isinstance : PySem.W.nsIn K mainGlobals "isinstance" = some none)
    (z_len : PySem.W.nsIn K mainGlobals "len" = some none)
    (z_list : PySem.W.nsIn K mainGlobals "list" = some none)
    (z_range : PySem.W.nsIn K mainGlobals "range" = some none)
    (z_sum : PySem.W.nsIn K mainGlobals "sum" = some none)
    (z_tuple : PySem.W.nsIn K mainGlobals "tuple" = some none)
    {t_MOST_TIMES : Tok} (c_MOST_TIMES : PySem.W.nsIn K mainGlobals "MOST_TIMES" = some (some (.int 9 t_MOST_TIMES)))
    (d_law_draw : DefIn K "_law_draw" s_law_draw)
    (d_law_row : DefIn K "_law_row" s_law_row)
    (d_is_integer : DefIn K "is_integer" s_is_integer)
    (d_is_plan : DefIn K "is_plan" s_is_plan)
    (d_length_of : DefIn K "length_of" s_length_of)
    (d_is_sounding : DefIn K "is_sounding" s_is_sounding)
    (d_row_of : DefIn K "row_of" s_row_of)
    (d_law_refused : DefIn K "_law_refused" s_law_refused)
    (d_end_from : DefIn K "end_from" s_end_from)
    (d_law_end : DefIn K "_law_end" s_law_end)
    (d_start_for : DefIn K "start_for" s_start_for)
    (d_cycles_of : DefIn K "cycles_of" s_cycles_of)
    (d_rests_for : DefIn K "rests_for" s_rests_for)
    (d_first_rest : DefIn K "first_rest" s_first_rest)
    (d_phrases_for : DefIn K "phrases_for" s_phrases_for)
    (d_plans_filling : DefIn K "plans_filling" s_plans_filling)
    (d_strokes_at : DefIn K "strokes_at" s_strokes_at)
    (d_nested : DefIn K "nested" s_nested)
    (d_nested_length : DefIn K "nested_length" s_nested_length)
    (d_plan_of : DefIn K "plan_of" s_plan_of)
    (d_shrinking : DefIn K "shrinking" s_shrinking)
    (d_law : DefIn K "law" s_law)
    : ∃ fd : FuncData, (∀ (s : Shared) (v : Value), BindsTo s fd ⟨[v], []⟩ [("script", v)]) ∧ ∀ base : Heap, K.In base → base.Ns mainGlobals mg → FnOk l.prog w K mg base (L2.CX l.prog w) 5 fa fd ["script"] (spLaw [] K) := by
  cases d_law with
  | mk a lk c k =>
  have e := hfa.symm.trans (PySem.W.mg_of X Gn a)
  cases e
  obtain ⟨fd, Fl, hb⟩ : ∃ fd : FuncData, Fun K "law" "law" s_law fa fd ∧ (∀ (s : Shared) (v : Value), BindsTo s fd ⟨[v], []⟩ [("script", v)]) := ⟨_, fun_mk (st := s_law) lk c k, fun s v => .of_eq rfl⟩
  refine ⟨fd, hb, fun base Xb Gb => ?_⟩
  let G : Dl.Gb := ⟨l.prog, w, K, mg, base, []⟩
  have T : Tx G e_NoSuch := ⟨x_NoSuch.e X Gn, x_NoSuch.exm, PySem.W.mg_none_of X Gn z_bool, PySem.W.mg_none_of X Gn z_int, PySem.W.mg_none_of X Gn z_isinstance, PySem.W.mg_none_of X Gn z_len, PySem.W.mg_none_of X Gn z_list, PySem.W.mg_none_of X Gn z_range, PySem.W.mg_none_of X Gn z_sum, PySem.W.mg_none_of X Gn z_tuple, ⟨_, PySem.W.mg_of X Gn c_MOST_TIMES⟩⟩
  have D_law_draw : DefE G "_law_draw" s_law_draw ["state", "limit"] := d_law_draw.e (G := G) X Gn fun _ _ _ _ _ _ us hl => match us, hl with | [_, _], _ => rfl
  have F_law_draw := fe_law_draw T D_law_draw
  have D_law_row : DefE G "_law_row" s_law_row ["phrase", "rest", "times"] := d_law_row.e (G := G) X Gn fun _ _ _ _ _ _ us hl => match us, hl with | [_, _, _], _ => rfl
  have F_law_row := fe_law_row T D_law_row
  have D_is_integer : DefE G "is_integer" s_is_integer ["value", "low", "high"] := d_is_integer.e (G := G) X Gn fun _ _ _ _ _ _ us hl => match us, hl with | [_, _, _], _ => rfl
  have F_is_integer := fe_is_integer T D_is_integer
  have D_is_plan : DefE G "is_plan" s_is_plan ["value"] := d_is_plan.e (G := G) X Gn fun _ _ _ _ _ _ us hl => match us, hl with | [_], _ => rfl
  have F_is_plan := fe_is_plan T D_is_plan F_is_integer
  have D_length_of : DefE G "length_of" s_length_of ["plan"] := d_length_of.e (G := G) X Gn fun _ _ _ _ _ _ us hl => match us, hl with | [_], _ => rfl
  have F_length_of := fe_length_of T D_length_of
  have D_is_sounding : DefE G "is_sounding" s_is_sounding ["plan", "place"] := d_is_sounding.e (G := G) X Gn fun _ _ _ _ _ _ us hl => match us, hl with | [_, _], _ => rfl
  have F_is_sounding := fe_is_sounding T D_is_sounding F_length_of
  have D_row_of : DefE G "row_of" s_row_of ["plan"] := d_row_of.e (G := G) X Gn fun _ _ _ _ _ _ us hl => match us, hl with | [_], _ => rfl
  have F_row_of := fe_row_of T D_row_of F_length_of F_is_sounding
  have D_law_refused : DefE G "_law_refused" s_law_refused ["plan"] := d_law_refused.e (G := G) X Gn fun _ _ _ _ _ _ us hl => match us, hl with | [_], _ => rfl
  have F_law_refused := fe_law_refused T D_law_refused F_is_sounding F_length_of
  have D_end_from : DefE G "end_from" s_end_from ["plan", "cycle", "start"] := d_end_from.e (G := G) X Gn fun _ _ _ _ _ _ us hl => match us, hl with | [_, _, _], _ => rfl
  have F_end_from := fe_end_from T D_end_from F_length_of
  have D_law_end : DefE G "_law_end" s_law_end ["phrase", "rest", "times", "cycle", "start"] := d_law_end.e (G := G) X Gn fun _ _ _ _ _ _ us hl => match us, hl with | [_, _, _, _, _], _ => rfl
  have F_law_end := fe_law_end T D_law_end F_law_row
  have D_start_for : DefE G "start_for" s_start_for ["plan", "cycle"] := d_start_for.e (G := G) X Gn fun _ _ _ _ _ _ us hl => match us, hl with | [_, _], _ => rfl
  have F_start_for := fe_start_for T D_start_for F_length_of
  have D_cycles_of : DefE G "cycles_of" s_cycles_of ["plan", "cycle"] := d_cycles_of.e (G := G) X Gn fun _ _ _ _ _ _ us hl => match us, hl with | [_, _], _ => rfl
  have F_cycles_of := fe_cycles_of T D_cycles_of F_length_of
  have D_rests_for : DefE G "rests_for" s_rests_for ["phrase", "times", "cycle", "start", "most"] := d_rests_for.e (G := G) X Gn fun _ _ _ _ _ _ us hl => match us, hl with | [_, _, _, _, _], _ => rfl
  have F_rests_for := fe_rests_for T D_rests_for F_end_from
  have D_first_rest : DefE G "first_rest" s_first_rest ["phrase", "times", "cycle", "start"] := d_first_rest.e (G := G) X Gn fun _ _ _ _ _ _ us hl => match us, hl with | [_, _, _, _], _ => rfl
  have F_first_rest := fe_first_rest T D_first_rest F_rests_for
  have D_phrases_for : DefE G "phrases_for" s_phrases_for ["rest", "times", "cycle", "start", "most"] := d_phrases_for.e (G := G) X Gn fun _ _ _ _ _ _ us hl => match us, hl with | [_, _, _, _, _], _ => rfl
  have F_phrases_for := fe_phrases_for T D_phrases_for F_end_from
  have D_plans_filling : DefE G "plans_filling" s_plans_filling ["times", "cycle", "cycles"] := d_plans_filling.e (G := G) X Gn fun _ _ _ _ _ _ us hl => match us, hl with | [_, _, _], _ => rfl
  have F_plans_filling := fe_plans_filling T D_plans_filling
  have D_strokes_at : DefE G "strokes_at" s_strokes_at ["plan", "cycle", "start"] := d_strokes_at.e (G := G) X Gn fun _ _ _ _ _ _ us hl => match us, hl with | [_, _, _], _ => rfl
  have F_strokes_at := fe_strokes_at T D_strokes_at
  have D_nested : DefE G "nested" s_nested ["inner", "rest", "times"] := d_nested.e (G := G) X Gn fun _ _ _ _ _ _ us hl => match us, hl with | [_, _, _], _ => rfl
  have F_nested := fe_nested T D_nested F_row_of
  have D_nested_length : DefE G "nested_length" s_nested_length ["inner", "rest", "times"] := d_nested_length.e (G := G) X Gn fun _ _ _ _ _ _ us hl => match us, hl with | [_, _, _], _ => rfl
  have F_nested_length := fe_nested_length T D_nested_length F_length_of
  have D_plan_of : DefE G "plan_of" s_plan_of ["row", "times"] := d_plan_of.e (G := G) X Gn fun _ _ _ _ _ _ us hl => match us, hl with | [_, _], _ => rfl
  have F_plan_of := fe_plan_of T D_plan_of F_row_of
  have D_shrinking : DefE G "shrinking" s_shrinking ["first", "step", "rest", "cycle"] := d_shrinking.e (G := G) X Gn fun _ _ _ _ _ _ us hl => match us, hl with | [_, _, _, _], _ => rfl
  have F_shrinking := fe_shrinking T D_shrinking
  exact fn_law (G := G) (rest := (defBody s_law).tail) (cd0 := .none) Fl sc_law rfl (nameOk (by kernel_rfl)) (storeOk (by kernel_rfl) (.inl rfl)) (globOk (by kernel_rfl)) T.z_list (fun cd ns => w_law T F_law_draw F_law_row F_is_plan F_length_of F_row_of F_law_refused F_end_from F_law_end F_start_for F_cycles_of F_rests_for F_first_rest F_phrases_for F_plans_filling F_strokes_at F_is_sounding F_nested F_nested_length F_plan_of F_shrinking cd ns)

end K33
open PySem PySem.W PyProof.Rows
set_option maxHeartbeats 0 in
theorem PySem.Challenge.cw_allsounded_k33_phrases_told_three_times_holds : PySem.Challenge.rw_allsounded_k33_phrases_told_three_times.Holds := by
  w_on; o_law; k_head; (case hw => w_witness2)
  k_fill
  refine L2.walk_of (l := PySem.Challenge.rw_allsounded_k33_phrases_told_three_times) (n := 63) (k := 5) (x := "script") (CX := fun w => L2.CX PySem.Challenge.rw_allsounded_k33_phrases_told_three_times.prog w) (sp := fun w => Dl.spLaw [] _) rfl (by decide) rfl ⟨rfl, by decide, by decide⟩ (fun w h Y => PySem.W.kIn_of Y) ?F (fun _ _ a ns hl _ hS => ⟨a, ns, rfl, hS, fun _ h => (by cases h), fun _ => rfl⟩) (fun _ _ _ _ _ h => Dl.cx_no h)
  case F =>
    intro w mg fa h KX G hmg
    refine' K33.all_mk (l := PySem.Challenge.rw_allsounded_k33_phrases_told_three_times) KX G hmg ?x_NoSuch ?z_bool ?z_int ?z_isinstance ?z_len ?z_list ?z_range ?z_sum ?z_tuple ?c_MOST_TIMES ?d_law_draw ?d_law_row ?d_is_integer ?d_is_plan ?d_length_of ?d_is_sounding ?d_row_of ?d_law_refused ?d_end_from ?d_law_end ?d_start_for ?d_cycles_of ?d_rests_for ?d_first_rest ?d_phrases_for ?d_plans_filling ?d_strokes_at ?d_nested ?d_nested_length ?d_plan_of ?d_shrinking ?d_law
    (case x_NoSuch => refine' Dl.ErrIn.mk ?ea ?eq ?ek ?er ?et ?ei ?es; (case ea => k_is); (case eq => k_exc); (case ek => k_is); (case er => k_is); (case et => k_is); (case ei => k_is); (case es => first | rfl | k_is))
    (case z_bool => k_is)
    (case z_int => k_is)
    (case z_isinstance => k_is)
    (case z_len => k_is)
    (case z_list => k_is)
    (case z_range => k_is)
    (case z_sum => k_is)
    (case z_tuple => k_is)
    (case c_MOST_TIMES => k_is)
    (case d_law_draw => refine' Dl.DefIn.mk ?da ?dl ?dc ?dk; (case da => k_is); (case dl => k_is); (case dc => k_is); (case dk => k_is))
    (case d_law_row => refine' Dl.DefIn.mk ?da ?dl ?dc ?dk; (case da => k_is); (case dl => k_is); (case dc => k_is); (case dk => k_is))
    (case d_is_integer => refine' Dl.DefIn.mk ?da ?dl ?dc ?dk; (case da => k_is); (case dl => k_is); (case dc => k_is); (case dk => k_is))
    (case d_is_plan => refine' Dl.DefIn.mk ?da ?dl ?dc ?dk; (case da => k_is); (case dl => k_is); (case dc => k_is); (case dk => k_is))
    (case d_length_of => refine' Dl.DefIn.mk ?da ?dl ?dc ?dk; (case da => k_is); (case dl => k_is); (case dc => k_is); (case dk => k_is))
    (case d_is_sounding => refine' Dl.DefIn.mk ?da ?dl ?dc ?dk; (case da => k_is); (case dl => k_is); (case dc => k_is); (case dk => k_is))
    (case d_row_of => refine' Dl.DefIn.mk ?da ?dl ?dc ?dk; (case da => k_is); (case dl => k_is); (case dc => k_is); (case dk => k_is))
    (case d_law_refused => refine' Dl.DefIn.mk ?da ?dl ?dc ?dk; (case da => k_is); (case dl => k_is); (case dc => k_is); (case dk => k_is))
    (case d_end_from => refine' Dl.DefIn.mk ?da ?dl ?dc ?dk; (case da => k_is); (case dl => k_is); (case dc => k_is); (case dk => k_is))
    (case d_law_end => refine' Dl.DefIn.mk ?da ?dl ?dc ?dk; (case da => k_is); (case dl => k_is); (case dc => k_is); (case dk => k_is))
    (case d_start_for => refine' Dl.DefIn.mk ?da ?dl ?dc ?dk; (case da => k_is); (case dl => k_is); (case dc => k_is); (case dk => k_is))
    (case d_cycles_of => refine' Dl.DefIn.mk ?da ?dl ?dc ?dk; (case da => k_is); (case dl => k_is); (case dc => k_is); (case dk => k_is))
    (case d_rests_for => refine' Dl.DefIn.mk ?da ?dl ?dc ?dk; (case da => k_is); (case dl => k_is); (case dc => k_is); (case dk => k_is))
    (case d_first_rest => refine' Dl.DefIn.mk ?da ?dl ?dc ?dk; (case da => k_is); (case dl => k_is); (case dc => k_is); (case dk => k_is))
    (case d_phrases_for => refine' Dl.DefIn.mk ?da ?dl ?dc ?dk; (case da => k_is); (case dl => k_is); (case dc => k_is); (case dk => k_is))
    (case d_plans_filling => refine' Dl.DefIn.mk ?da ?dl ?dc ?dk; (case da => k_is); (case dl => k_is); (case dc => k_is); (case dk => k_is))
    (case d_strokes_at => refine' Dl.DefIn.mk ?da ?dl ?dc ?dk; (case da => k_is); (case dl => k_is); (case dc => k_is); (case dk => k_is))
    (case d_nested => refine' Dl.DefIn.mk ?da ?dl ?dc ?dk; (case da => k_is); (case dl => k_is); (case dc => k_is); (case dk => k_is))
    (case d_nested_length => refine' Dl.DefIn.mk ?da ?dl ?dc ?dk; (case da => k_is); (case dl => k_is); (case dc => k_is); (case dk => k_is))
    (case d_plan_of => refine' Dl.DefIn.mk ?da ?dl ?dc ?dk; (case da => k_is); (case dl => k_is); (case dc => k_is); (case dk => k_is))
    (case d_shrinking => refine' Dl.DefIn.mk ?da ?dl ?dc ?dk; (case da => k_is); (case dl => k_is); (case dc => k_is); (case dk => k_is))
    (case d_law => refine' Dl.DefIn.mk ?da ?dl ?dc ?dk; (case da => k_is); (case dl => k_is); (case dc => k_is); (case dk => k_is))

#print axioms PySem.Challenge.cw_allsounded_k33_phrases_told_three_times_holds
