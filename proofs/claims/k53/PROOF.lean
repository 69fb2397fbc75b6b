import PyProof.Rows.All
import Wide.All
import OpenK.AllK
import Wide.FinOn
import HandS.ForMost
import HandS.Evl
import HandS.IsInst
import HandS.Flow
import HandS.Style
import HandS.TupAny
import HandS.Deep
import KE.SortData
import KE.LtSeq
import KE.LtData
import PySem.Challenge.RW_plainserial_k53_faults_of_pages
set_option Elab.async false
set_option linter.all false
set_option maxRecDepth 100000
set_option maxHeartbeats 4000000
/-! Pd: pure data over the hand layer: values that stand for PyData, local owned lists, a ghost state. -/
namespace Pd
open PySem PySem.Spec L2

abbrev D := PyData
/-- a text that may be compared, measured -/
def SOk (x : Str) : Prop := x.length ≤ sizeLine ∧ PyData.canLay0 (.str x) = true

/-! ### values that stand for data; what stands never changes -/
mutual
inductive Rp (K : PySem.W.Frag) (H : Hp) : V → D → Prop
  | non : Rp K H .non .none
  | bl (b : Bool) : Rp K H (.bl b) (.bool b)
  | int (i : Int) : Rp K H (.int i) (.int i)
  | str {x : Str} : SOk x → Rp K H (.str x) (.str x)
  | lst {a : Addr} {xs : List V} {ds : List D} : H a = some (.lst xs) → RpA K H xs ds → ds.length ≤ sizeLine → Rp K H (.ref a) (.list ds)
  | tup {a : Addr} {xs : List V} {ds : List D} : SqT K H a xs → RpA K H xs ds → ds.length ≤ sizeLine → Rp K H (.ref a) (.tuple ds)
inductive RpA (K : PySem.W.Frag) (H : Hp) : List V → List D → Prop
  | nil : RpA K H [] []
  | cons {v : V} {vs : List V} {d : D} {ds : List D} : Rp K H v d → RpA K H vs ds → RpA K H (v :: vs) (d :: ds)
end
section
variable {K : PySem.W.Frag} {H H' : Hp}
theorem same_t {a : Addr} {xs : List V} (e : Same H H') (h : SqT K H a xs) : SqT K H' a xs := Evl.ex_t e h
mutual
theorem Rp.mono (e : Same H H') : ∀ {d : D} {v : V}, Rp K H v d → Rp K H' v d
  | .none, _, h => by cases h; exact .non
  | .bool _, _, h => by cases h; exact .bl _
  | .int _, _, h => by cases h; exact .int _
  | .str _, _, h => by cases h with | str h => exact .str h
  | .list ds, _, h => by cases h with | lst a b c => exact .lst (e _ _ a) (RpA.mono e b) c
  | .tuple ds, _, h => by cases h with | tup a b c => exact .tup (same_t e a) (RpA.mono e b) c
  | .dict _, _, h => by cases h
theorem RpA.mono (e : Same H H') : ∀ {ds : List D} {vs : List V}, RpA K H vs ds → RpA K H' vs ds
  | [], _, h => by cases h; exact .nil
  | _ :: _, _, h => by cases h with | cons a b => exact .cons (Rp.mono e a) (RpA.mono e b)
end
mutual
theorem Rp.dp : ∀ {d : D} {v : V}, Rp K H v d → Dp K H v d
  | .none, _, h => by cases h; exact .non
  | .bool _, _, h => by cases h; exact .bl _
  | .int _, _, h => by cases h; exact .int _
  | .str _, _, h => by cases h with | str h => exact .str _
  | .list ds, _, h => by cases h with | lst a b c => exact .lst (SqL.of a) (RpA.dp b)
  | .tuple ds, _, h => by cases h with | tup a b c => exact .tup a (RpA.dp b)
  | .dict _, _, h => by cases h
theorem RpA.dp : ∀ {ds : List D} {vs : List V}, RpA K H vs ds → DpAll K H vs ds
  | [], _, h => by cases h; exact .nil
  | _ :: _, _, h => by cases h with | cons a b => exact .cons (Rp.dp a) (RpA.dp b)
end
mutual
theorem Rp.lay : ∀ {d : D} {v : V}, Rp K H v d → d.canLay0 = true
  | .none, _, h => by simp only [PyData.canLay0]
  | .bool _, _, h => by simp only [PyData.canLay0]
  | .int _, _, h => by simp only [PyData.canLay0]
  | .str _, _, h => by cases h with | str h => exact h.2
  | .list ds, _, h => by cases h with | lst a b c => simp only [PyData.canLay0]; exact RpA.lay b
  | .tuple ds, _, h => by cases h with | tup a b c => simp only [PyData.canLay0]; exact RpA.lay b
  | .dict _, _, h => by cases h
theorem RpA.lay : ∀ {ds : List D} {vs : List V}, RpA K H vs ds → PyData.canLayAll0 ds = true
  | [], _, h => by simp only [PyData.canLayAll0]
  | _ :: _, _, h => by cases h with | cons a b => simp only [PyData.canLayAll0, Rp.lay a, RpA.lay b, Bool.and_self]
end
theorem RpA.len : ∀ {vs : List V} {ds : List D}, RpA K H vs ds → vs.length = ds.length
  | _, _, .nil => rfl
  | _, _, .cons _ b => by rw [List.length_cons, List.length_cons, RpA.len b]
theorem RpA.get : ∀ {vs : List V} {ds : List D} {i : Nat} {d : D}, RpA K H vs ds → ds[i]? = some d → ∃ v, vs[i]? = some v ∧ Rp K H v d
  | _, _, _, _, .nil, e => by simp at e
  | _, _, 0, _, .cons a _, e => by simp at e; subst e; exact ⟨_, rfl, a⟩
  | _, _, i + 1, d, .cons _ b, e => by
    obtain ⟨v, h1, h2⟩ := RpA.get (i := i) (d := d) b (by simpa using e)
    exact ⟨v, by simpa using h1, h2⟩
theorem RpA.getV : ∀ {vs : List V} {ds : List D} {i : Nat} {v : V}, RpA K H vs ds → vs[i]? = some v → ∃ d, ds[i]? = some d ∧ Rp K H v d
  | _, _, _, _, .nil, e => by simp at e
  | _, _, 0, _, .cons a _, e => by simp at e; subst e; exact ⟨_, rfl, a⟩
  | _, _, i + 1, v, .cons _ b, e => by
    obtain ⟨d, h1, h2⟩ := RpA.getV (i := i) (v := v) b (by simpa using e)
    exact ⟨d, by simpa using h1, h2⟩
theorem RpA.append : ∀ {vs us : List V} {ds es : List D}, RpA K H vs ds → RpA K H us es → RpA K H (vs ++ us) (ds ++ es)
  | _, _, _, _, .nil, h => h
  | _, _, _, _, .cons a b, h => .cons a (RpA.append b h)
theorem RpA.one {v : V} {d : D} (h : Rp K H v d) : RpA K H [v] [d] := .cons h .nil
theorem RpA.set {v : V} {d : D} (h : Rp K H v d) : ∀ {vs : List V} {ds : List D} (i : Nat), RpA K H vs ds → RpA K H (vs.set i v) (ds.set i d)
  | _, _, _, .nil => .nil
  | _, _, 0, .cons _ b => .cons h b
  | _, _, i + 1, .cons a b => .cons a (RpA.set h i b)
theorem RpA.take : ∀ {vs : List V} {ds : List D} (n : Nat), RpA K H vs ds → RpA K H (vs.take n) (ds.take n)
  | _, _, 0, _ => .nil
  | _, _, _ + 1, .nil => .nil
  | _, _, n + 1, .cons a b => .cons a (RpA.take n b)
theorem RpA.drop : ∀ {vs : List V} {ds : List D} (n : Nat), RpA K H vs ds → RpA K H (vs.drop n) (ds.drop n)
  | _, _, 0, h => h
  | _, _, _ + 1, .nil => .nil
  | _, _, n + 1, .cons _ b => RpA.drop n b
theorem RpA.reverse : ∀ {vs : List V} {ds : List D}, RpA K H vs ds → RpA K H vs.reverse ds.reverse
  | _, _, .nil => .nil
  | _, _, .cons a b => by rw [List.reverse_cons, List.reverse_cons]; exact (RpA.reverse b).append (.one a)
theorem RpA.flatRep {vs : List V} {ds : List D} (h : RpA K H vs ds) : ∀ n : Nat, RpA K H (List.replicate n vs).flatten (List.replicate n ds).flatten
  | 0 => .nil
  | n + 1 => by rw [List.replicate_succ, List.replicate_succ, List.flatten_cons, List.flatten_cons]; exact h.append (RpA.flatRep h n)
theorem RpA.ints : ∀ {vs : List V} {ns : List Int}, RpA K H vs (ns.map .int) → vs = ns.map V.int
  | _, [], h => by cases h; rfl
  | _, n :: ns, h => by
    cases h with
    | cons a b => cases a; rw [List.map_cons, ← RpA.ints b]
theorem RpA.of_ints : ∀ (ns : List Int), RpA K H (ns.map V.int) (ns.map .int)
  | [] => .nil
  | n :: ns => .cons (.int n) (RpA.of_ints ns)
end

/-! ### a pure step: I what is known to stand, H the heap -/
structure Pst (I H I' H' : Hp) : Prop where
  eI : Same I I'
  eH : Same H H'
  sub : Same I' H'
  ag : ∀ a, H a ≠ none → I' a = I a
section
variable {I H I1 H1 I2 H2 : Hp}
theorem Pst.refl (h : Same I H) : Pst I H I H := ⟨Same.refl _, Same.refl _, h, fun _ _ => rfl⟩
theorem Pst.trans (a : Pst I H I1 H1) (b : Pst I1 H1 I2 H2) : Pst I H I2 H2 := ⟨a.eI.trans b.eI, a.eH.trans b.eH, b.sub, fun x hx => by
  have h1 : H1 x ≠ none := fun z => hx (a.eH.free z)
  rw [b.ag x h1, a.ag x hx]⟩
theorem same_new {H : Hp} {p : Addr} {o : HO} (h : H p = none) : Same H (upd H p o) := Evl.Ex.new h
theorem same_upd {I H : Hp} {p : Addr} {o : HO} (e : Same I H) (h : H p = none) : Same (upd I p o) (upd H p o) := fun b u q => by
  by_cases z : b = p
  · subst z; rw [upd_same] at q ⊢; exact q
  · rw [upd_ne z] at q ⊢; exact e b u q
theorem Pst.new {p : Addr} {o : HO} (e : Same I H) (h : H p = none) : Pst I H (upd I p o) (upd H p o) :=
  ⟨same_new (e.free h), same_new h, same_upd e h, fun a ha => upd_ne fun z => ha (z ▸ h)⟩
end

/-! ### the ghost state -/
structure Gs (G : Type) where
  fp : G → Addr → Prop
  ok : G → Hp → Prop
  root : G → V
  loc : ∀ {g H H'}, (∀ a, fp g a → H' a = H a) → ok g H → ok g H'
  dom : ∀ {g H a}, ok g H → fp g a → H a ≠ none
/-- none -/
def G0 : Gs Unit := ⟨fun _ _ => False, fun _ _ => True, fun _ => .non, fun _ _ => trivial, fun _ h => h.elim⟩

/-- what a slot holds: nothing that is known, data that stands, a list of one's own, the ghost state's root, a value as it is -/
inductive SV where
  | un | sh (d : D) | ow (ds : List D) | st | raw (v : V)
abbrev Env := List SV
abbrev Env.at (env : Env) (i : Nat) : SV := env.getD i .un
/-- the world: what is to be kept, what was known at the entry, what is known to stand, the ghost's places, its root -/
structure Wd where
  H0 : Hp
  I0 : Hp
  I : Hp
  fp : Addr → Prop
  rt : V
abbrev Wd.im (w : Wd) (I : Hp) : Wd := { w with I := I }

def SlotOk (K : PySem.W.Frag) (w : Wd) (σ : St) (H : Hp) (i : Nat) : SV → Prop
  | .un => True
  | .sh d => ∃ v, σ[i]? = some (some v) ∧ Rp K w.I v d
  | .st => σ[i]? = some (some w.rt)
  | .raw v => σ[i]? = some (some v)
  | .ow ds => ∃ p vs, σ[i]? = some (some (.ref p)) ∧ H p = some (.lst vs) ∧ w.I p = none ∧ w.H0 p = none ∧ ¬ w.fp p ∧ RpA K w.I vs ds ∧ ds.length ≤ sizeLine

structure Rel {G : Type} (K : PySem.W.Frag) (S : Gs G) (w : Wd) (env : Env) (g : G) (σ : St) (H : Hp) : Prop where
  e0 : Same w.H0 H
  eI : Same w.I H
  ag : ∀ a o, w.H0 a = some o → w.I a = w.I0 a
  ge : Same w.I0 w.I
  gfp : ∀ a, S.fp g a ↔ w.fp a
  grt : S.root g = w.rt
  gok : S.ok g H
  fI : ∀ a, w.fp a → w.I a = none
  f0 : ∀ a, w.fp a → w.H0 a = none
  len : σ.length = env.length
  slot : ∀ i, SlotOk K w σ H i (env.at i)
  dis : ∀ i j p ds es, i ≠ j → env.at i = .ow ds → env.at j = .ow es → σ[i]? = some (some (.ref p)) → σ[j]? ≠ some (some (.ref p))
section
variable {G : Type} {K : PySem.W.Frag} {S : Gs G} {w : Wd} {env : Env} {g g' : G} {σ : St} {H H' I' : Hp}
theorem SlotOk.pst {i : Nat} {sv : SV} (p : Pst w.I H I' H') (h : SlotOk K w σ H i sv) : SlotOk K (w.im I') σ H' i sv := by
  cases sv with
  | un => trivial
  | sh d => obtain ⟨v, e, r⟩ := h; exact ⟨v, e, r.mono p.eI⟩
  | st => exact h
  | raw v => exact h
  | ow ds =>
    obtain ⟨a, vs, e, hp, hi, h0, hf, r, z⟩ := h
    exact ⟨a, vs, e, p.eH _ _ hp, (p.ag a (by rw [hp]; simp)).trans hi, h0, hf, r.mono p.eI, z⟩
theorem Rel.pst (R : Rel K S w env g σ H) (p : Pst w.I H I' H') : Rel K S (w.im I') env g σ H' where
  e0 := R.e0.trans p.eH
  eI := p.sub
  ag := fun a o e => (p.ag a (by rw [R.e0 a o e]; simp)).trans (R.ag a o e)
  ge := R.ge.trans p.eI
  gfp := R.gfp
  grt := R.grt
  gok := S.loc (fun a ha => by
    cases q : H a with
    | none => exact absurd q (S.dom R.gok ha)
    | some o => exact p.eH a o q) R.gok
  fI := fun a ha => (p.ag a (S.dom R.gok ((R.gfp a).mpr ha))).trans (R.fI a ha)
  f0 := R.f0
  len := R.len
  slot := fun i => (R.slot i).pst p
  dis := R.dis
/-- a new object comes, that nothing knows of -/
theorem Rel.alloc {p : Addr} {o : HO} (R : Rel K S w env g σ H) (h : H p = none) : Rel K S w env g σ (upd H p o) :=
  R.pst (I' := w.I) ⟨Same.refl _, same_new h, R.eI.trans (same_new h), fun _ _ => rfl⟩
/-- p is nobody's -/
structure Nob (w : Wd) (env : Env) (σ : St) (p : Addr) : Prop where
  i : w.I p = none
  h0 : w.H0 p = none
  f : ¬ w.fp p
  o : ∀ i ds, env.at i = .ow ds → σ[i]? ≠ some (some (.ref p))
theorem Rel.nob {p : Addr} (R : Rel K S w env g σ H) (h : H p = none) : Nob w env σ p where
  i := R.eI.free h
  h0 := R.e0.free h
  f := fun z => S.dom R.gok ((R.gfp p).mpr z) h
  o := fun i ds e q => by
    have z := R.slot i
    rw [e] at z
    obtain ⟨a, vs, e1, hp, _⟩ := z
    rw [e1] at q
    cases q
    rw [hp] at h
    cases h
/-- nobody's object is from now on one that stands -/
theorem Rel.freeze {p : Addr} {o : HO} (R : Rel K S w env g σ H) (n : Nob w env σ p) (h : H p = some o) : Rel K S (w.im (upd w.I p o)) env g σ H where
  e0 := R.e0
  eI := fun b u q => by
    have q : upd w.I p o b = some u := q
    by_cases z : b = p
    · subst z; rw [upd_same] at q; rw [h]; exact q
    · rw [upd_ne z] at q; exact R.eI b u q
  ag := fun a u e => by
    have z : a ≠ p := fun z => by rw [z, n.h0] at e; cases e
    exact (upd_ne z).trans (R.ag a u e)
  ge := R.ge.trans (same_new n.i)
  gfp := R.gfp
  grt := R.grt
  gok := R.gok
  fI := fun a ha => by
    have z : a ≠ p := fun z => n.f (z ▸ ha)
    exact (upd_ne z).trans (R.fI a ha)
  f0 := R.f0
  len := R.len
  slot := fun i => by
    have q := R.slot i
    cases e : env.at i with
    | un => trivial
    | sh d => rw [e] at q; obtain ⟨v, e1, r⟩ := q; exact ⟨v, e1, r.mono (same_new n.i)⟩
    | st => rw [e] at q; exact q
    | raw v => rw [e] at q; exact q
    | ow ds =>
      rw [e] at q
      obtain ⟨a, vs, e1, hp, hi, h0, hf, r, z⟩ := q
      have ne : a ≠ p := fun z => n.o i ds e (z ▸ e1)
      exact ⟨a, vs, e1, hp, (upd_ne ne).trans hi, h0, hf, r.mono (same_new n.i), z⟩
  dis := R.dis
end
end Pd

/-! Pd: expressions and tests. -/
namespace Pd
open PySem PySem.Spec L2

/-! ### readings by data -/
abbrev ME (G : Type) := Env → G → Option (D × G)
abbrev ML (G : Type) := Env → G → Option (List D × G)
abbrev MT (G : Type) := Env → G → Option (Bool × G)

def tE {G : Type} (K : PySem.W.Frag) (S : Gs G) (m : ME G) : TE := fun σ H Q => ∃ w env g d g', Rel K S w env g σ H ∧ m env g = some (d, g') ∧
  ∀ v I' H', Same w.I I' → Rel K S (w.im I') env g' σ H' → Rp K I' v d → Q v H'
/-- a new list, that nothing knows of -/
def tF {G : Type} (K : PySem.W.Frag) (S : Gs G) (m : ML G) : TE := fun σ H Q => ∃ w env g ds g', Rel K S w env g σ H ∧ m env g = some (ds, g') ∧
  ∀ p vs I' H', Same w.I I' → Rel K S (w.im I') env g' σ H' → Nob (w.im I') env σ p → H' p = some (.lst vs) → RpA K I' vs ds → ds.length ≤ sizeLine → Q (.ref p) H'
def tT {G : Type} (K : PySem.W.Frag) (S : Gs G) (m : MT G) : TT := fun σ H Q => ∃ w env g b g', Rel K S w env g σ H ∧ m env g = some (b, g') ∧
  ∀ I' H', Same w.I I' → Rel K S (w.im I') env g' σ H' → Q b H'
def tA {G : Type} (K : PySem.W.Frag) (S : Gs G) (m : ML G) : TA := fun σ H Q => ∃ w env g ds g', Rel K S w env g σ H ∧ m env g = some (ds, g') ∧
  ∀ vs I' H', Same w.I I' → Rel K S (w.im I') env g' σ H' → RpA K I' vs ds → Q vs H'

abbrev DE {G : Type} (X : Cx) (S : Gs G) (e : Expr) (m : ME G) : Prop := PE X e (tE X.K S m)
abbrev DF {G : Type} (X : Cx) (S : Gs G) (e : Expr) (m : ML G) : Prop := PE X e (tF X.K S m)
abbrev DT {G : Type} (X : Cx) (S : Gs G) (e : Expr) (m : MT G) : Prop := PT X e (tT X.K S m)
abbrev DW {G : Type} (X : Cx) (S : Gs G) (e : Expr) (m : MT G) : Prop := PW X e (tT X.K S m)
abbrev DA {G : Type} (X : Cx) (S : Gs G) (es : List Expr) (m : ML G) : Prop := PA X es (tA X.K S m)

theorem PE.imp {X : Cx} {e : Expr} {t t' : TE} (h : PE X e t) (i : ∀ σ H Q, t' σ H Q → t σ H Q) : PE X e t' := ⟨fun pins s σ H Q I q => h.run pins s σ H Q I (i _ _ _ q)⟩
theorem PT.imp {X : Cx} {e : Expr} {t t' : TT} (h : PT X e t) (i : ∀ σ H Q, t' σ H Q → t σ H Q) : PT X e t' := ⟨fun pins s σ H Q I q => h.run pins s σ H Q I (i _ _ _ q)⟩
theorem PW.imp {X : Cx} {e : Expr} {t t' : TT} (h : PW X e t) (i : ∀ σ H Q, t' σ H Q → t σ H Q) : PW X e t' := ⟨fun wh pins s σ H Q I q => h.run wh pins s σ H Q I (i _ _ _ q)⟩
theorem PA.imp {X : Cx} {e : List Expr} {t t' : TA} (h : PA X e t) (i : ∀ σ H Q, t' σ H Q → t σ H Q) : PA X e t' := ⟨fun pos pins s σ H Q I q => h.run pos pins s σ H Q I (i _ _ _ q)⟩
theorem PS.imp {X : Cx} {e : Stmt} {t t' : TS} (h : PS X e t) (i : ∀ D σ H, t' D σ H → t D σ H) : PS X e t' := ⟨fun pins s σ H D I q => h.run pins s σ H D I (i _ _ _ q)⟩
theorem PSs.imp {X : Cx} {e : List Stmt} {t t' : TS} (h : PSs X e t) (i : ∀ D σ H, t' D σ H → t D σ H) : PSs X e t' := ⟨fun pins s σ H D I q => h.run pins s σ H D I (i _ _ _ q)⟩

section
variable {G : Type} {X : Cx} {S : Gs G} {a b c e : Expr} {es : List Expr} {pos : Pos} {ma mb mc : ME G} {mt mu : MT G} {ml : ML G}

/-! ### bind, in the order of reading -/
@[reducible] def bD {α β G : Type} (x : Option (α × G)) (f : α → G → Option β) : Option β := match x with
  | some (a, g) => f a g
  | none => none
theorem bD_some {α β : Type} {x : Option (α × G)} {f : α → G → Option β} {y : β} (h : bD x f = some y) : ∃ a g, x = some (a, g) ∧ f a g = some y := by
  cases x with
  | none => cases h
  | some p => obtain ⟨a, g⟩ := p; exact ⟨a, g, rfl, h⟩

/-! ### names, constants -/
def mVar (i : Nat) : ME G := fun env g => match env.at i with
  | .sh d => some (d, g)
  | _ => none
def mC (d : D) : ME G := fun _ g => some (d, g)
theorem te_var {i : Nat} {σ : St} {H : Hp} {Q : VK} (h : tE X.K S (mVar i) σ H Q) : tVar i σ H Q := by
  obtain ⟨w, env, g, d, g', R, e, k⟩ := h
  have q := R.slot i
  unfold mVar at e
  cases z : env.at i with
  | sh d' =>
    rw [z] at e q
    obtain ⟨v, e1, r⟩ := q
    cases e
    exact ⟨v, e1, k v w.I H (Same.refl _) R r⟩
  | _ => rw [z] at e; cases e
theorem de_var (i : Nat) {x : Str} (hN : X.N[i]? = some x := by rfl) (hv : Vis X.env.scope x := by first | exact Or.inl rfl | exact Or.inr (Or.inl rfl) | exact Or.inr (Or.inr rfl)) (hd : (x == ("__debug__" : Str)) = false := by decide)
    (hcd : (x == ("__classdict__" : Str)) = false := by decide) : DE X S (.Name x pos) (mVar i) := PE.imp (pe_var hN hv hd hcd) fun _ _ _ h => te_var h
theorem te_c {v : V} {d : D} (r : ∀ H, Rp X.K H v d) {σ : St} {H : Hp} {Q : VK} (h : tE X.K S (mC d) σ H Q) : tC v σ H Q := by
  obtain ⟨w, env, g, d, g', R, e, k⟩ := h
  cases e
  exact k v w.I H (Same.refl _) R (r _)
theorem de_int {i : Int} {j} : DE X S (.Constant (.int i) j pos) (mC (.int i)) := PE.imp pe_int fun _ _ _ h => te_c (fun _ => .int i) h
theorem de_bl {i : Bool} {j} : DE X S (.Constant (.bool i) j pos) (mC (.bool i)) := PE.imp pe_bl fun _ _ _ h => te_c (fun _ => .bl i) h
theorem de_non {j} : DE X S (.Constant .none j pos) (mC .none) := PE.imp pe_non fun _ _ _ h => te_c (fun _ => .non) h
theorem de_str {x : Str} {j} (h : SOk x := by exact ⟨by decide +kernel, by decide +kernel⟩) : DE X S (.Constant (.str x) j pos) (mC (.str x)) := PE.imp pe_str fun _ _ _ q => te_c (fun _ => .str h) q
/-- a module's constant -/
theorem de_glob {x : Str} {v : V} {u : Value} {d : D} (hg : Gl X x) (hm : X.mg x = some u) (r : RelV v u) (hd : ∀ H, Rp X.K H v d) (hdb : (x == ("__debug__" : Str)) = false := by decide) : DE X S (.Name x pos) (mC d) :=
  PE.imp (pe_glob hg hm r hdb) fun _ _ _ h => te_c hd h

/-! ### operations by values -/
def OpD (K : PySem.W.Frag) (r : R2) (f : D → D → Option D) : Prop := ∀ {I H : Hp} {x y : V} {d e z : D}, Same I H → Rp K I x d → Rp K I y e → f d e = some z →
  ∀ {Q : VK}, (∀ v I' H', Pst I H I' H' → Rp K I' v z → Q v H') → r x y H Q
def UnD (K : PySem.W.Frag) (r : V → Hp → VK → Prop) (f : D → Option D) : Prop := ∀ {I H : Hp} {x : V} {d z : D}, Same I H → Rp K I x d → f d = some z →
  ∀ {Q : VK}, (∀ v I' H', Pst I H I' H' → Rp K I' v z → Q v H') → r x H Q
def CallD (K : PySem.W.Frag) (r : List V → Hp → VK → Prop) (f : List D → Option D) : Prop := ∀ {I H : Hp} {xs : List V} {ds : List D} {z : D}, Same I H → RpA K I xs ds → f ds = some z →
  ∀ {Q : VK}, (∀ v I' H', Pst I H I' H' → Rp K I' v z → Q v H') → r xs H Q
/-- .. a new list -/
def CallF (K : PySem.W.Frag) (r : List V → Hp → VK → Prop) (f : List D → Option (List D)) : Prop := ∀ {I H : Hp} {xs : List V} {ds zs : List D}, Same I H → RpA K I xs ds → f ds = some zs →
  ∀ {Q : VK}, (∀ p vs H', H p = none → Same H H' → H' p = some (.lst vs) → RpA K I vs zs → zs.length ≤ sizeLine → Q (.ref p) H') → r xs H Q
theorem OpD.or {K : PySem.W.Frag} {r r' : R2} {f f' : D → D → Option D} (h : OpD K r f) (h' : OpD K r' f') : OpD K (fun x y H Q => r x y H Q ∨ r' x y H Q) (fun d e => (f d e).orElse fun _ => f' d e) := by
  intro I H x y d e z s p q hz Q k
  have hz : ((f d e).orElse fun _ => f' d e) = some z := hz
  cases hf : f d e with
  | some u => rw [hf] at hz; cases hz; exact .inl (h s p q hf k)
  | none => rw [hf] at hz; exact .inr (h' s p q hz k)
theorem CallD.or {K : PySem.W.Frag} {r r' : List V → Hp → VK → Prop} {f f' : List D → Option D} (h : CallD K r f) (h' : CallD K r' f') : CallD K (fun x H Q => r x H Q ∨ r' x H Q) (fun d => (f d).orElse fun _ => f' d) := by
  intro I H x d z s p hz Q k
  have hz : ((f d).orElse fun _ => f' d) = some z := hz
  cases hf : f d with
  | some u => rw [hf] at hz; cases hz; exact .inl (h s p hf k)
  | none => rw [hf] at hz; exact .inr (h' s p hz k)

def mOp (f : D → D → Option D) (ma mb : ME G) : ME G := fun env g => bD (ma env g) fun x g1 => bD (mb env g1) fun y g2 => (f x y).map (·, g2)
def mUn (f : D → Option D) (ma : ME G) : ME G := fun env g => bD (ma env g) fun x g1 => (f x).map (·, g1)
def mCall (f : List D → Option D) (ml : ML G) : ME G := fun env g => bD (ml env g) fun xs g1 => (f xs).map (·, g1)
def mCallF (f : List D → Option (List D)) (ml : ML G) : ML G := fun env g => bD (ml env g) fun xs g1 => (f xs).map (·, g1)
theorem map_some {α β : Type} {x : Option α} {g g' : β} {z : α} (h : x.map (·, g) = some (z, g')) : x = some z ∧ g' = g := by
  cases x with
  | none => cases h
  | some y => cases h; exact ⟨rfl, rfl⟩
theorem te_op {r : R2} {f : D → D → Option D} (hf : OpD X.K r f) {σ : St} {H : Hp} {Q : VK} (h : tE X.K S (mOp f ma mb) σ H Q) : tOp r (tE X.K S ma) (tE X.K S mb) σ H Q := by
  obtain ⟨w, env, g, d, g', R, e, k⟩ := h
  obtain ⟨x, g1, e1, e⟩ := bD_some e
  obtain ⟨y, g2, e2, e⟩ := bD_some e
  obtain ⟨e3, rfl⟩ := map_some e
  refine ⟨w, env, g, x, g1, R, e1, fun v I1 H1 s1 R1 p1 => ⟨w.im I1, env, g1, y, g', R1, e2, fun u I2 H2 s2 R2 p2 => ?_⟩⟩
  exact hf R2.eI (p1.mono s2) p2 e3 fun v3 I3 H3 ps p3 => k v3 I3 H3 (s1.trans (s2.trans ps.eI)) (R2.pst ps) p3
theorem de_op {op : Operator} {r : R2} {f : D → D → Option D} (ho : OpR X (binaryOp op) r) (hf : OpD X.K r f) (ha : DE X S a ma) (hb : DE X S b mb) : DE X S (.BinOp a op b pos) (mOp f ma mb) :=
  PE.imp (pe_op ho ha hb) fun _ _ _ h => te_op hf h
theorem de_cmp {op : CmpOp} {r : R2} {f : D → D → Option D} (ho : OpR X (compareOp op) r) (hf : OpD X.K r f) (ha : DE X S a ma) (hb : DE X S b mb) (hm : behindInMarks op b = false) : DE X S (.Compare a [op] [b] pos) (mOp f ma mb) :=
  PE.imp (pe_cmpR ho ha hb hm) fun _ _ _ h => te_op hf h
theorem te_un {r : V → Hp → VK → Prop} {f : D → Option D} (hf : UnD X.K r f) {σ : St} {H : Hp} {Q : VK} (h : tE X.K S (mUn f ma) σ H Q) : tUn r (tE X.K S ma) σ H Q := by
  obtain ⟨w, env, g, d, g', R, e, k⟩ := h
  obtain ⟨x, g1, e1, e⟩ := bD_some e
  obtain ⟨e3, rfl⟩ := map_some e
  exact ⟨w, env, g, x, g', R, e1, fun v I1 H1 s1 R1 p1 => hf R1.eI p1 e3 fun v3 I3 H3 ps p3 => k v3 I3 H3 (s1.trans ps.eI) (R1.pst ps) p3⟩
theorem de_un {op : UnaryOp} {r : V → Hp → VK → Prop} {f : D → Option D} (ho : UnR X (unaryOp op) r) (hf : UnD X.K r f) (ha : DE X S a ma) : DE X S (.UnaryOp op a pos) (mUn f ma) :=
  PE.imp (pe_un ho ha) fun _ _ _ h => te_un hf h

/-! ### arguments -/
def mNil : ML G := fun _ g => some ([], g)
def mCons (ma : ME G) (ml : ML G) : ML G := fun env g => bD (ma env g) fun x g1 => bD (ml env g1) fun xs g2 => some (x :: xs, g2)
theorem da_nil : DA X S [] mNil := PA.imp pa_nil fun _ H _ ⟨w, _, _, _, _, R, e, k⟩ => by cases e; exact k [] w.I H (Same.refl _) R .nil
theorem da_cons (ha : DE X S e ma) (hr : DA X S es ml) (hs : starEach (e :: es) X.env = (false, eval e X.env) :: starEach es X.env := by rfl) : DA X S (e :: es) (mCons ma ml) := PA.imp (pa_cons ha hr hs) fun σ H Q h => by
  obtain ⟨w, env, g, d, g', R, e, k⟩ := h
  obtain ⟨x, g1, e1, e⟩ := bD_some e
  obtain ⟨y, g2, e2, e⟩ := bD_some e
  cases e
  exact ⟨w, env, g, x, g1, R, e1, fun v I1 H1 s1 R1 p1 => ⟨w.im I1, env, g1, y, g', R1, e2, fun vs I2 H2 s2 R2 p2 => k (v :: vs) I2 H2 (s1.trans s2) R2 (.cons (p1.mono s2) p2)⟩⟩
theorem te_call {r : List V → Hp → VK → Prop} {f : List D → Option D} (hf : CallD X.K r f) {σ : St} {H : Hp} {Q : VK} (h : tE X.K S (mCall f ml) σ H Q) : tCB r (tA X.K S ml) σ H Q := by
  obtain ⟨w, env, g, d, g', R, e, k⟩ := h
  obtain ⟨x, g1, e1, e⟩ := bD_some e
  obtain ⟨e3, rfl⟩ := map_some e
  exact ⟨w, env, g, x, g', R, e1, fun vs I1 H1 s1 R1 p1 => hf R1.eI p1 e3 fun v3 I3 H3 ps p3 => k v3 I3 H3 (s1.trans ps.eI) (R1.pst ps) p3⟩
theorem de_callB {x : Str} {id : String} {r : List V → Hp → VK → Prop} {f : List D → Option D} {p : Pos} (hc : CallR X (.builtin id) r) (hf : CallD X.K r f) (hg : Gl X x) (hm : X.mg x = none) (hv : bootBuiltins x = some (.builtin id)) (ha : DA X S (e :: es) ml)
    (hn : x ≠ "__name__" := by decide) (hdb : (x == ("__debug__" : Str)) = false := by decide)
    (he : starEach (e :: es) X.env = (false, eval e X.env) :: starEach es X.env := by rfl) (hpl : (backTo pos (starEach es X.env)).any (·.1) = false := by rfl) : DE X S (.Call (.Name x p) (e :: es) [] pos) (mCall f ml) :=
  PE.imp (pe_callB hc hg hm hv ha hn hdb he hpl) fun _ _ _ h => te_call hf h
theorem de_callTy {x : Str} {T : String} {r : List V → Hp → VK → Prop} {f : List D → Option D} {p : Pos} (hc : CallR X (.type T) r) (hf : CallD X.K r f) (hg : Gl X x) (hm : X.mg x = none) (hv : bootBuiltins x = some (.type T)) (ha : DA X S (e :: es) ml)
    (hn : x ≠ "__name__" := by decide) (hdb : (x == ("__debug__" : Str)) = false := by decide)
    (he : starEach (e :: es) X.env = (false, eval e X.env) :: starEach es X.env := by rfl) (hpl : (backTo pos (starEach es X.env)).any (·.1) = false := by rfl) : DE X S (.Call (.Name x p) (e :: es) [] pos) (mCall f ml) :=
  PE.imp (pe_callTy hc hg hm hv ha hn hdb he hpl) fun _ _ _ h => te_call hf h
/-- behind a fresh address nothing that is known has changed -/
theorem Rel.fresh {K : PySem.W.Frag} {w : Wd} {env : Env} {g : G} {σ : St} {H H' : Hp} {p : Addr} (R : Rel K S w env g σ H) (s : Same H H') : Rel K S w env g σ H' :=
  R.pst (I' := w.I) ⟨Same.refl _, s, R.eI.trans s, fun _ _ => rfl⟩
theorem tf_call {r : List V → Hp → VK → Prop} {f : List D → Option (List D)} (hf : CallF X.K r f) {σ : St} {H : Hp} {Q : VK} (h : tF X.K S (mCallF f ml) σ H Q) : tCB r (tA X.K S ml) σ H Q := by
  obtain ⟨w, env, g, d, g', R, e, k⟩ := h
  obtain ⟨x, g1, e1, e⟩ := bD_some e
  obtain ⟨e3, rfl⟩ := map_some e
  exact ⟨w, env, g, x, g', R, e1, fun vs I1 H1 s1 R1 p1 => hf R1.eI p1 e3 fun p us H3 h0 sm hp ra z => k p us I1 H3 s1 (Rel.fresh (p := p) R1 sm) (R1.nob h0) hp ra z⟩
theorem df_callB {x : Str} {id : String} {r : List V → Hp → VK → Prop} {f : List D → Option (List D)} {p : Pos} (hc : CallR X (.builtin id) r) (hf : CallF X.K r f) (hg : Gl X x) (hm : X.mg x = none) (hv : bootBuiltins x = some (.builtin id)) (ha : DA X S (e :: es) ml)
    (hn : x ≠ "__name__" := by decide) (hdb : (x == ("__debug__" : Str)) = false := by decide)
    (he : starEach (e :: es) X.env = (false, eval e X.env) :: starEach es X.env := by rfl) (hpl : (backTo pos (starEach es X.env)).any (·.1) = false := by rfl) : DF X S (.Call (.Name x p) (e :: es) [] pos) (mCallF f ml) :=
  PE.imp (pe_callB hc hg hm hv ha hn hdb he hpl) fun _ _ _ h => tf_call hf h
theorem df_callTy {x : Str} {T : String} {r : List V → Hp → VK → Prop} {f : List D → Option (List D)} {p : Pos} (hc : CallR X (.type T) r) (hf : CallF X.K r f) (hg : Gl X x) (hm : X.mg x = none) (hv : bootBuiltins x = some (.type T)) (ha : DA X S (e :: es) ml)
    (hn : x ≠ "__name__" := by decide) (hdb : (x == ("__debug__" : Str)) = false := by decide)
    (he : starEach (e :: es) X.env = (false, eval e X.env) :: starEach es X.env := by rfl) (hpl : (backTo pos (starEach es X.env)).any (·.1) = false := by rfl) : DF X S (.Call (.Name x p) (e :: es) [] pos) (mCallF f ml) :=
  PE.imp (pe_callTy hc hg hm hv ha hn hdb he hpl) fun _ _ _ h => tf_call hf h

/-! ### a new list as data -/
def mL (ml : ML G) : ME G := fun env g => bD (ml env g) fun ds g1 => some (.list ds, g1)
theorem te_fresh {σ : St} {H : Hp} {Q : VK} (h : tE X.K S (mL ml) σ H Q) : tF X.K S ml σ H Q := by
  obtain ⟨w, env, g, d, g', R, e, k⟩ := h
  obtain ⟨ds, g1, e1, e⟩ := bD_some e
  cases e
  exact ⟨w, env, g, ds, g', R, e1, fun p vs I' H' s' R' n hp ra z => k (.ref p) _ H' (s'.trans (same_new n.i)) (R'.freeze n hp) (.lst upd_same (ra.mono (same_new n.i)) z)⟩
theorem de_fresh (h : DF X S e ml) : DE X S e (mL ml) := PE.imp h fun _ _ _ q => te_fresh q

/-! ### displays -/
def mTup (ml : ML G) : ME G := fun env g => bD (ml env g) fun ds g1 => if ds.length ≤ sizeLine then some (.tuple ds, g1) else none
def mLst (ml : ML G) : ML G := fun env g => bD (ml env g) fun ds g1 => if ds.length ≤ sizeLine then some (ds, g1) else none
theorem de_tup {x1} (h : DA X S es ml) : DE X S (.Tuple es x1 pos) (mTup ml) := PE.imp (pe_tup h) fun σ H Q q => by
  obtain ⟨w, env, g, d, g', R, e, k⟩ := q
  obtain ⟨ds, g1, e1, e⟩ := bD_some e
  split at e
  · rename_i hz
    cases e
    refine ⟨w, env, g, ds, g', R, e1, fun vs I' H' s' R' ra => ⟨by rw [ra.len]; exact hz, fun p hp => ?_⟩⟩
    have ps := Pst.new (p := p) (o := .tup vs) R'.eI hp
    exact k (.ref p) _ _ (s'.trans ps.eI) (R'.pst ps) (.tup (SqT.of upd_same) (ra.mono ps.eI) hz)
  · cases e
theorem df_lst (h : DA X S es ml) : DF X S (.List es pos) (mLst ml) := PE.imp (pe_lst h) fun σ H Q q => by
  obtain ⟨w, env, g, d, g', R, e, k⟩ := q
  obtain ⟨ds, g1, e1, e⟩ := bD_some e
  split at e
  · rename_i hz
    cases e
    refine ⟨w, env, g, d, g', R, e1, fun vs I' H' s' R' ra => ⟨by rw [ra.len]; exact hz, fun p hp => ?_⟩⟩
    exact k p vs I' _ s' (R'.alloc hp) (R'.nob hp) upd_same ra hz
  · cases e

/-! ### subscripts, slices -/
def dIx : D → D → Option D
  | .list ds, .int i => atI ds i
  | .tuple ds, .int i => atI ds i
  | .str x, .int i => (atI x.cps.toList i).map fun c => .str ⟨#[c]⟩
  | _, _ => none
theorem atI_rp {K : PySem.W.Frag} {I : Hp} {vs : List V} {ds : List D} {i : Int} {d : D} (ra : RpA K I vs ds) (h : atI ds i = some d) : ∃ v, atI vs i = some v ∧ Rp K I v d := by
  unfold atI at h ⊢
  rw [ra.len]
  cases e : ixN ds.length i with
  | none => rw [e] at h; cases h
  | some j => rw [e] at h; exact ra.get h
theorem sok_char {x : Str} (h : SOk x) {c : Nat} (hc : c ∈ x.cps.toList) : SOk ⟨#[c]⟩ := by
  refine ⟨by show 1 ≤ sizeLine; decide, ?_⟩
  have h2 := h.2
  simp only [PyData.canLay0] at h2 ⊢
  unfold PyData.strOk at h2 ⊢
  rw [Array.all_eq_true_iff_forall_mem] at h2 ⊢
  intro b hb
  have e : b = c := by simpa using hb
  rw [e]
  exact h2 c (by simpa using hc)
theorem atI_mem {α : Type} {xs : List α} {i : Int} {v : α} (h : atI xs i = some v) : v ∈ xs := by
  unfold atI at h
  cases e : ixN xs.length i with
  | none => rw [e] at h; cases h
  | some j => rw [e] at h; exact List.mem_of_getElem? h
theorem od_ix {K : PySem.W.Frag} : OpD K (rIx K) dIx := by
  intro I H x y d e z s p q hz Q k
  cases p with
  | lst hp ra hl =>
    cases q with
    | int i =>
      obtain ⟨v, e1, r⟩ := atI_rp ra hz
      exact .inl ⟨_, _, i, v, rfl, rfl, SqL.of (s _ _ hp), e1, k v I H (Pst.refl s) r⟩
    | _ => cases hz
  | tup hp ra hl =>
    cases q with
    | int i =>
      obtain ⟨v, e1, r⟩ := atI_rp ra hz
      exact .inr (.inl ⟨_, _, i, v, rfl, rfl, same_t s hp, e1, k v I H (Pst.refl s) r⟩)
    | _ => cases hz
  | str hx =>
    cases q with
    | int i =>
      have hz : (atI _ i).map _ = some z := hz
      obtain ⟨c, e1, rfl⟩ := Option.map_eq_some_iff.mp hz
      exact .inr (.inr ⟨_, i, c, rfl, rfl, hx.1, e1, k _ I H (Pst.refl s) (.str (sok_char hx (atI_mem e1)))⟩)
    | _ => cases hz
  | _ => cases hz
theorem de_ix (ha : DE X S a ma) (hb : DE X S b mb) (hs : PlainIx b := by exact fun _ _ => rfl) : DE X S (.Subscript a b pos) (mOp dIx ma mb) := PE.imp (pe_ix ix_seq ha hb hs) fun _ _ _ h => te_op od_ix h

abbrev MO (G : Type) := Env → G → Option (Option Int × G)
def tO {G : Type} (K : PySem.W.Frag) (S : Gs G) (m : MO G) : TO := fun σ H Q => ∃ w env g b g', Rel K S w env g σ H ∧ m env g = some (b, g') ∧
  ∀ I' H', Same w.I I' → Rel K S (w.im I') env g' σ H' → Q b H'
structure DO {G : Type} (X : Cx) (S : Gs G) (e : Option Expr) (m : MO G) : Prop where
  po : PO X e (tO X.K S m)
def mNo : MO G := fun _ g => some (none, g)
def mPart (ma : ME G) : MO G := fun env g => bD (ma env g) fun x g1 => match x with
  | .int i => some (some i, g1)
  | _ => none
theorem do_none : DO X S none mNo := ⟨⟨fun pins s σ H Q I h => (po_none (X := X)).run pins s σ H Q I (by
  obtain ⟨w, env, g, d, g', R, e, k⟩ := h
  cases e
  exact k w.I H (Same.refl _) R)⟩⟩
theorem do_some (h : DE X S e ma) : DO X S (some e) (mPart ma) := ⟨⟨fun pins s σ H Q I q => (po_some h).run pins s σ H Q I (by
  obtain ⟨w, env, g, d, g', R, e, k⟩ := q
  obtain ⟨x, g1, e1, e⟩ := bD_some e
  cases x with
  | int i =>
    cases e
    exact ⟨w, env, g, _, g', R, e1, fun v I' H' s' R' p => by cases p; exact ⟨i, rfl, k I' H' s' R'⟩⟩
  | _ => cases e)⟩⟩
def cut {α : Type} (xs : List α) (lo hi : Option Int) : List α := (xs.drop (HT.sIx xs.length 0 lo)).take (HT.sIx xs.length xs.length hi - HT.sIx xs.length 0 lo)
theorem cut_rp {K : PySem.W.Frag} {I : Hp} {vs : List V} {ds : List D} (ra : RpA K I vs ds) (lo hi : Option Int) : RpA K I (cutV vs lo hi) (cut ds lo hi) := by
  unfold cutV cut
  rw [ra.len]
  exact (ra.drop _).take _
theorem cut_le {α : Type} (xs : List α) (lo hi : Option Int) : (cut xs lo hi).length ≤ xs.length := by
  unfold cut
  rw [List.length_take, List.length_drop]
  omega
/-- a list's slice -/
def mSlL (ma : ME G) (lo hi : MO G) : ML G := fun env g => bD (ma env g) fun x g1 => bD (lo env g1) fun l g2 => bD (hi env g2) fun h g3 => match x with
  | .list ds => some (cut ds l h, g3)
  | _ => none
theorem df_slice {lo hi : Option Expr} {ml mh : MO G} {p2 : Pos} (ha : DE X S a ma) (hl : DO X S lo ml) (hh : DO X S hi mh) : DF X S (.Subscript a (.Slice lo hi none p2) pos) (mSlL ma ml mh) := PE.imp (pe_slice sl_list ha hl.po hh.po) fun σ H Q q => by
  obtain ⟨w, env, g, d, g', R, e, k⟩ := q
  obtain ⟨x, g1, e1, e⟩ := bD_some e
  obtain ⟨l, g2, e2, e⟩ := bD_some e
  obtain ⟨h, g3, e3, e⟩ := bD_some e
  cases x with
  | list ds =>
    cases e
    refine ⟨w, env, g, _, g1, R, e1, fun v I1 H1 s1 R1 p1 => ⟨w.im I1, env, g1, l, g2, R1, e2, fun I2 H2 s2 R2 => ⟨w.im I2, env, g2, h, g', R2, e3, fun I3 H3 s3 R3 => ?_⟩⟩⟩
    cases p1 with
    | lst hp ra hz =>
      refine ⟨_, _, rfl, SqL.of (R3.eI _ _ (s3 _ _ (s2 _ _ hp))), fun p h0 => ?_⟩
      exact k p _ I3 _ (s1.trans (s2.trans s3)) (R3.alloc h0) (R3.nob h0) upd_same (cut_rp (ra.mono (s2.trans s3)) l h) (Nat.le_trans (cut_le ds l h) hz)
  | _ => cases e
end
end Pd

/-! Pd: tests, calls of defs, statements, loops, comprehensions. -/
namespace Pd
open PySem PySem.Spec L2
section
variable {G : Type} {X : Cx} {S : Gs G} {a b c e : Expr} {es rest : List Expr} {pos : Pos} {ma mb mc : ME G} {mt mu : MT G} {ml : ML G}

/-! ### tests -/
def asB : D → Option Bool
  | .bool b => some b
  | _ => none
def mOpT (f : D → D → Option D) (ma mb : ME G) : MT G := fun env g => bD (ma env g) fun x g1 => bD (mb env g1) fun y g2 => ((f x y).bind asB).map (·, g2)
theorem asB_some {d : Option D} {b : Bool} (h : d.bind asB = some b) : d = some (.bool b) := by
  cases d with
  | none => cases h
  | some x => cases x with
    | bool c => cases h; rfl
    | _ => cases h
theorem dt_cmp {op : CmpOp} {r : R2} {f : D → D → Option D} (ho : OpR X (compareOp op) r) (hf : OpD X.K r f) (ha : DE X S a ma) (hb : DE X S b mb) (hm : behindInMarks op b = false) : DT X S (.Compare a [op] [b] pos) (mOpT f ma mb) :=
  PT.imp (pt_cmpR ho ha hb hm) fun σ H Q h => by
    obtain ⟨w, env, g, d, g', R, e, k⟩ := h
    obtain ⟨x, g1, e1, e⟩ := bD_some e
    obtain ⟨y, g2, e2, e⟩ := bD_some e
    obtain ⟨e3, rfl⟩ := map_some e
    have e4 := asB_some e3
    refine ⟨w, env, g, x, g1, R, e1, fun v I1 H1 s1 R1 p1 => ⟨w.im I1, env, g1, y, g', R1, e2, fun u I2 H2 s2 R2 p2 => ?_⟩⟩
    exact hf R2.eI (p1.mono s2) p2 e4 fun v3 I3 H3 ps p3 => by cases p3; exact ⟨d, rfl, k I3 H3 (s1.trans (s2.trans ps.eI)) (R2.pst ps)⟩
def dTru : D → Option Bool
  | .none => some false
  | .bool b => some b
  | .int i => some (i != 0)
  | .str x => some ((x.length : Int) != 0)
  | .list ds => some (!ds.isEmpty)
  | .tuple ds => some (!ds.isEmpty)
  | .dict _ => none
def mTru (ma : ME G) : MT G := fun env g => bD (ma env g) fun x g1 => (dTru x).map (·, g1)
theorem rpa_empty {K : PySem.W.Frag} {I : Hp} {vs : List V} {ds : List D} (h : RpA K I vs ds) : vs.isEmpty = ds.isEmpty := by cases h <;> rfl
theorem dt_tru (ha : DE X S a ma) (he : ∀ whole, isTrue a X.env whole = (do let v ← whole; standAt a.pos; holding [v] (truthy v)) := by intro _; rfl) : DT X S a (mTru ma) := PT.imp (pt_truth ha he) fun σ H Q h => by
  obtain ⟨w, env, g, d, g', R, e, k⟩ := h
  obtain ⟨x, g1, e1, e⟩ := bD_some e
  obtain ⟨e3, rfl⟩ := map_some e
  refine ⟨w, env, g, x, g', R, e1, fun v I1 H1 s1 R1 p1 => ⟨d, ?_, k I1 H1 s1 R1⟩⟩
  cases p1 with
  | non => cases e3; rfl
  | bl b => cases e3; rfl
  | int i => cases e3; rfl
  | str hx => cases e3; exact ⟨hx.1, rfl⟩
  | lst hp ra hz => cases e3; exact .inl ⟨_, SqL.of (R1.eI _ _ hp), by rw [rpa_empty ra]⟩
  | tup hp ra hz => cases e3; exact .inr (.inl ⟨_, same_t R1.eI hp, by rw [rpa_empty ra]⟩)
def mNot (mt : MT G) : MT G := fun env g => bD (mt env g) fun b g1 => some (!b, g1)
theorem dt_not (h : DT X S a mt) : DT X S (.UnaryOp .Not a pos) (mNot mt) := PT.imp (pt_not h) fun σ H Q q => by
  obtain ⟨w, env, g, d, g', R, e, k⟩ := q
  obtain ⟨x, g1, e1, e⟩ := bD_some e
  cases e
  exact ⟨w, env, g, x, g', R, e1, fun I1 H1 s1 R1 => k I1 H1 s1 R1⟩
def mAnd (mt mu : MT G) : MT G := fun env g => bD (mt env g) fun b g1 => if b = true then mu env g1 else some (false, g1)
def mOr (mt mu : MT G) : MT G := fun env g => bD (mt env g) fun b g1 => if b = true then some (true, g1) else mu env g1
theorem dw_and1 (h : DT X S a mt) : DW X S (.BoolOp .And [a] pos) mt := pw_and1 h
theorem dw_or1 (h : DT X S a mt) : DW X S (.BoolOp .Or [a] pos) mt := pw_or1 h
theorem tt_and {σ : St} {H : Hp} {Q : Bool → Hp → Prop} (q : tT X.K S (mAnd mt mu) σ H Q) : tAnd (tT X.K S mt) (tT X.K S mu) σ H Q := by
  obtain ⟨w, env, g, d, g', R, e, k⟩ := q
  obtain ⟨x, g1, e1, e⟩ := bD_some e
  refine ⟨w, env, g, x, g1, R, e1, fun I1 H1 s1 R1 => ?_⟩
  cases x with
  | true => exact ⟨w.im I1, env, g1, d, g', R1, e, fun I2 H2 s2 R2 => k I2 H2 (s1.trans s2) R2⟩
  | false => cases e; exact k I1 H1 s1 R1
theorem tt_or {σ : St} {H : Hp} {Q : Bool → Hp → Prop} (q : tT X.K S (mOr mt mu) σ H Q) : tOr (tT X.K S mt) (tT X.K S mu) σ H Q := by
  obtain ⟨w, env, g, d, g', R, e, k⟩ := q
  obtain ⟨x, g1, e1, e⟩ := bD_some e
  refine ⟨w, env, g, x, g1, R, e1, fun I1 H1 s1 R1 => ?_⟩
  cases x with
  | false => exact ⟨w.im I1, env, g1, d, g', R1, e, fun I2 H2 s2 R2 => k I2 H2 (s1.trans s2) R2⟩
  | true => cases e; exact k I1 H1 s1 R1
theorem dw_and (ha : DT X S a mt) (hb : DW X S (.BoolOp .And (b :: rest) pos) mu) : DW X S (.BoolOp .And (a :: b :: rest) pos) (mAnd mt mu) := PW.imp (pw_and ha hb) fun _ _ _ => tt_and
theorem dw_or (ha : DT X S a mt) (hb : DW X S (.BoolOp .Or (b :: rest) pos) mu) : DW X S (.BoolOp .Or (a :: b :: rest) pos) (mOr mt mu) := PW.imp (pw_or ha hb) fun _ _ _ => tt_or
/-- .. as values, of bools -/
def mBAnd (ma mb : ME G) : ME G := fun env g => bD (ma env g) fun x g1 => match x with
  | .bool true => mb env g1
  | .bool false => some (.bool false, g1)
  | _ => none
def mBOr (ma mb : ME G) : ME G := fun env g => bD (ma env g) fun x g1 => match x with
  | .bool false => mb env g1
  | .bool true => some (.bool true, g1)
  | _ => none
def mBNot (ma : ME G) : ME G := fun env g => bD (ma env g) fun x g1 => match x with
  | .bool b => some (.bool (!b), g1)
  | _ => none
theorem de_and1 {op} (h : DE X S a ma) : DE X S (.BoolOp op [a] pos) ma := pe_one h
theorem de_and (ha : DE X S a ma) (hb : DE X S (.BoolOp .And (b :: rest) pos) mb) : DE X S (.BoolOp .And (a :: b :: rest) pos) (mBAnd ma mb) := PE.imp (pe_and ha hb) fun σ H Q q => by
  obtain ⟨w, env, g, d, g', R, e, k⟩ := q
  obtain ⟨x, g1, e1, e⟩ := bD_some e
  refine ⟨w, env, g, x, g1, R, e1, fun v I1 H1 s1 R1 p1 => ?_⟩
  cases x with
  | bool x =>
    cases p1
    refine ⟨x, rfl, ?_⟩
    cases x with
    | true => exact ⟨w.im I1, env, g1, d, g', R1, e, fun u I2 H2 s2 R2 p2 => k u I2 H2 (s1.trans s2) R2 p2⟩
    | false => cases e; exact k _ I1 H1 s1 R1 (.bl _)
  | _ => cases e
theorem de_or (ha : DE X S a ma) (hb : DE X S (.BoolOp .Or (b :: rest) pos) mb) : DE X S (.BoolOp .Or (a :: b :: rest) pos) (mBOr ma mb) := PE.imp (pe_or ha hb) fun σ H Q q => by
  obtain ⟨w, env, g, d, g', R, e, k⟩ := q
  obtain ⟨x, g1, e1, e⟩ := bD_some e
  refine ⟨w, env, g, x, g1, R, e1, fun v I1 H1 s1 R1 p1 => ?_⟩
  cases x with
  | bool x =>
    cases p1
    refine ⟨x, rfl, ?_⟩
    cases x with
    | false => exact ⟨w.im I1, env, g1, d, g', R1, e, fun u I2 H2 s2 R2 p2 => k u I2 H2 (s1.trans s2) R2 p2⟩
    | true => cases e; exact k _ I1 H1 s1 R1 (.bl _)
  | _ => cases e
theorem de_not (ha : DE X S a ma) : DE X S (.UnaryOp .Not a pos) (mBNot ma) := PE.imp (pe_not ha) fun σ H Q q => by
  obtain ⟨w, env, g, d, g', R, e, k⟩ := q
  obtain ⟨x, g1, e1, e⟩ := bD_some e
  cases x with
  | bool x =>
    cases e
    exact ⟨w, env, g, _, g', R, e1, fun v I1 H1 s1 R1 p1 => by cases p1; exact ⟨x, rfl, k _ I1 H1 s1 R1 (.bl _)⟩⟩
  | _ => cases e
def mIf {α : Type} (mt : MT G) (ma mb : Env → G → Option (α × G)) : Env → G → Option (α × G) := fun env g => bD (mt env g) fun b g1 => if b = true then ma env g1 else mb env g1
theorem de_if (hc : DT X S c mt) (ha : DE X S a ma) (hb : DE X S b mb) : DE X S (.IfExp c a b pos) (mIf mt ma mb) := PE.imp (pe_ifExp hc ha hb) fun σ H Q q => by
  obtain ⟨w, env, g, d, g', R, e, k⟩ := q
  obtain ⟨x, g1, e1, e⟩ := bD_some e
  refine ⟨w, env, g, x, g1, R, e1, fun I1 H1 s1 R1 => ?_⟩
  cases x with
  | true => exact ⟨w.im I1, env, g1, d, g', R1, e, fun u I2 H2 s2 R2 p2 => k u I2 H2 (s1.trans s2) R2 p2⟩
  | false => exact ⟨w.im I1, env, g1, d, g', R1, e, fun u I2 H2 s2 R2 p2 => k u I2 H2 (s1.trans s2) R2 p2⟩
/-- a < b < c -/
def mChain (f f' : D → D → Option D) (ma mb mc : ME G) : ME G := fun env g => bD (ma env g) fun x g1 => bD (mb env g1) fun y g2 => match f x y with
  | some (.bool true) => bD (mc env g2) fun z g3 => (f' y z).map (·, g3)
  | some (.bool false) => some (.bool false, g2)
  | _ => none
def mChainT (f f' : D → D → Option D) (ma mb mc : ME G) : MT G := fun env g => bD (ma env g) fun x g1 => bD (mb env g1) fun y g2 => match f x y with
  | some (.bool true) => bD (mc env g2) fun z g3 => ((f' y z).bind asB).map (·, g3)
  | some (.bool false) => some (false, g2)
  | _ => none
theorem dt_chain {op op' : CmpOp} {r r' : R2} {f f' : D → D → Option D} (ho : OpR X (compareOp op) r) (hf : OpD X.K r f) (ho' : OpR X (compareOp op') r') (hf' : OpD X.K r' f') (ha : DE X S a ma) (hb : DE X S b mb) (hc : DE X S c mc) (hm : lastMarks [op, op'] [b, c] = false := by rfl) :
    DT X S (.Compare a [op, op'] [b, c] pos) (mChainT f f' ma mb mc) := PT.imp (pt_chain ho ho' ha hb hc hm) fun σ H Q q => by
  obtain ⟨w, env, g, d, g', R, e, k⟩ := q
  obtain ⟨x, g1, e1, e⟩ := bD_some e
  obtain ⟨y, g2, e2, e⟩ := bD_some e
  refine ⟨w, env, g, x, g1, R, e1, fun v I1 H1 s1 R1 p1 => ⟨w.im I1, env, g1, y, g2, R1, e2, fun u I2 H2 s2 R2 p2 => ?_⟩⟩
  cases e3 : f x y with
  | none => rw [e3] at e; cases e
  | some z =>
    rw [e3] at e
    cases z with
    | bool z =>
      refine hf R2.eI (p1.mono s2) p2 e3 fun v3 I3 H3 ps p3 => ?_
      cases p3
      refine ⟨z, rfl, ?_⟩
      cases z with
      | true =>
        obtain ⟨z, g3, e4, e⟩ := bD_some e
        obtain ⟨e5, rfl⟩ := map_some e
        refine ⟨w.im I3, env, g2, z, g', R2.pst ps, e4, fun v4 I4 H4 s4 R4 p4 => ?_⟩
        exact hf' R4.eI ((p2.mono ps.eI).mono s4) p4 (asB_some e5) fun v5 I5 H5 ps5 p5 => by
          cases p5
          exact ⟨d, rfl, k I5 H5 (s1.trans (s2.trans (ps.eI.trans (s4.trans ps5.eI)))) (R4.pst ps5)⟩
      | false => cases e; exact ⟨false, rfl, k I3 H3 (s1.trans (s2.trans ps.eI)) (R2.pst ps)⟩
    | _ => cases e

/-! ### a def of one's own that changes nothing: its promise -/
def spP (K : PySem.W.Frag) (F : List D → Option D) : Sp := fun vs H Q _ => ∃ I ds d, Same I H ∧ RpA K I vs ds ∧ F ds = some d ∧ ∀ v I' H', Pst I H I' H' → Rp K I' v d → Q v H'
theorem de_callP {x : Str} {F : List D → Option D} {p : Pos}
    (run : PE X (.Call (.Name x p) (e :: es) [] pos) (tCall (spP X.K F) [] E0 (tA X.K S ml))) : DE X S (.Call (.Name x p) (e :: es) [] pos) (mCall F ml) := PE.imp run fun σ H Q q => by
  obtain ⟨w, env, g, d, g', R, e, k⟩ := q
  obtain ⟨xs, g1, e1, e⟩ := bD_some e
  obtain ⟨e3, rfl⟩ := map_some e
  refine ⟨w, env, g, xs, g', R, e1, fun vs I1 H1 s1 R1 p1 => ?_⟩
  exact ⟨I1, xs, d, R1.eI, by rw [List.append_nil]; exact p1, e3, fun v I' H' ps r => k v I' H' (s1.trans ps.eI) (R1.pst ps) r⟩
theorem de_callP0 {x : Str} {F : List D → Option D} {p : Pos}
    (run : PE X (.Call (.Name x p) [] [] pos) (tCall (spP X.K F) [] E0 tNil)) : DE X S (.Call (.Name x p) [] [] pos) (mCall F mNil) := PE.imp run fun σ H Q q => by
  obtain ⟨w, env, g, d, g', R, e, k⟩ := q
  have e : (F []).map (·, g) = some (d, g') := e
  obtain ⟨e3, rfl⟩ := map_some e
  exact ⟨w.I, [], d, R.eI, .nil, e3, fun v I' H' ps r => k v I' H' ps.eI (R.pst ps) r⟩
/-- .. whose answer is a new list -/
def spN (K : PySem.W.Frag) (F : List D → Option (List D)) : Sp := fun vs H Q _ => ∃ I ds d, Same I H ∧ RpA K I vs ds ∧ F ds = some d ∧ ∀ p us I' H', Pst I H I' H' → H p = none → I' p = none → H' p = some (.lst us) → RpA K I' us d → d.length ≤ sizeLine → Q (.ref p) H'
theorem df_callN {x : Str} {F : List D → Option (List D)} {p : Pos}
    (run : PE X (.Call (.Name x p) (e :: es) [] pos) (tCall (spN X.K F) [] E0 (tA X.K S ml))) : DF X S (.Call (.Name x p) (e :: es) [] pos) (mCallF F ml) := PE.imp run fun σ H Q q => by
  obtain ⟨w, env, g, d, g', R, e, k⟩ := q
  obtain ⟨xs, g1, e1, e⟩ := bD_some e
  obtain ⟨e3, rfl⟩ := map_some e
  refine ⟨w, env, g, xs, g', R, e1, fun vs I1 H1 s1 R1 p1 => ?_⟩
  exact ⟨I1, xs, d, R1.eI, by rw [List.append_nil]; exact p1, e3, fun p us I' H' ps h0 hi hp ra z => k p us I' H' (s1.trans ps.eI) (R1.pst ps) ⟨hi, (R1.nob h0).h0, (R1.nob h0).f, (R1.nob h0).o⟩ hp ra z⟩
theorem df_callN0 {x : Str} {F : List D → Option (List D)} {p : Pos}
    (run : PE X (.Call (.Name x p) [] [] pos) (tCall (spN X.K F) [] E0 tNil)) : DF X S (.Call (.Name x p) [] [] pos) (mCallF F mNil) := PE.imp run fun σ H Q q => by
  obtain ⟨w, env, g, d, g', R, e, k⟩ := q
  have e : (F []).map (·, g) = some (d, g') := e
  obtain ⟨e3, rfl⟩ := map_some e
  exact ⟨w.I, [], d, R.eI, .nil, e3, fun p us I' H' ps h0 hi hp ra z => k p us I' H' ps.eI (R.pst ps) ⟨hi, (R.nob h0).h0, (R.nob h0).f, (R.nob h0).o⟩ hp ra z⟩

/-! ### a def that is handed the ghost state -/
structure Gst {G : Type} (S : Gs G) (I H : Hp) (g : G) (I' H' : Hp) (g' : G) : Prop where
  eI : Same I I'
  eH : ∀ a o, H a = some o → ¬ S.fp g a → H' a = some o
  sub : Same I' H'
  ag : ∀ a, H a ≠ none → I' a = I a
  fp' : ∀ a, S.fp g' a ↔ S.fp g a
  rt : S.root g' = S.root g
  ok : S.ok g' H'
theorem Rel.gst {K : PySem.W.Frag} {w : Wd} {env : Env} {g g' : G} {σ : St} {H H' I' : Hp} (R : Rel K S w env g σ H) (p : Gst S w.I H g I' H' g') : Rel K S (w.im I') env g' σ H' where
  e0 := fun a o e => p.eH a o (R.e0 a o e) fun z => by
    have := R.f0 a ((R.gfp a).mp z)
    rw [e] at this; cases this
  eI := p.sub
  ag := fun a o e => (p.ag a (by rw [R.e0 a o e]; simp)).trans (R.ag a o e)
  ge := R.ge.trans p.eI
  gfp := fun a => (p.fp' a).trans (R.gfp a)
  grt := p.rt.trans R.grt
  gok := p.ok
  fI := fun a ha => (p.ag a (S.dom R.gok ((R.gfp a).mpr ha))).trans (R.fI a ha)
  f0 := R.f0
  len := R.len
  slot := fun i => by
    have q := R.slot i
    cases e : env.at i with
    | un => trivial
    | sh d => rw [e] at q; obtain ⟨v, e1, r⟩ := q; exact ⟨v, e1, r.mono p.eI⟩
    | st => rw [e] at q; exact q
    | raw v => rw [e] at q; exact q
    | ow ds =>
      rw [e] at q
      obtain ⟨a, vs, e1, hp, hi, h0, hf, r, z⟩ := q
      exact ⟨a, vs, e1, p.eH _ _ hp fun z => hf ((R.gfp a).mp z), (p.ag a (by rw [hp]; simp)).trans hi, h0, hf, r.mono p.eI, z⟩
  dis := R.dis
/-- the arguments of such a def -/
def ArgOk (K : PySem.W.Frag) (I : Hp) (rt : V) (v : V) : SV → Prop
  | .sh d => Rp K I v d
  | .st => v = rt
  | .raw u => v = u
  | _ => False
inductive ArgsOk (K : PySem.W.Frag) (I : Hp) (rt : V) : List V → List SV → Prop
  | nil : ArgsOk K I rt [] []
  | cons {v vs a as} : ArgOk K I rt v a → ArgsOk K I rt vs as → ArgsOk K I rt (v :: vs) (a :: as)
theorem ArgOk.mono {K : PySem.W.Frag} {I I' : Hp} {rt v : V} {a : SV} (e : Same I I') (h : ArgOk K I rt v a) : ArgOk K I' rt v a := by
  cases a with
  | sh d => exact Rp.mono e h
  | _ => exact h
theorem ArgsOk.len {K : PySem.W.Frag} {I : Hp} {rt : V} : ∀ {vs : List V} {as : List SV}, ArgsOk K I rt vs as → vs.length = as.length
  | _, _, .nil => rfl
  | _, _, .cons _ t => by rw [List.length_cons, List.length_cons, ArgsOk.len t]
abbrev MG (G : Type) := Env → G → Option (List SV × G)
def tG {G : Type} (K : PySem.W.Frag) (S : Gs G) (m : MG G) : TA := fun σ H Q => ∃ w env g as g', Rel K S w env g σ H ∧ m env g = some (as, g') ∧
  ∀ vs I' H', Same w.I I' → Rel K S (w.im I') env g' σ H' → ArgsOk K I' w.rt vs as → Q vs H'
abbrev DG {G : Type} (X : Cx) (S : Gs G) (es : List Expr) (m : MG G) : Prop := PA X es (tG X.K S m)
def gNil : MG G := fun _ g => some ([], g)
def gCons (ma : ME G) (ml : MG G) : MG G := fun env g => bD (ma env g) fun x g1 => bD (ml env g1) fun xs g2 => some (.sh x :: xs, g2)
def gConsS (i : Nat) (ml : MG G) : MG G := fun env g => match env.at i with
  | .st => bD (ml env g) fun xs g2 => some (.st :: xs, g2)
  | .raw v => bD (ml env g) fun xs g2 => some (.raw v :: xs, g2)
  | _ => none
theorem dg_nil : DG X S [] gNil := PA.imp pa_nil fun _ H _ ⟨w, _, _, _, _, R, e, k⟩ => by cases e; exact k [] w.I H (Same.refl _) R .nil
theorem dg_cons {mg : MG G} (ha : DE X S e ma) (hr : DG X S es mg) (hs : starEach (e :: es) X.env = (false, eval e X.env) :: starEach es X.env := by rfl) : DG X S (e :: es) (gCons ma mg) := PA.imp (pa_cons ha hr hs) fun σ H Q h => by
  obtain ⟨w, env, g, d, g', R, e, k⟩ := h
  obtain ⟨x, g1, e1, e⟩ := bD_some e
  obtain ⟨y, g2, e2, e⟩ := bD_some e
  cases e
  exact ⟨w, env, g, x, g1, R, e1, fun v I1 H1 s1 R1 p1 => ⟨w.im I1, env, g1, y, g', R1, e2, fun vs I2 H2 s2 R2 p2 => k (v :: vs) I2 H2 (s1.trans s2) R2 (.cons (p1.mono s2) p2)⟩⟩
theorem dg_st {mg : MG G} {i : Nat} {x : Str} {pos' : Pos} (hr : DG X S es mg) (hN : X.N[i]? = some x := by rfl) (hv : Vis X.env.scope x := by first | exact Or.inl rfl | exact Or.inr (Or.inl rfl) | exact Or.inr (Or.inr rfl)) (hd : (x == ("__debug__" : Str)) = false := by decide)
    (hcd : (x == ("__classdict__" : Str)) = false := by decide) (hs : starEach (.Name x pos' :: es) X.env = (false, eval (.Name x pos') X.env) :: starEach es X.env := by rfl) : DG X S (.Name x pos' :: es) (gConsS i mg) := PA.imp (pa_cons (pe_var hN hv hd hcd) hr hs) fun σ H Q h => by
  obtain ⟨w, env, g, d, g', R, e, k⟩ := h
  have q := R.slot i
  unfold gConsS at e
  cases z : env.at i with
  | st =>
    rw [z] at e q
    obtain ⟨y, g2, e2, e⟩ := bD_some e
    cases e
    exact ⟨_, q, w, env, g, y, g', R, e2, fun vs I2 H2 s2 R2 p2 => k _ I2 H2 s2 R2 (.cons rfl p2)⟩
  | raw v =>
    rw [z] at e q
    obtain ⟨y, g2, e2, e⟩ := bD_some e
    cases e
    exact ⟨_, q, w, env, g, y, g', R, e2, fun vs I2 H2 s2 R2 p2 => k _ I2 H2 s2 R2 (.cons rfl p2)⟩
  | _ => rw [z] at e; cases e
def spG {G : Type} (K : PySem.W.Frag) (S : Gs G) (F : List SV → G → Option (D × G)) : Sp := fun vs H Q _ => ∃ I g as d g', Same I H ∧ S.ok g H ∧ (∀ a, S.fp g a → I a = none) ∧ ArgsOk K I (S.root g) vs as ∧ F as g = some (d, g') ∧
  ∀ v I' H', Gst S I H g I' H' g' → Rp K I' v d → Q v H'
def mCallG (F : List SV → G → Option (D × G)) (mg : MG G) : ME G := fun env g => bD (mg env g) fun as g1 => F as g1
theorem de_callG {x : Str} {F : List SV → G → Option (D × G)} {p : Pos} {mg : MG G}
    (run : PE X (.Call (.Name x p) (e :: es) [] pos) (tCall (spG X.K S F) [] E0 (tG X.K S mg))) : DE X S (.Call (.Name x p) (e :: es) [] pos) (mCallG F mg) := PE.imp run fun σ H Q q => by
  obtain ⟨w, env, g, d, g', R, e, k⟩ := q
  obtain ⟨as, g1, e1, e⟩ := bD_some e
  refine ⟨w, env, g, as, g1, R, e1, fun vs I1 H1 s1 R1 p1 => ?_⟩
  refine ⟨I1, g1, as, d, g', R1.eI, R1.gok, fun a ha => R1.fI a ((R1.gfp a).mp ha), ?_, e, fun v I' H' ps r => k v I' H' (s1.trans ps.eI) (R1.gst ps) r⟩
  rw [List.append_nil, R1.grt]
  exact p1
end
end Pd

/-! Pd: statements, loops, comprehensions, defs. -/
namespace Pd
open PySem PySem.Spec L2

/-- how a statement ends: goes on, breaks, continues, returns data, returns a new list -/
inductive Ct where
  | nx | br | co | re (d : D) | rl (ds : List D)
abbrev MS (G : Type) := Env → G → Option (Ct × Env × G)
section
variable {G : Type} {X : Cx} {S : Gs G} {a b c e : Expr} {es rest : List Expr} {pos : Pos} {ma mb mc : ME G} {mt mu : MT G} {ml : ML G} {st : Stmt} {sts body : List Stmt} {m m1 m2 : MS G}
variable {K : PySem.W.Frag} {w : Wd} {env env' : Env} {g g' : G} {σ : St} {H H' I' : Hp}

/-! ### stores to slots -/
theorem at_set (env : Env) (i k : Nat) (sv : SV) : Env.at (env.set i sv) k = if k = i ∧ i < env.length then sv else env.at k := by
  show (env.set i sv).getD k .un = if k = i ∧ i < env.length then sv else env.getD k .un
  rw [List.getD_eq_getElem?_getD, List.getD_eq_getElem?_getD]
  by_cases h : k = i
  · subst h
    by_cases z : k < env.length
    · rw [List.getElem?_set_self z, if_pos ⟨rfl, z⟩]; rfl
    · rw [if_neg (fun q => z q.2), List.set_eq_of_length_le (by omega)]
  · rw [List.getElem?_set_ne (Ne.symm h), if_neg (fun q => h q.1)]
theorem get_set {α : Type} (σ : List (Option α)) (i k : Nat) (v : Option α) : (σ.set i v)[k]? = if k = i ∧ i < σ.length then some v else σ[k]? := by
  by_cases h : k = i
  · subst h
    by_cases z : k < σ.length
    · rw [List.getElem?_set_self z, if_pos ⟨rfl, z⟩]
    · rw [if_neg (fun q => z q.2), List.set_eq_of_length_le (by omega)]
  · rw [List.getElem?_set_ne (Ne.symm h), if_neg (fun q => h q.1)]
/-- a slot of another: the same in both -/
theorem SlotOk.of_eq {σ' : St} {i : Nat} {sv : SV} (e : σ'[i]? = σ[i]?) (h : SlotOk K w σ H i sv) : SlotOk K w σ' H i sv := by
  cases sv with
  | un => trivial
  | sh d => obtain ⟨v, e1, r⟩ := h; exact ⟨v, e.trans e1, r⟩
  | st => exact Eq.trans e h
  | raw v => exact Eq.trans e h
  | ow ds => obtain ⟨p, vs, e1, r⟩ := h; exact ⟨p, vs, e.trans e1, r⟩
theorem Rel.put {i : Nat} {v : V} {sv : SV} (R : Rel K S w env g σ H) (h1 : ∀ k, (σ.set i (some v))[k]? = some (some v) → k = i → SlotOk K w (σ.set i (some v)) H k sv)
    (h2 : ∀ p ds, sv = .ow ds → v = .ref p → ∀ j es, env.at j = .ow es → σ[j]? ≠ some (some (.ref p))) : Rel K S w (env.set i sv) g (σ.set i (some v)) H where
  e0 := R.e0
  eI := R.eI
  ag := R.ag
  ge := R.ge
  gfp := R.gfp
  grt := R.grt
  gok := R.gok
  fI := R.fI
  f0 := R.f0
  len := by rw [List.length_set, List.length_set]; exact R.len
  slot := fun k => by
    rw [at_set]
    by_cases h : k = i ∧ i < env.length
    · rw [if_pos h]
      exact h1 k (by rw [get_set, if_pos ⟨h.1, by rw [R.len]; exact h.2⟩]) h.1
    · rw [if_neg h]
      exact (R.slot k).of_eq (by rw [get_set, if_neg (by rw [R.len]; exact h)])
  dis := fun k j p ds es hkj e1 e2 q1 q2 => by
    rw [at_set] at e1 e2
    rw [get_set, R.len] at q1 q2
    by_cases hk : k = i ∧ i < env.length
    · have hj : ¬ (j = i ∧ i < env.length) := fun z => hkj (hk.1.trans z.1.symm)
      rw [if_pos hk] at e1 q1
      rw [if_neg hj] at e2 q2
      cases q1
      exact h2 p ds e1 rfl j es e2 q2
    · rw [if_neg hk] at e1 q1
      by_cases hj : j = i ∧ i < env.length
      · rw [if_pos hj] at e2 q2
        cases q2
        exact h2 p es e2 rfl k ds e1 q1
      · rw [if_neg hj] at e2 q2
        exact R.dis k j p ds es hkj e1 e2 q1 q2
theorem Rel.putD {i : Nat} {v : V} {d : D} (R : Rel K S w env g σ H) (r : Rp K w.I v d) : Rel K S w (env.set i (.sh d)) g (σ.set i (some v)) H :=
  R.put (fun k e _ => ⟨v, e, r⟩) fun p ds z => nomatch z
theorem Rel.putRaw {i : Nat} {v : V} (R : Rel K S w env g σ H) : Rel K S w (env.set i (.raw v)) g (σ.set i (some v)) H :=
  R.put (fun k e _ => e) fun p ds z => nomatch z
theorem Rel.putL {i : Nat} {p : Addr} {vs : List V} {ds : List D} (R : Rel K S w env g σ H) (n : Nob w env σ p) (hp : H p = some (.lst vs)) (ra : RpA K w.I vs ds) (hz : ds.length ≤ sizeLine) : Rel K S w (env.set i (.ow ds)) g (σ.set i (some (.ref p))) H :=
  R.put (fun k e _ => ⟨p, vs, e, hp, n.i, n.h0, n.f, ra, hz⟩) fun q es z e j fs ej => by cases e; exact n.o j fs ej
/-- a list of one's own is written -/
theorem Rel.setOw {j : Nat} {p : Addr} {vs us : List V} {ds es : List D} (R : Rel K S w env g σ H) (ej : env.at j = .ow ds) (sj : σ[j]? = some (some (.ref p))) (hp : H p = some (.lst vs)) (hi : w.I p = none) (h0 : w.H0 p = none) (hf : ¬ w.fp p)
    (ra : RpA K w.I us es) (hz : es.length ≤ sizeLine) : Rel K S w (env.set j (.ow es)) g σ (upd H p (.lst us)) where
  e0 := fun a o e => by
    have z : a ≠ p := fun z => by rw [z, h0] at e; cases e
    rw [upd_ne z]; exact R.e0 a o e
  eI := fun a o e => by
    have z : a ≠ p := fun z => by rw [z, hi] at e; cases e
    rw [upd_ne z]; exact R.eI a o e
  ag := R.ag
  ge := R.ge
  gfp := R.gfp
  grt := R.grt
  gok := S.loc (fun a ha => by
    have z : a ≠ p := fun z => hf (z ▸ (R.gfp a).mp ha)
    exact upd_ne z) R.gok
  fI := R.fI
  f0 := R.f0
  len := by rw [List.length_set]; exact R.len
  slot := fun k => by
    rw [at_set]
    by_cases h : k = j ∧ j < env.length
    · rw [if_pos h]
      refine ⟨p, us, by rw [h.1]; exact sj, upd_same, hi, h0, hf, ra, hz⟩
    · rw [if_neg h]
      have q := R.slot k
      cases e : env.at k with
      | un => trivial
      | sh d => rw [e] at q; exact q
      | st => rw [e] at q; exact q
      | raw v => rw [e] at q; exact q
      | ow fs =>
        rw [e] at q
        obtain ⟨a, ws, e1, hp', r⟩ := q
        have hkj : j ≠ k := fun z => by
          subst z
          refine h ⟨rfl, ?_⟩
          have := (List.getElem?_eq_some_iff.mp sj).1
          rw [R.len] at this; exact this
        have ne : a ≠ p := fun z => R.dis j k p ds fs hkj ej e sj (z ▸ e1)
        exact ⟨a, ws, e1, (upd_ne ne).trans hp', r⟩
  dis := fun k l q fs hs hkl e1 e2 q1 q2 => by
    have un : ∀ k fs, Env.at (env.set j (.ow es)) k = .ow fs → ∃ gs, env.at k = .ow gs := fun k fs e => by
      rw [at_set] at e
      by_cases h : k = j ∧ j < env.length
      · exact ⟨ds, by rw [h.1]; exact ej⟩
      · rw [if_neg h] at e; exact ⟨fs, e⟩
    obtain ⟨gs, f1⟩ := un k fs e1
    obtain ⟨gs', f2⟩ := un l hs e2
    exact R.dis k l q gs gs' hkl f1 f2 q1 q2
/-- a slot's own list becomes one that stands -/
def Env.frz (env : Env) (j : Nat) : Env := match env.at j with
  | .ow ds => env.set j (.sh (.list ds))
  | _ => env
theorem Rel.frz (j : Nat) (R : Rel K S w env g σ H) : ∃ I', Same w.I I' ∧ Rel K S (w.im I') (env.frz j) g σ H := by
  unfold Env.frz
  cases e : env.at j with
  | ow ds =>
    have q := R.slot j
    rw [e] at q
    obtain ⟨p, vs, e1, hp, hi, h0, hf, ra, hz⟩ := q
    refine ⟨upd w.I p (.lst vs), same_new hi, ?_⟩
    exact {
      e0 := R.e0
      eI := fun b u q => by
        have q : upd w.I p (.lst vs) b = some u := q
        by_cases z : b = p
        · subst z; rw [upd_same] at q; rw [hp]; exact q
        · rw [upd_ne z] at q; exact R.eI b u q
      ag := fun a u e => by
        have z : a ≠ p := fun z => by rw [z, h0] at e; cases e
        exact (upd_ne z).trans (R.ag a u e)
      ge := R.ge.trans (same_new hi)
      gfp := R.gfp
      grt := R.grt
      gok := R.gok
      fI := fun a ha => by
        have z : a ≠ p := fun z => hf (z ▸ ha)
        exact (upd_ne z).trans (R.fI a ha)
      f0 := R.f0
      len := by rw [List.length_set]; exact R.len
      slot := fun k => by
        rw [at_set]
        by_cases h : k = j ∧ j < env.length
        · rw [if_pos h]
          exact ⟨.ref p, by rw [h.1]; exact e1, .lst upd_same (ra.mono (same_new hi)) hz⟩
        · rw [if_neg h]
          have q := R.slot k
          cases e' : env.at k with
          | un => trivial
          | sh d => rw [e'] at q; obtain ⟨v, f1, r⟩ := q; exact ⟨v, f1, r.mono (same_new hi)⟩
          | st => rw [e'] at q; exact q
          | raw v => rw [e'] at q; exact q
          | ow fs =>
            rw [e'] at q
            obtain ⟨a, ws, f1, hp', hi', h0', hf', r, z⟩ := q
            have hkj : j ≠ k := fun z => by
              subst z
              refine h ⟨rfl, ?_⟩
              have := (List.getElem?_eq_some_iff.mp e1).1
              rw [R.len] at this; exact this
            have ne : a ≠ p := fun z => R.dis j k p ds fs hkj e e' e1 (z ▸ f1)
            exact ⟨a, ws, f1, hp', (upd_ne ne).trans hi', h0', hf', r.mono (same_new hi), z⟩
      dis := fun k l q fs hs hkl e1 e2 q1 q2 => by
        have un : ∀ k fs, Env.at (env.set j (.sh (.list ds))) k = .ow fs → env.at k = .ow fs := fun k fs e => by
          rw [at_set] at e
          by_cases h : k = j ∧ j < env.length
          · rw [if_pos h] at e; cases e
          · rw [if_neg h] at e; exact e
        exact R.dis k l q fs hs hkl (un k fs e1) (un l hs e2) q1 q2 }
  | _ => exact ⟨w.I, Same.refl _, R⟩

/-! ### a statement's reading -/
def Post {G : Type} (K : PySem.W.Frag) (S : Gs G) (w : Wd) (env' : Env) (g' : G) (D : Ends) : Ct → Prop
  | .nx => ∀ σ' I' H', Same w.I I' → Rel K S (w.im I') env' g' σ' H' → D.nx σ' H'
  | .br => ∀ σ' I' H', Same w.I I' → Rel K S (w.im I') env' g' σ' H' → D.bk σ' H'
  | .co => ∀ σ' I' H', Same w.I I' → Rel K S (w.im I') env' g' σ' H' → D.ct σ' H'
  | .re d => ∀ v σ' I' H', Same w.I I' → Rel K S (w.im I') env' g' σ' H' → Rp K I' v d → D.rt v H'
  | .rl ds => ∀ p vs σ' I' H', Same w.I I' → Rel K S (w.im I') env' g' σ' H' → Nob (w.im I') env' σ' p → H' p = some (.lst vs) → RpA K I' vs ds → ds.length ≤ sizeLine → D.rt (.ref p) H'
theorem Post.mono {D : Ends} {c : Ct} (s : Same w.I I') (h : Post K S w env' g' D c) : Post K S (w.im I') env' g' D c := by
  cases c with
  | nx => exact fun σ' I2 H2 s2 R => h σ' I2 H2 (s.trans s2) R
  | br => exact fun σ' I2 H2 s2 R => h σ' I2 H2 (s.trans s2) R
  | co => exact fun σ' I2 H2 s2 R => h σ' I2 H2 (s.trans s2) R
  | re d => exact fun v σ' I2 H2 s2 R => h v σ' I2 H2 (s.trans s2) R
  | rl ds => exact fun p vs σ' I2 H2 s2 R => h p vs σ' I2 H2 (s.trans s2) R
def tS {G : Type} (K : PySem.W.Frag) (S : Gs G) (m : MS G) : TS := fun D σ H => ∃ w env g c env' g', Rel K S w env g σ H ∧ m env g = some (c, env', g') ∧ Post K S w env' g' D c
abbrev DS {G : Type} (X : Cx) (S : Gs G) (st : Stmt) (m : MS G) : Prop := PS X st (tS X.K S m)
abbrev DB {G : Type} (X : Cx) (S : Gs G) (st : List Stmt) (m : MS G) : Prop := PSs X st (tS X.K S m)

def mSkip : MS G := fun env g => some (.nx, env, g)
def mSeq (m1 m2 : MS G) : MS G := fun env g => match m1 env g with
  | some (.nx, env1, g1) => m2 env1 g1
  | x => x
theorem db_nil : DB X S [] mSkip := PSs.imp pss_nil fun D σ H ⟨w, env, g, c, env', g', R, e, k⟩ => by
  cases e
  exact k σ w.I H (Same.refl _) R
theorem ts_seq {D : Ends} (h : tS X.K S (mSeq m1 m2) D σ H) : tSeq (tS X.K S m1) (tS X.K S m2) D σ H := by
  obtain ⟨w, env, g, c, env', g', R, e, k⟩ := h
  unfold mSeq at e
  cases e1 : m1 env g with
  | none => rw [e1] at e; cases e
  | some r =>
    obtain ⟨c1, env1, g1⟩ := r
    rw [e1] at e
    refine ⟨w, env, g, c1, env1, g1, R, e1, ?_⟩
    cases c1 with
    | nx => exact fun σ' I' H' s' R' => ⟨w.im I', env1, g1, c, env', g', R', e, k.mono s'⟩
    | _ => cases e; exact k
theorem db_cons (h1 : DS X S st m1) (h2 : DB X S sts m2) : DB X S (st :: sts) (mSeq m1 m2) := PSs.imp (pss_cons h1 h2) fun _ _ _ h => ts_seq h
theorem db_one (h : DS X S st m) : DB X S [st] m := pss_one h
def mBreak : MS G := fun env g => some (.br, env, g)
def mCont : MS G := fun env g => some (.co, env, g)
theorem ds_pass : DS X S (.Pass pos) mSkip := PS.imp ps_pass fun D σ H ⟨w, env, g, c, env', g', R, e, k⟩ => by cases e; exact k σ w.I H (Same.refl _) R
theorem ds_break : DS X S (.Break pos) mBreak := PS.imp ps_break fun D σ H ⟨w, env, g, c, env', g', R, e, k⟩ => by cases e; exact k σ w.I H (Same.refl _) R
theorem ds_continue : DS X S (.Continue pos) mCont := PS.imp ps_continue fun D σ H ⟨w, env, g, c, env', g', R, e, k⟩ => by cases e; exact k σ w.I H (Same.refl _) R
def mDrop (ma : ME G) : MS G := fun env g => bD (ma env g) fun _ g1 => some (.nx, env, g1)
theorem ds_expr (h : DE X S e ma) (hs : swapsWith e none pos.line X.env = pure false := by rfl) : DS X S (.Expr e pos) (mDrop ma) := PS.imp (ps_expr h hs) fun D σ H ⟨w, env, g, c, env', g', R, e, k⟩ => by
  obtain ⟨x, g1, e1, e⟩ := bD_some e
  cases e
  exact ⟨w, env, g, x, g', R, e1, fun v I' H' s' R' _ => k σ I' H' s' R'⟩
def mRet (ma : ME G) : MS G := fun env g => bD (ma env g) fun d g1 => some (.re d, env, g1)
theorem ds_ret (h : DE X S e ma) : DS X S (.Return (some e) pos) (mRet ma) := PS.imp (ps_ret h) fun D σ H ⟨w, env, g, c, env', g', R, e, k⟩ => by
  obtain ⟨x, g1, e1, e⟩ := bD_some e
  cases e
  exact ⟨w, env, g, x, g', R, e1, fun v I' H' s' R' p => k v σ I' H' s' R' p⟩
def mRetN : MS G := fun env g => some (.re .none, env, g)
theorem ds_retN : DS X S (.Return none pos) mRetN := PS.imp ps_retN fun D σ H ⟨w, env, g, c, env', g', R, e, k⟩ => by
  cases e
  exact k .non σ w.I H (Same.refl _) R .non
def mRetF (ml : ML G) : MS G := fun env g => bD (ml env g) fun ds g1 => some (.rl ds, env, g1)
theorem ds_retF (h : DF X S e ml) : DS X S (.Return (some e) pos) (mRetF ml) := PS.imp (ps_ret h) fun D σ H ⟨w, env, g, c, env', g', R, e, k⟩ => by
  obtain ⟨x, g1, e1, e⟩ := bD_some e
  cases e
  exact ⟨w, env, g, x, g', R, e1, fun p vs I' H' s' R' n hp ra hz => k p vs σ I' H' s' R' n hp ra hz⟩
/-- a slot that is not asked any more -/
theorem Rel.forget {i : Nat} (R : Rel K S w env g σ H) : Rel K S w (env.set i .un) g σ H where
  e0 := R.e0
  eI := R.eI
  ag := R.ag
  ge := R.ge
  gfp := R.gfp
  grt := R.grt
  gok := R.gok
  fI := R.fI
  f0 := R.f0
  len := by rw [List.length_set]; exact R.len
  slot := fun k => by
    rw [at_set]
    by_cases h : k = i ∧ i < env.length
    · rw [if_pos h]; trivial
    · rw [if_neg h]; exact R.slot k
  dis := fun k j p ds es hkj e1 e2 q1 q2 => by
    rw [at_set] at e1 e2
    by_cases hk : k = i ∧ i < env.length
    · rw [if_pos hk] at e1; cases e1
    · by_cases hj : j = i ∧ i < env.length
      · rw [if_pos hj] at e2; cases e2
      · rw [if_neg hk] at e1; rw [if_neg hj] at e2
        exact R.dis k j p ds es hkj e1 e2 q1 q2
/-- return a list of one's own -/
def mRetOw (j : Nat) : MS G := fun env g => match env.at j with
  | .ow ds => some (.rl ds, env.set j .un, g)
  | .sh d => some (.re d, env, g)
  | _ => none
theorem ds_retOw (j : Nat) {x : Str} {pos' : Pos} (hN : X.N[j]? = some x := by rfl) (hv : Vis X.env.scope x := by first | exact Or.inl rfl | exact Or.inr (Or.inl rfl) | exact Or.inr (Or.inr rfl)) (hd : (x == ("__debug__" : Str)) = false := by decide)
    (hcd : (x == ("__classdict__" : Str)) = false := by decide) : DS X S (.Return (some (.Name x pos')) pos) (mRetOw j) := PS.imp (ps_ret (pe_var hN hv hd hcd)) fun D σ H ⟨w, env, g, c, env', g', R, e, k⟩ => by
  have q := R.slot j
  unfold mRetOw at e
  cases z : env.at j with
  | ow ds =>
    rw [z] at e q
    cases e
    obtain ⟨p, vs, e1, hp, hi, h0, hf, ra, hz⟩ := q
    have jl : j < env.length := by rw [← R.len]; exact (List.getElem?_eq_some_iff.mp e1).1
    refine ⟨_, e1, k p vs σ w.I H (Same.refl _) R.forget ⟨hi, h0, hf, fun i es ei si => ?_⟩ hp ra hz⟩
    rw [at_set] at ei
    by_cases hij : i = j ∧ j < env.length
    · rw [if_pos hij] at ei; cases ei
    · rw [if_neg hij] at ei
      exact R.dis j i p ds es (fun q => hij ⟨q.symm, jl⟩) z ei e1 si
  | sh d =>
    rw [z] at e q
    cases e
    obtain ⟨v, e1, r⟩ := q
    exact ⟨v, e1, k v σ w.I H (Same.refl _) R r⟩
  | _ => rw [z] at e; cases e
def mIfS (mt : MT G) (m1 m2 : MS G) : MS G := fun env g => bD (mt env g) fun b g1 => if b = true then m1 env g1 else m2 env g1
theorem ds_if {sts2 : List Stmt} (hc : DT X S c mt) (h1 : DB X S sts m1) (h2 : DB X S sts2 m2) : DS X S (.If c sts sts2 pos) (mIfS mt m1 m2) := PS.imp (ps_if hc h1 h2) fun D σ H ⟨w, env, g, c, env', g', R, e, k⟩ => by
  obtain ⟨x, g1, e1, e⟩ := bD_some e
  refine ⟨w, env, g, x, g1, R, e1, fun I' H' s' R' => ?_⟩
  cases x with
  | true => exact ⟨w.im I', env, g1, c, env', g', R', e, k.mono s'⟩
  | false => exact ⟨w.im I', env, g1, c, env', g', R', e, k.mono s'⟩
/-- a list of one's own is handed out from here on -/
def mFrz (j : Nat) (m : MS G) : MS G := fun env g => m (env.frz j) g
theorem ds_frz (j : Nat) (h : DS X S st m) : DS X S st (mFrz j m) := PS.imp h fun D σ H ⟨w, env, g, c, env', g', R, e, k⟩ => by
  obtain ⟨I', s', R'⟩ := R.frz j
  exact ⟨w.im I', env.frz j, g, c, env', g', R', e, k.mono s'⟩

/-! ### x = e -/
def mSet (i : Nat) (ma : ME G) : MS G := fun env g => bD (ma env g) fun d g1 => some (.nx, env.set i (.sh d), g1)
def mSetF (i : Nat) (ml : ML G) : MS G := fun env g => bD (ml env g) fun ds g1 => some (.nx, env.set i (.ow ds), g1)
theorem ts_set {i : Nat} {D : Ends} (h : tS X.K S (mSet i ma) D σ H) : tAsg (tE X.K S ma) (gName i) D σ H := by
  obtain ⟨w, env, g, c, env', g', R, e, k⟩ := h
  obtain ⟨x, g1, e1, e⟩ := bD_some e
  cases e
  exact ⟨w, env, g, x, g', R, e1, fun v I' H' s' R' p => k _ I' H' s' (R'.putD p)⟩
theorem ts_setF {i : Nat} {D : Ends} (h : tS X.K S (mSetF i ml) D σ H) : tAsg (tF X.K S ml) (gName i) D σ H := by
  obtain ⟨w, env, g, c, env', g', R, e, k⟩ := h
  obtain ⟨x, g1, e1, e⟩ := bD_some e
  cases e
  exact ⟨w, env, g, x, g', R, e1, fun p vs I' H' s' R' n hp ra hz => k _ I' H' s' (R'.putL n hp ra hz)⟩
theorem ds_set {i : Nat} {x : Str} {pos' : Pos} (hN : X.N.Nodup) (hi : X.N[i]? = some x) (hx : Loc X.env.scope x) (he : DE X S e ma) (hs : swapsWith e (some (.Name x pos')) pos.line X.env = pure false := by rfl)
    (hf : X.fn x = true ∨ X.env.scope.names.lookup x = some .local := by first | exact .inl rfl | exact .inr rfl | assumption) : DS X S (.Assign [.Name x pos'] e pos) (mSet i ma) := PS.imp (ps_set hN hi hx he hs hf) fun _ _ _ h => ts_set h
theorem ds_setF {i : Nat} {x : Str} {pos' : Pos} (hN : X.N.Nodup) (hi : X.N[i]? = some x) (hx : Loc X.env.scope x) (he : DF X S e ml) (hs : swapsWith e (some (.Name x pos')) pos.line X.env = pure false := by rfl)
    (hf : X.fn x = true ∨ X.env.scope.names.lookup x = some .local := by first | exact .inl rfl | exact .inr rfl | assumption) : DS X S (.Assign [.Name x pos'] e pos) (mSetF i ml) := PS.imp (ps_set hN hi hx he hs hf) fun _ _ _ h => ts_setF h

/-! ### targets -/
abbrev MTg (G : Type) := D → Env → G → Option (Env × G)
def tTg {G : Type} (K : PySem.W.Frag) (S : Gs G) (idx : List Nat) (b : MTg G) : TG := fun v σ H Q => ∃ w env g d env' g', Rel K S w env g σ H ∧ Rp K w.I v d ∧ b d env g = some (env', g') ∧
  ∀ σ' I' H', Same w.I I' → Rel K S (w.im I') env' g' σ' H' → σ'.length = σ.length → (∀ k, k ∉ idx → σ'[k]? = σ[k]?) → Q σ' H'
structure DTg {G : Type} (X : Cx) (S : Gs G) (tg : Expr) (idx : List Nat) (b : MTg G) : Prop where
  pg : PG X tg (tTg X.K S idx b)
  ok : ∀ d env g env' g', b d env g = some (env', g') → env'.length = env.length ∧ ∀ k, k ∉ idx → env'.at k = env.at k
def bName (i : Nat) : MTg G := fun d env g => some (env.set i (.sh d), g)
theorem PG.imp {tg : Expr} {t t' : TG} (h : PG X tg t) (i : ∀ v σ H Q, t' v σ H Q → t v σ H Q) : PG X tg t' := ⟨fun pins s σ H v u Q I r q => h.run pins s σ H v u Q I r (i _ _ _ _ q)⟩
theorem dg_name {i : Nat} {x : Str} (hN : X.N.Nodup) (hi : X.N[i]? = some x) (hx : Loc X.env.scope x) (hf : X.fn x = true ∨ X.env.scope.names.lookup x = some .local := by first | exact .inl rfl | exact .inr rfl | assumption) : DTg X S (.Name x pos) [i] (bName i) where
  pg := PG.imp (pg_name hN hi hx hf) fun v σ H Q ⟨w, env, g, d, env', g', R, p, e, k⟩ => by
    cases e
    exact k _ w.I _ (Same.refl _) (R.putD p) (by rw [List.length_set]) fun j hj => by rw [get_set, if_neg (fun z => hj (by simp [z.1]))]
  ok := fun d env g env' g' e => by
    cases e
    exact ⟨by rw [List.length_set], fun k hk => by rw [at_set, if_neg (fun z => hk (by simp [z.1]))]⟩
abbrev MTgs (G : Type) := List D → Env → G → Option (Env × G)
def tTgs {G : Type} (K : PySem.W.Frag) (S : Gs G) (idx : List Nat) (b : MTgs G) : TGs := fun vs σ H Q => ∃ w env g ds env' g', Rel K S w env g σ H ∧ RpA K w.I vs ds ∧ b ds env g = some (env', g') ∧
  ∀ σ' I' H', Same w.I I' → Rel K S (w.im I') env' g' σ' H' → σ'.length = σ.length → (∀ k, k ∉ idx → σ'[k]? = σ[k]?) → Q σ' H'
structure DTgs {G : Type} (X : Cx) (S : Gs G) (tgs : List Expr) (idx : List Nat) (b : MTgs G) : Prop where
  pg : PGs X tgs (tTgs X.K S idx b)
  ok : ∀ d env g env' g', b d env g = some (env', g') → env'.length = env.length ∧ ∀ k, k ∉ idx → env'.at k = env.at k
theorem PGs.imp {tg : List Expr} {t t' : TGs} (h : PGs X tg t) (i : ∀ v σ H Q, t' v σ H Q → t v σ H Q) : PGs X tg t' := ⟨fun pins s σ H v u Q I r q => h.run pins s σ H v u Q I r (i _ _ _ _ q)⟩
def bNil : MTgs G := fun ds env g => match ds with
  | [] => some (env, g)
  | _ => none
def bCons (b : MTg G) (bs : MTgs G) : MTgs G := fun ds env g => match ds with
  | d :: r => (b d env g).bind fun q => bs r q.1 q.2
  | _ => none
theorem dgs_nil : DTgs X S [] [] bNil where
  pg := PGs.imp pgs_nil fun v σ H Q ⟨w, env, g, d, env', g', R, p, e, k⟩ => by
    cases p with
    | nil => cases e; exact ⟨rfl, k σ w.I H (Same.refl _) R rfl fun _ _ => rfl⟩
    | cons _ _ => cases e
  ok := fun d env g env' g' e => by
    cases d with
    | nil => cases e; exact ⟨rfl, fun _ _ => rfl⟩
    | cons _ _ => cases e
theorem dgs_cons {i1 i2 : List Nat} {b1 : MTg G} {b2 : MTgs G} (h1 : DTg X S e i1 b1) (h2 : DTgs X S es i2 b2) (hs : (assignEach (e :: es) X.env).map (·.2) = assign e X.env :: (assignEach es X.env).map (·.2) := by rfl) : DTgs X S (e :: es) (i1 ++ i2) (bCons b1 b2) where
  pg := PGs.imp (pgs_cons h1.pg h2.pg hs) fun v σ H Q ⟨w, env, g, d, env', g', R, p, e, k⟩ => by
    cases p with
    | nil => cases e
    | cons p ps =>
      obtain ⟨⟨env1, g1⟩, e1, e⟩ := Option.bind_eq_some_iff.mp e
      refine ⟨_, _, rfl, w, env, g, _, env1, g1, R, p, e1, fun σ1 I1 H1 s1 R1 l1 f1 => ⟨w.im I1, env1, g1, _, env', g', R1, ps.mono s1, e, fun σ2 I2 H2 s2 R2 l2 f2 => k σ2 I2 H2 (s1.trans s2) R2 (l2.trans l1) fun j hj => ?_⟩⟩
      rw [List.mem_append] at hj
      exact (f2 j fun z => hj (.inr z)).trans (f1 j fun z => hj (.inl z))
  ok := fun d env g env' g' e => by
    cases d with
    | nil => cases e
    | cons d ds =>
      obtain ⟨⟨env1, g1⟩, e1, e⟩ := Option.bind_eq_some_iff.mp e
      have h3 := h1.ok _ _ _ _ _ e1
      have h4 := h2.ok _ _ _ _ _ e
      refine ⟨h4.1.trans h3.1, fun k hk => ?_⟩
      rw [List.mem_append] at hk
      exact (h4.2 k fun z => hk (.inr z)).trans (h3.2 k fun z => hk (.inl z))
def bTup (n : Nat) (bs : MTgs G) : MTg G := fun d env g => match d with
  | .tuple ds => if ds.length = n then bs ds env g else none
  | _ => none
theorem dg_tup {k n : Nat} {idx : List Nat} {bs : MTgs G} (hc : X.calm = true) (h : DTgs X S es idx bs) (hn : (assignEach es X.env).length = n := by rfl) (hst : (assignEach es X.env).findIdx? (·.1) = none := by rfl) : DTg X S (.Tuple es k pos) idx (bTup n bs) where
  pg := PG.imp (pg_tup hc h.pg hn hst) fun v σ H Q ⟨w, env, g, d, env', g', R, p, e, k⟩ => by
    cases p with
    | tup hp ra hz =>
      have e : (if _ = n then _ else none) = some (env', g') := e
      split at e
      · rename_i hl
        exact ⟨_, _, rfl, same_t R.eI hp, by rw [ra.len]; exact hl, w, env, g, _, env', g', R, ra, e, k⟩
      · cases e
    | _ => cases e
  ok := fun d env g env' g' e => by
    cases d with
    | tuple ds =>
      have e : (if _ = n then _ else none) = some (env', g') := e
      split at e
      · exact h.ok _ _ _ _ _ e
      · cases e
    | _ => cases e
/-- a, b = c, d of plain names -/
def mPar (i j : Nat) (ml : ML G) : MS G := fun env g => bD (ml env g) fun ds g1 => match ds with
  | [x, y] => some (.nx, (env.set i (.sh x)).set j (.sh y), g1)
  | _ => none
theorem ds_par {i j : Nat} {x y : Str} {a b : Expr} {px py pt : Pos} {kt k2 pt2} (hc : X.calm = true) (hN : X.N.Nodup) (hi : X.N[i]? = some x) (hj : X.N[j]? = some y) (hij : i ≠ j)
    (hx : X.env.scope.names.lookup x = some .local) (hy : X.env.scope.names.lookup y = some .local) (ha : DA X S [a, b] ml)
    (hw : swappedStores [.Tuple [.Name x px, .Name y py] kt pt] (.Tuple [a, b] k2 pt2) X.env = pure (some [x, y]))
    (hs : swapsWithSole [.Tuple [.Name x px, .Name y py] kt pt] (.Tuple [a, b] k2 pt2) pos.line X.env = pure false := by rfl) :
    DS X S (.Assign [.Tuple [.Name x px, .Name y py] kt pt] (.Tuple [a, b] k2 pt2) pos) (mPar i j ml) := PS.imp (ps_par hc hN hi hj hij hx hy ha hw hs) fun D σ H ⟨w, env, g, c, env', g', R, e, k⟩ => by
  obtain ⟨ds, g1, e1, e⟩ := bD_some e
  split at e
  · cases e
    refine ⟨w, env, g, _, g', R, e1, fun vs I' H' s' R' ra => ?_⟩
    cases ra with
    | cons r1 ra =>
      cases ra with
      | cons r2 ra =>
        cases ra
        exact ⟨_, _, rfl, k _ I' H' s' ((R'.putD r1).putD r2)⟩
  · cases e
/-- a, b = e -/
def mAsg (b : MTg G) (ma : ME G) : MS G := fun env g => bD (ma env g) fun d g1 => (b d env g1).map fun q => (.nx, q.1, q.2)
theorem ds_asg {tg : Expr} {idx : List Nat} {bt : MTg G} (he : DE X S e ma) (hg : DTg X S tg idx bt) (hs : swapsWithSole [tg] e pos.line X.env = pure false := by rfl) (hw : swappedStores [tg] e X.env = pure none := by rfl)
    (h1 : (assignEach [tg] X.env).map (·.2) = [assign tg X.env] := by rfl) : DS X S (.Assign [tg] e pos) (mAsg bt ma) := PS.imp (ps_asg he hg.pg hs hw h1) fun D σ H ⟨w, env, g, c, env', g', R, e, k⟩ => by
  obtain ⟨x, g1, e1, e⟩ := bD_some e
  obtain ⟨⟨env1, g2⟩, e2, e⟩ := Option.map_eq_some_iff.mp e
  cases e
  exact ⟨w, env, g, x, g1, R, e1, fun v I' H' s' R' p => ⟨w.im I', env, g1, x, env1, g2, R', p, e2, fun σ' I2 H2 s2 R2 _ _ => k σ' I2 H2 (s'.trans s2) R2⟩⟩
end
end Pd

/-! Pd: what is walked, loops, comprehensions. -/
namespace Pd
open PySem PySem.Spec L2
section
variable {G : Type} {X : Cx} {S : Gs G} {a b c e : Expr} {es rest : List Expr} {pos : Pos} {ma mb mc : ME G} {mt mu : MT G} {ml : ML G} {st : Stmt} {sts body : List Stmt} {m m1 m2 : MS G} {tg iter : Expr}
variable {K : PySem.W.Frag} {w : Wd} {env env' : Env} {g g' : G} {σ : St} {H H' I' : Hp}

/-! ### what is walked: it yields data, whatever stands behind -/
structure ItOk (K : PySem.W.Frag) (J : It) (I : Hp) (ds : List D) : Prop where
  go : ∀ i I' H', i < ds.length → Same I I' → Same I' H' → J.go i H'
  yl : ∀ i I' H' x H'' d, ds[i]? = some d → Same I I' → Same I' H' → J.yld i H' x H'' → ∃ I'', Pst I' H' I'' H'' ∧ Rp K I'' x d
  st : ∀ i I' H', ds.length ≤ i → Same I I' → Same I' H' → J.stop i H'
def tI {G : Type} (K : PySem.W.Frag) (S : Gs G) (m : ML G) : TI := fun σ H R => ∃ w env g ds g', Rel K S w env g σ H ∧ m env g = some (ds, g') ∧
  ∀ J I' H', Same w.I I' → Rel K S (w.im I') env g' σ H' → ItOk K J I' ds → ds.length ≤ sizeLine → R J H'
abbrev DI {G : Type} (X : Cx) (S : Gs G) (tg iter : Expr) (m : ML G) : Prop := PI X tg iter (tI X.K S m)
theorem PI.imp {t t' : TI} (h : PI X tg iter t) (i : ∀ σ H R, t' σ H R → t σ H R) : PI X tg iter t' := ⟨fun pins s σ H R I q => h.run pins s σ H R I (i _ _ _ q)⟩
def mItL (ma : ME G) : ML G := fun env g => bD (ma env g) fun x g1 => match x with
  | .list ds => some (ds, g1)
  | _ => none
def mItT (ma : ME G) : ML G := fun env g => bD (ma env g) fun x g1 => match x with
  | .tuple ds => some (ds, g1)
  | _ => none
def mItS (ma : ME G) : ML G := fun env g => bD (ma env g) fun x g1 => match x with
  | .str z => some (z.cps.toList.map fun c => .str ⟨#[c]⟩, g1)
  | _ => none
theorem lst_seq {K : PySem.W.Frag} {H : Hp} {p : Addr} {vs xs : List V} (hp : H p = some (.lst vs)) (h : Rd H p (.lst xs)) : xs = vs := by
  rcases h with h | ⟨o, h⟩
  · rw [hp] at h; cases h; rfl
  · rw [hp] at h; cases h
theorem itl_ok {p : Addr} {vs : List V} {ds : List D} {I : Hp} (hp : I p = some (.lst vs)) (ra : RpA K I vs ds) : ItOk K (Itl K p) I ds where
  go := fun i I' H' hi s1 s2 => by
    have hv : i < vs.length := by rw [ra.len]; exact hi
    exact ⟨vs, vs[i], SqL.of (s2 _ _ (s1 _ _ hp)), by simp [hv]⟩
  yl := fun i I' H' x H'' d hd s1 s2 y => by
    obtain ⟨e, y⟩ := y
    subst e
    have hx := y vs (SqL.of (s2 _ _ (s1 _ _ hp)))
    obtain ⟨d', e1, r⟩ := ra.getV hx
    rw [hd] at e1
    cases e1
    exact ⟨I', Pst.refl s2, r.mono s1⟩
  st := fun i I' H' hi s1 s2 => ⟨vs, SqL.of (s2 _ _ (s1 _ _ hp)), by rw [ra.len]; exact hi⟩
theorem itt_ok {p : Addr} {vs : List V} {ds : List D} {I : Hp} (hp : SqT K I p vs) (ra : RpA K I vs ds) : ItOk K (Itt K p) I ds where
  go := fun i I' H' hi s1 s2 => by
    have hv : i < vs.length := by rw [ra.len]; exact hi
    exact ⟨vs, vs[i], same_t s2 (same_t s1 hp), by simp [hv]⟩
  yl := fun i I' H' x H'' d hd s1 s2 y => by
    obtain ⟨e, y⟩ := y
    subst e
    have hx := y vs (same_t s2 (same_t s1 hp))
    obtain ⟨d', e1, r⟩ := ra.getV hx
    rw [hd] at e1
    cases e1
    exact ⟨I', Pst.refl s2, r.mono s1⟩
  st := fun i I' H' hi s1 s2 => ⟨vs, same_t s2 (same_t s1 hp), by rw [ra.len]; exact hi⟩
theorem di_list (ha : DE X S a ma) : DI X S tg a (mItL ma) := PI.imp (pi_list ha) fun σ H R ⟨w, env, g, ds, g', Re, e, k⟩ => by
  obtain ⟨x, g1, e1, e⟩ := bD_some e
  cases x with
  | list xs =>
    cases e
    refine ⟨w, env, g, _, g', Re, e1, fun v I' H' s' R' p => ?_⟩
    cases p with
    | lst hp ra hz => exact ⟨_, rfl, ⟨_, SqL.of (R'.eI _ _ hp)⟩, k _ I' H' s' R' (itl_ok hp ra) hz⟩
  | _ => cases e
theorem di_tup (ha : DE X S a ma) : DI X S tg a (mItT ma) := PI.imp (pi_tup ha) fun σ H R ⟨w, env, g, ds, g', Re, e, k⟩ => by
  obtain ⟨x, g1, e1, e⟩ := bD_some e
  cases x with
  | tuple xs =>
    cases e
    refine ⟨w, env, g, _, g', Re, e1, fun v I' H' s' R' p => ?_⟩
    cases p with
    | tup hp ra hz => exact ⟨_, rfl, ⟨_, same_t R'.eI hp⟩, k _ I' H' s' R' (itt_ok hp ra) hz⟩
  | _ => cases e
theorem di_str (ha : DE X S a ma) : DI X S tg a (mItS ma) := PI.imp (pi_str ha) fun σ H R ⟨w, env, g, ds, g', Re, e, k⟩ => by
  obtain ⟨x, g1, e1, e⟩ := bD_some e
  cases x with
  | str z =>
    cases e
    refine ⟨w, env, g, _, g', Re, e1, fun v I' H' s' R' p => ?_⟩
    cases p with
    | str hz =>
      have hl : (z.cps.toList.map fun c => (PyData.str ⟨#[c]⟩ : D)).length = z.cps.size := by rw [List.length_map, Array.length_toList]
      refine ⟨z, rfl, k _ I' H' s' R' ⟨fun i I2 H2 hi _ _ => ?_, fun i I2 H2 x H3 d hd _ s2 y => ?_, fun i I2 H2 hi _ _ => ?_⟩ ?_⟩
      · show i < z.cps.size
        rw [hl] at hi; exact hi
      · obtain ⟨e, c, ec, ex⟩ := y
        subst e; subst ex
        rw [List.getElem?_map, Array.getElem?_toList, ec] at hd
        cases hd
        exact ⟨I2, Pst.refl s2, .str (sok_char hz (by rw [← Array.getElem?_toList] at ec; exact List.mem_of_getElem? ec))⟩
      · show z.cps.size ≤ i
        rw [hl] at hi; exact hi
      · rw [hl]; exact hz.1
  | _ => cases e
/-- lo, lo + 1, .. -/
def rng (lo : Int) (n : Nat) : List D := (List.range n).map fun (k : Nat) => .int (lo + (k : Int))
theorem rng_get {lo : Int} {n i : Nat} (h : i < n) : (rng lo n)[i]? = some (.int (lo + (i : Int))) := by
  unfold rng
  rw [List.getElem?_map, List.getElem?_range h]; rfl
theorem rng_len (lo : Int) (n : Nat) : (rng lo n).length = n := by unfold rng; rw [List.length_map, List.length_range]
theorem itr_ok (lo : Int) (n : Nat) (I : Hp) : ItOk K (Itr lo n) I (rng lo n) where
  go := fun i I' H' hi _ _ => by rw [rng_len] at hi; exact hi
  yl := fun i I' H' x H'' d hd s1 s2 y => by
    obtain ⟨e, ex⟩ := y
    subst e; subst ex
    have hi : i < n := by
      have := (List.getElem?_eq_some_iff.mp hd).1
      rw [rng_len] at this; exact this
    rw [rng_get hi] at hd
    cases hd
    exact ⟨I', Pst.refl s2, .int _⟩
  st := fun i I' H' hi _ _ => by rw [rng_len] at hi; exact hi
def mRng1 (ml : ML G) : ML G := fun env g => bD (ml env g) fun xs g1 => match xs with
  | [.int j] => if -16777216 < j ∧ j < 16777216 then some (rng 0 j.toNat, g1) else none
  | _ => none
def mRng2 (ml : ML G) : ML G := fun env g => bD (ml env g) fun xs g1 => match xs with
  | [.int i, .int j] => if (-16777216 < i ∧ i < 16777216) ∧ -16777216 < j ∧ j < 16777216 ∧ j - i < 16777216 then some (rng i (j - i).toNat, g1) else none
  | _ => none
theorem line_val : sizeLine = 16777216 := sizeLine_eq
theorem di_range1 {p : Pos} (hg : Gl X "range") (hm : X.mg "range" = none) (ha : DA X S [a] ml) (hs : starEach [a] X.env = [(false, eval a X.env)] := by rfl) : DI X S tg (.Call (.Name "range" p) [a] [] pos) (mRng1 ml) := PI.imp (pi_range1 hg hm ha hs) fun σ H R ⟨w, env, g, ds, g', Re, e, k⟩ => by
  obtain ⟨x, g1, e1, e⟩ := bD_some e
  split at e
  · rename_i j
    split at e
    · rename_i hj
      cases e
      refine ⟨w, env, g, _, g', Re, e1, fun vs I' H' s' R' p => ?_⟩
      cases p with
      | cons p q =>
        cases p
        cases q
        exact ⟨j, rfl, by omega, by omega, k _ I' H' s' R' (itr_ok 0 j.toNat I') (by rw [rng_len, line_val]; omega)⟩
    · cases e
  · cases e
theorem di_range2 {p : Pos} (hg : Gl X "range") (hm : X.mg "range" = none) (ha : DA X S [a, b] ml) (hs : starEach [a, b] X.env = [(false, eval a X.env), (false, eval b X.env)] := by rfl) (hs2 : starEach [b] X.env = [(false, eval b X.env)] := by rfl) :
    DI X S tg (.Call (.Name "range" p) [a, b] [] pos) (mRng2 ml) := PI.imp (pi_range2 hg hm ha hs hs2) fun σ H R ⟨w, env, g, ds, g', Re, e, k⟩ => by
  obtain ⟨x, g1, e1, e⟩ := bD_some e
  split at e
  · rename_i i j
    split at e
    · rename_i hj
      cases e
      refine ⟨w, env, g, _, g', Re, e1, fun vs I' H' s' R' p => ?_⟩
      cases p with
      | cons p q =>
        cases p
        cases q with
        | cons p q =>
          cases p
          cases q
          exact ⟨i, j, rfl, ⟨by omega, by omega, by omega, by omega⟩, k _ I' H' s' R' (itr_ok i (j - i).toNat I') (by rw [rng_len, line_val]; omega)⟩
    · cases e
  · cases e
/-- pairs of the place and the item -/
def enm : Nat → List D → List D
  | _, [] => []
  | n, d :: ds => .tuple [.int (n : Int), d] :: enm (n + 1) ds
theorem enm_get : ∀ {n : Nat} {ds : List D} {i : Nat} {t : D}, (enm n ds)[i]? = some t → ∃ d, ds[i]? = some d ∧ t = .tuple [.int ((n + i : Nat) : Int), d]
  | _, [], _, _, h => by simp [enm] at h
  | n, d :: ds, 0, t, h => by
    simp only [enm, List.getElem?_cons_zero, Option.some.injEq] at h
    exact ⟨d, rfl, h.symm⟩
  | n, d :: ds, i + 1, t, h => by
    simp only [enm, List.getElem?_cons_succ] at h
    obtain ⟨x, h1, h2⟩ := enm_get h
    exact ⟨x, by simpa using h1, by rw [h2]; congr 3; omega⟩
theorem enm_len : ∀ (n : Nat) (ds : List D), (enm n ds).length = ds.length
  | _, [] => rfl
  | n, d :: ds => by simp only [enm, List.length_cons, enm_len (n + 1) ds]
theorem ite_ok {p : Addr} {vs : List V} {ds : List D} {I : Hp} (hp : I p = some (.lst vs)) (ra : RpA K I vs ds) : ItOk K (Ite K p) I (enm 0 ds) where
  go := fun i I' H' hi s1 s2 => by
    rw [enm_len] at hi
    have hv : i < vs.length := by rw [ra.len]; exact hi
    exact ⟨vs, vs[i], SqL.of (s2 _ _ (s1 _ _ hp)), by simp [hv]⟩
  yl := fun i I' H' x H'' d hd s1 s2 y => by
    obtain ⟨T, u, ex, hT, eH, y⟩ := y
    subst ex; subst eH
    obtain ⟨d0, h1, rfl⟩ := enm_get hd
    have hx := y vs (SqL.of (s2 _ _ (s1 _ _ hp)))
    obtain ⟨d', e1, r⟩ := ra.getV hx
    rw [h1] at e1
    cases e1
    have ps := Pst.new (p := T) (o := .tup [.int (i : Nat), u]) s2 hT
    refine ⟨_, ps, .tup (SqT.of upd_same) ?_ (by show 2 ≤ sizeLine; decide)⟩
    rw [Nat.zero_add]
    exact .cons (.int _) (.cons ((r.mono s1).mono ps.eI) .nil)
  st := fun i I' H' hi s1 s2 => ⟨vs, SqL.of (s2 _ _ (s1 _ _ hp)), by rw [enm_len] at hi; rw [ra.len]; exact hi⟩
def mEnum (ml : ML G) : ML G := fun env g => bD (ml env g) fun xs g1 => match xs with
  | [.list ds] => some (enm 0 ds, g1)
  | _ => none
theorem di_enum {p tpos : Pos} {elts : List Expr} {kk : Nat} (hg : Gl X "enumerate") (hm : X.mg "enumerate" = none) (ha : DA X S [a] ml) (hs : starEach [a] X.env = [(false, eval a X.env)] := by rfl) :
    DI X S (.Tuple elts kk tpos) (.Call (.Name "enumerate" p) [a] [] pos) (mEnum ml) := PI.imp (pi_enum hg hm ha hs) fun σ H R ⟨w, env, g, ds, g', Re, e, k⟩ => by
  obtain ⟨x, g1, e1, e⟩ := bD_some e
  split at e
  · cases e
    refine ⟨w, env, g, _, g', Re, e1, fun vs I' H' s' R' p => ?_⟩
    cases p with
    | cons p q =>
      cases q
      cases p with
      | lst hp ra hz => exact ⟨_, _, rfl, SqL.of (R'.eI _ _ hp), k _ I' H' s' R' (ite_ok hp ra) (by rw [enm_len]; exact hz)⟩
  · cases e
def zipD : List D → List D → List D
  | x :: xs, y :: ys => .tuple [x, y] :: zipD xs ys
  | _, _ => []
theorem zipD_get : ∀ {xs ys : List D} {i : Nat} {t : D}, (zipD xs ys)[i]? = some t → ∃ x y, xs[i]? = some x ∧ ys[i]? = some y ∧ t = .tuple [x, y]
  | [], _, _, _, h => by simp [zipD] at h
  | _ :: _, [], _, _, h => by simp [zipD] at h
  | x :: xs, y :: ys, 0, t, h => by
    simp only [zipD, List.getElem?_cons_zero, Option.some.injEq] at h
    exact ⟨x, y, rfl, rfl, h.symm⟩
  | x :: xs, y :: ys, i + 1, t, h => by
    simp only [zipD, List.getElem?_cons_succ] at h
    obtain ⟨u, v, h1, h2, h3⟩ := zipD_get h
    exact ⟨u, v, by simpa using h1, by simpa using h2, h3⟩
theorem zipD_len : ∀ (xs ys : List D), (zipD xs ys).length = min xs.length ys.length
  | [], _ => by simp [zipD]
  | _ :: _, [] => by simp [zipD]
  | x :: xs, y :: ys => by simp only [zipD, List.length_cons, zipD_len xs ys]; omega
theorem itz_ok {p q : Addr} {vs us : List V} {ds es : List D} {I : Hp} (hp : I p = some (.lst vs)) (hq : I q = some (.lst us)) (ra : RpA K I vs ds) (rb : RpA K I us es) : ItOk K (Itz K p q) I (zipD ds es) where
  go := fun i I' H' hi s1 s2 => by
    rw [zipD_len] at hi
    have hv : i < vs.length := by rw [ra.len]; omega
    have hu : i < us.length := by rw [rb.len]; omega
    exact ⟨vs, us, vs[i], us[i], SqL.of (s2 _ _ (s1 _ _ hp)), SqL.of (s2 _ _ (s1 _ _ hq)), by simp [hv], by simp [hu]⟩
  yl := fun i I' H' x H'' d hd s1 s2 y => by
    obtain ⟨T, u, v, ex, hT, eH, y1, y2⟩ := y
    subst ex; subst eH
    obtain ⟨d0, e0, h1, h2, rfl⟩ := zipD_get hd
    obtain ⟨d', f1, r1⟩ := ra.getV (y1 vs (SqL.of (s2 _ _ (s1 _ _ hp))))
    obtain ⟨e', f2, r2⟩ := rb.getV (y2 us (SqL.of (s2 _ _ (s1 _ _ hq))))
    rw [h1] at f1; cases f1
    rw [h2] at f2; cases f2
    have ps := Pst.new (p := T) (o := .tup [u, v]) s2 hT
    exact ⟨_, ps, .tup (SqT.of upd_same) (.cons ((r1.mono s1).mono ps.eI) (.cons ((r2.mono s1).mono ps.eI) .nil)) (by show 2 ≤ sizeLine; decide)⟩
  st := fun i I' H' hi s1 s2 => ⟨vs, us, SqL.of (s2 _ _ (s1 _ _ hp)), SqL.of (s2 _ _ (s1 _ _ hq)), by
    rw [zipD_len] at hi
    have h1 := ra.len
    have h2 := rb.len
    omega⟩
def mZip (ml : ML G) : ML G := fun env g => bD (ml env g) fun xs g1 => match xs with
  | [.list ds, .list es] => some (zipD ds es, g1)
  | _ => none
theorem di_zip {p tpos : Pos} {elts : List Expr} {kk : Nat} (hg : Gl X "zip") (hm : X.mg "zip" = none) (ha : DA X S [a, b] ml) (hs : starEach [a, b] X.env = (false, eval a X.env) :: starEach [b] X.env := by rfl) (hpl : (backTo pos (starEach [b] X.env)).any (·.1) = false := by rfl) :
    DI X S (.Tuple elts kk tpos) (.Call (.Name "zip" p) [a, b] [] pos) (mZip ml) := PI.imp (pi_zip hg hm ha hs hpl) fun σ H R ⟨w, env, g, ds, g', Re, e, k⟩ => by
  obtain ⟨x, g1, e1, e⟩ := bD_some e
  split at e
  · cases e
    refine ⟨w, env, g, _, g', Re, e1, fun vs I' H' s' R' p => ?_⟩
    cases p with
    | cons p q =>
      cases q with
      | cons q r =>
        cases r
        cases p with
        | lst hp ra hz =>
          cases q with
          | lst hq rb hy => exact ⟨_, _, _, _, rfl, SqL.of (R'.eI _ _ hp), SqL.of (R'.eI _ _ hq), k _ I' H' s' R' (itz_ok hp hq ra rb) (by rw [zipD_len]; omega)⟩
  · cases e

/-! ### for -/
def loopL (b : MTg G) (mb : MS G) : List D → Env → G → Option (Ct × Env × G)
  | [], env, g => some (.nx, env, g)
  | d :: ds, env, g => match b d env g with
    | none => none
    | some (env1, g1) => match mb env1 g1 with
      | none => none
      | some (.nx, e, g2) => loopL b mb ds e g2
      | some (.co, e, g2) => loopL b mb ds e g2
      | some (.br, e, g2) => some (.nx, e, g2)
      | some (.re d, e, g2) => some (.re d, e, g2)
      | some (.rl d, e, g2) => some (.rl d, e, g2)
def mFor (ml : ML G) (b : MTg G) (mb : MS G) : MS G := fun env g => bD (ml env g) fun ds g1 => loopL b mb ds env g1
theorem ts_for {idx : List Nat} {bt : MTg G} {mb : MS G} {D : Ends} (h : tS X.K S (mFor ml bt mb) D σ H) : tFor (tI X.K S ml) (tTg X.K S idx bt) (tS X.K S mb) D σ H := by
  obtain ⟨w, env, g, c, env', g', R, e, k⟩ := h
  obtain ⟨ds, g1, e1, e⟩ := bD_some e
  refine ⟨w, env, g, ds, g1, R, e1, fun J I1 H1 s1 R1 ok hz => ?_⟩
  refine ⟨fun i m σ2 H2 => m = ds.length - i ∧ i ≤ ds.length ∧ ∃ I2 env2 g2, Same I1 I2 ∧ Rel X.K S (w.im I2) env2 g2 σ2 H2 ∧ loopL bt mb (ds.drop i) env2 g2 = some (c, env', g'), ⟨ds.length, by omega, Nat.zero_le _, I1, env, g1, Same.refl _, R1, e⟩, ?_⟩
  rintro i m σ2 H2 ⟨rfl, hi, I2, env2, g2, s2, R2, e2⟩
  by_cases hlt : i < ds.length
  · refine .inr ⟨ok.go i I2 H2 hlt s2 R2.eI, fun σ' H' => i + 1 ≤ ds.length ∧ ∃ I2 env2 g2, Same I1 I2 ∧ Rel X.K S (w.im I2) env2 g2 σ' H' ∧ loopL bt mb (ds.drop (i + 1)) env2 g2 = some (c, env', g'), fun σ' H' ⟨q1, q⟩ => ⟨ds.length - (i + 1), by omega, rfl, q1, q⟩, fun x H' y => ?_⟩
    have hd : ds[i]? = some ds[i] := by simp [hlt]
    obtain ⟨I3, ps, r⟩ := ok.yl i I2 H2 x H' _ hd s2 R2.eI y
    rw [List.drop_eq_getElem_cons hlt] at e2
    unfold loopL at e2
    cases eb : bt ds[i] env2 g2 with
    | none => rw [eb] at e2; cases e2
    | some eg =>
      obtain ⟨env3, g3⟩ := eg
      rw [eb] at e2
      dsimp only at e2
      refine ⟨w.im I3, env2, g2, ds[i], env3, g3, R2.pst ps, r, eb, fun σ3 I4 H3 s4 R3 _ _ => ?_⟩
      cases em : mb env3 g3 with
      | none => rw [em] at e2; cases e2
      | some r4 =>
        obtain ⟨c4, env4, g4⟩ := r4
        rw [em] at e2
        have s3 : Same I1 I4 := (s2.trans ps.eI).trans s4
        refine ⟨w.im I4, env3, g3, c4, env4, g4, R3, em, ?_⟩
        cases c4 with
        | nx => exact fun σ' I5 H5 s5 R5 => ⟨by omega, I5, env4, g4, s3.trans s5, R5, e2⟩
        | co => exact fun σ' I5 H5 s5 R5 => ⟨by omega, I5, env4, g4, s3.trans s5, R5, e2⟩
        | br => cases e2; exact fun σ' I5 H5 s5 R5 => k σ' I5 H5 (s1.trans (s3.trans s5)) R5
        | re d => cases e2; exact fun v σ' I5 H5 s5 R5 p => k v σ' I5 H5 (s1.trans (s3.trans s5)) R5 p
        | rl d => cases e2; exact fun p vs σ' I5 H5 s5 R5 n hp ra z => k p vs σ' I5 H5 (s1.trans (s3.trans s5)) R5 n hp ra z
  · have hi' : i = ds.length := by omega
    subst hi'
    rw [List.drop_length] at e2
    cases e2
    exact .inl ⟨ok.st _ I2 H2 (Nat.le_refl _) s2 R2.eI, k σ2 I2 H2 (s1.trans s2) R2⟩
theorem ds_for {idx : List Nat} {bt : MTg G} {mb : MS G} (hp : PassesOwn (model X.prog X.w) X.A X.env X.xe) (hc : X.calm = true) (hi : DI X S tg iter ml) (hg : DTg X S tg idx bt) (hb : DB X S body mb)
    (hs : ∀ x, foldedSetIterable iter X.env x = pure x := by intro _; rfl) : DS X S (.For tg iter body [] pos) (mFor ml bt mb) := PS.imp (ps_for hp hc hi hg.pg hb hs) fun _ _ _ h => ts_for h

/-! ### while -/
def whileN (mt : MT G) (mb : MS G) : Nat → Env → G → Option (Ct × Env × G)
  | 0, _, _ => none
  | n + 1, env, g => match mt env g with
    | none => none
    | some (false, g1) => some (.nx, env, g1)
    | some (true, g1) => match mb env g1 with
      | none => none
      | some (.nx, e, g2) => whileN mt mb n e g2
      | some (.co, e, g2) => whileN mt mb n e g2
      | some (.br, e, g2) => some (.nx, e, g2)
      | some (.re d, e, g2) => some (.re d, e, g2)
      | some (.rl d, e, g2) => some (.rl d, e, g2)
theorem whileN_succ {mt : MT G} {mb : MS G} : ∀ {n : Nat} {env : Env} {g : G} {r}, whileN mt mb n env g = some r → whileN mt mb (n + 1) env g = some r
  | 0, _, _, _, h => by simp [whileN] at h
  | n + 1, env, g, r, h => by
    unfold whileN at h ⊢
    cases e : mt env g with
    | none => rw [e] at h; cases h
    | some q =>
      obtain ⟨b, g1⟩ := q
      rw [e] at h
      cases b with
      | false => exact h
      | true =>
        simp only at h ⊢
        cases e2 : mb env g1 with
        | none => rw [e2] at h; cases h
        | some q =>
          obtain ⟨c, e3, g2⟩ := q
          rw [e2] at h
          cases c with
          | nx => exact whileN_succ h
          | co => exact whileN_succ h
          | _ => exact h
theorem whileN_mono {mt : MT G} {mb : MS G} {n m : Nat} {env : Env} {g : G} {r} (h : whileN mt mb n env g = some r) (hm : n ≤ m) : whileN mt mb m env g = some r := by
  induction hm with
  | refl => exact h
  | step _ ih => exact whileN_succ ih
open Classical in
noncomputable def mWhile (mt : MT G) (mb : MS G) : MS G := fun env g => if h : ∃ n r, whileN mt mb n env g = some r then some (Classical.choose (Classical.choose_spec h)) else none
theorem mWhile_eq {mt : MT G} {mb : MS G} {n : Nat} {env : Env} {g : G} {r} (h : whileN mt mb n env g = some r) : mWhile mt mb env g = some r := by
  have hex : ∃ n r, whileN mt mb n env g = some r := ⟨n, r, h⟩
  unfold mWhile
  rw [dif_pos hex]
  have q := Classical.choose_spec (Classical.choose_spec hex)
  have q1 := whileN_mono q (Nat.le_max_left _ n)
  have q2 := whileN_mono h (Nat.le_max_right (Classical.choose hex) n)
  rw [q1] at q2
  exact q2
theorem mWhile_some {mt : MT G} {mb : MS G} {env : Env} {g : G} {r} (h : mWhile mt mb env g = some r) : ∃ n, whileN mt mb n env g = some r := by
  unfold mWhile at h
  split at h
  · rename_i hex
    cases h
    exact ⟨_, Classical.choose_spec (Classical.choose_spec hex)⟩
  · cases h
theorem ts_while {mb : MS G} {D : Ends} (h : tS X.K S (mWhile mt mb) D σ H) : tWhile (tT X.K S mt) (tS X.K S mb) D σ H := by
  obtain ⟨w, env, g, c, env', g', R, e, k⟩ := h
  obtain ⟨n, e⟩ := mWhile_some e
  refine ⟨fun m σ2 H2 => ∃ I2 env2 g2, Same w.I I2 ∧ Rel X.K S (w.im I2) env2 g2 σ2 H2 ∧ whileN mt mb m env2 g2 = some (c, env', g'), ⟨n, w.I, env, g, Same.refl _, R, e⟩, ?_⟩
  rintro m σ2 H2 ⟨I2, env2, g2, s2, R2, e2⟩
  cases m with
  | zero => simp [whileN] at e2
  | succ m =>
    unfold whileN at e2
    cases et : mt env2 g2 with
    | none => rw [et] at e2; cases e2
    | some q =>
      obtain ⟨b, g3⟩ := q
      rw [et] at e2
      refine ⟨w.im I2, env2, g2, b, g3, R2, et, fun I3 H3 s3 R3 => ?_⟩
      cases b with
      | false =>
        cases e2
        rw [if_neg Bool.false_ne_true]
        exact k σ2 I3 H3 (s2.trans s3) R3
      | true =>
        rw [if_pos rfl]
        refine ⟨fun σ' H' => ∃ I2 env2 g2, Same w.I I2 ∧ Rel X.K S (w.im I2) env2 g2 σ' H' ∧ whileN mt mb m env2 g2 = some (c, env', g'), fun σ' H' q => ⟨m, Nat.lt_succ_self m, q⟩, ?_⟩
        simp only at e2
        cases em : mb env2 g3 with
        | none => rw [em] at e2; cases e2
        | some r4 =>
          obtain ⟨c4, env4, g4⟩ := r4
          rw [em] at e2
          have s4 : Same w.I I3 := s2.trans s3
          refine ⟨w.im I3, env2, g3, c4, env4, g4, R3, em, ?_⟩
          cases c4 with
          | nx => exact fun σ' I5 H5 s5 R5 => ⟨I5, env4, g4, s4.trans s5, R5, e2⟩
          | co => exact fun σ' I5 H5 s5 R5 => ⟨I5, env4, g4, s4.trans s5, R5, e2⟩
          | br => cases e2; exact fun σ' I5 H5 s5 R5 => k σ' I5 H5 (s4.trans s5) R5
          | re d => cases e2; exact fun v σ' I5 H5 s5 R5 p => k v σ' I5 H5 (s4.trans s5) R5 p
          | rl d => cases e2; exact fun p vs σ' I5 H5 s5 R5 n hp ra z => k p vs σ' I5 H5 (s4.trans s5) R5 n hp ra z
theorem ds_while {mb : MS G} (hp : PassesOwn (model X.prog X.w) X.A X.env X.xe) (hc : DT X S c mt) (hb : DB X S body mb) : DS X S (.While c body [] pos) (mWhile mt mb) := PS.imp (ps_while hp hc hb) fun _ _ _ h => ts_while h
end
end Pd

/-! Pd: comprehensions, lists of one's own, defs. -/
namespace Pd
open PySem PySem.Spec L2
section
variable {G : Type} {X : Cx} {S : Gs G} {a b c e : Expr} {es rest : List Expr} {pos : Pos} {ma mb mc : ME G} {mt mu : MT G} {ml : ML G} {st : Stmt} {sts body : List Stmt} {m m1 m2 : MS G} {tg iter : Expr}
variable {K : PySem.W.Frag} {w : Wd} {env env' : Env} {g g' : G} {σ : St} {H H' I' : Hp}

/-! ### comprehensions -/
def Env.wipe (env : Env) : List Nat → Env
  | [] => env
  | v :: vs => (Env.wipe env vs).set v .un
theorem ewipe_len (env : Env) : ∀ vs : List Nat, (env.wipe vs).length = env.length
  | [] => rfl
  | v :: vs => by unfold Env.wipe; rw [List.length_set, ewipe_len env vs]
theorem ewipe_in {env : Env} {k : Nat} : ∀ {vs : List Nat}, k ∈ vs → (env.wipe vs).at k = .un
  | v :: vs, h => by
    unfold Env.wipe
    rw [at_set]
    by_cases z : k = v
    · subst z
      by_cases q : k < (env.wipe vs).length
      · rw [if_pos ⟨rfl, q⟩]
      · rw [if_neg fun z => q z.2]
        show (env.wipe vs).getD k .un = .un
        rw [List.getD_eq_getElem?_getD, List.getElem?_eq_none (by omega)]; rfl
    · rw [if_neg fun q => z q.1]
      rcases List.mem_cons.mp h with e | e
      · exact absurd e z
      · exact ewipe_in e
theorem ewipe_out {env : Env} {k : Nat} : ∀ {vs : List Nat}, k ∉ vs → (env.wipe vs).at k = env.at k
  | [], _ => rfl
  | v :: vs, h => by
    unfold Env.wipe
    rw [at_set, if_neg fun q => h (by simp [q.1])]
    exact ewipe_out fun q => h (List.mem_cons_of_mem _ q)
/-- a state of other slots: where the environment knows something, the same -/
theorem Rel.re {env1 : Env} {σ1 : St} (R : Rel K S w env1 g σ1 H) (hl : σ.length = env.length) (h : ∀ k, env.at k = .un ∨ (env.at k = env1.at k ∧ σ[k]? = σ1[k]?)) : Rel K S w env g σ H where
  e0 := R.e0
  eI := R.eI
  ag := R.ag
  ge := R.ge
  gfp := R.gfp
  grt := R.grt
  gok := R.gok
  fI := R.fI
  f0 := R.f0
  len := hl
  slot := fun k => by
    rcases h k with e | ⟨e, q⟩
    · rw [e]; trivial
    · rw [e]; exact (R.slot k).of_eq q
  dis := fun k j p ds es hkj e1 e2 q1 q2 => by
    rcases h k with e | ⟨e, q⟩
    · rw [e] at e1; cases e1
    · rcases h j with e' | ⟨e', q'⟩
      · rw [e'] at e2; cases e2
      · exact R.dis k j p ds es hkj (e ▸ e1) (e' ▸ e2) (q ▸ q1) (q' ▸ q2)
theorem Rel.wipe (R : Rel K S w env g σ H) (vs : List Nat) : Rel K S w (env.wipe vs) g (L2.wipe σ vs) H := R.re (by rw [wipe_length, ewipe_len]; exact R.len) fun k => by
  by_cases h : k ∈ vs
  · exact .inl (ewipe_in h)
  · exact .inr ⟨ewipe_out h, wipe_out h⟩
theorem wipe_get {σ : St} {k : Nat} : ∀ {vs : List Nat}, k ∈ vs → k < σ.length → (L2.wipe σ vs)[k]? = some none
  | v :: vs, h, hl => by
    unfold L2.wipe
    by_cases z : k = v
    · subst z
      rw [List.getElem?_set_self (by rw [wipe_length]; exact hl)]
    · rw [List.getElem?_set_ne (Ne.symm z)]
      rcases List.mem_cons.mp h with e | e
      · exact absurd e z
      · exact wipe_get e hl
theorem wipe_eq {σ σ2 : St} {vs : List Nat} (hl : σ2.length = (L2.wipe σ vs).length) (h : ∀ k, k ∉ vs → σ2[k]? = (L2.wipe σ vs)[k]?) : L2.wipe σ2 vs = L2.wipe σ vs := by
  apply List.ext_getElem?
  intro k
  rw [wipe_length] at hl
  by_cases hk : k ∈ vs
  · by_cases z : k < σ.length
    · rw [wipe_get hk (by rw [hl]; exact z), wipe_get hk z]
    · rw [List.getElem?_eq_none (by rw [wipe_length]; omega), List.getElem?_eq_none (by rw [wipe_length]; omega)]
  · rw [wipe_out hk, h k hk]
/-- an object that nobody knows, kept in sight -/
abbrev Wd.hold (w : Wd) (p : Addr) (o : HO) : Wd := { w with H0 := upd w.H0 p o }
theorem Rel.hold {p : Addr} {o : HO} (R : Rel K S w env g σ H) (n : Nob w env σ p) (hp : H p = some o) : Rel K S (w.hold p o) env g σ H where
  e0 := fun a u e => by
    have e : upd w.H0 p o a = some u := e
    by_cases z : a = p
    · subst z; rw [upd_same] at e; rw [hp]; exact e
    · rw [upd_ne z] at e; exact R.e0 a u e
  eI := R.eI
  ag := fun a u e => by
    have e : upd w.H0 p o a = some u := e
    by_cases z : a = p
    · subst z
      show w.I a = w.I0 a
      rw [n.i, R.ge.free n.i]
    · rw [upd_ne z] at e; exact R.ag a u e
  ge := R.ge
  gfp := R.gfp
  grt := R.grt
  gok := R.gok
  fI := R.fI
  f0 := fun a ha => by
    have z : a ≠ p := fun z => n.f (z ▸ ha)
    show upd w.H0 p o a = none
    rw [upd_ne z]; exact R.f0 a ha
  len := R.len
  slot := fun i => by
    have q := R.slot i
    cases e : env.at i with
    | un => trivial
    | sh d => rw [e] at q; exact q
    | st => rw [e] at q; exact q
    | raw v => rw [e] at q; exact q
    | ow ds =>
      rw [e] at q
      obtain ⟨a, vs, e1, hp, hi, h0, hf, r, z⟩ := q
      have ne : a ≠ p := fun z => n.o i ds e (z ▸ e1)
      exact ⟨a, vs, e1, hp, hi, (upd_ne ne).trans h0, hf, r, z⟩
  dis := R.dis
/-- .. let go -/
theorem Rel.unhold {p : Addr} {o u : HO} (R : Rel K S (w.hold p o) env g σ H) (n0 : w.H0 p = none) (nI : w.I0 p = none) : Rel K S w env g σ (upd H p u) ∧ Nob w env σ p ∧ H p = some o := by
  have hp : H p = some o := R.e0 p o upd_same
  have nf : ¬ w.fp p := fun z => by
    have q : upd w.H0 p o p = none := R.f0 p z
    rw [upd_same] at q
    cases q
  have ni : w.I p = none := (R.ag p o upd_same).trans nI
  have own : ∀ i ds, env.at i = .ow ds → σ[i]? ≠ some (some (.ref p)) := fun i ds e q => by
    have z := R.slot i
    rw [e] at z
    obtain ⟨a, vs, e1, _, _, h0, _⟩ := z
    rw [q] at e1
    cases e1
    have h0 : upd w.H0 p o p = none := h0
    rw [upd_same] at h0
    cases h0
  refine ⟨?_, ⟨ni, n0, nf, own⟩, hp⟩
  exact {
    e0 := fun a v e => by
      have z : a ≠ p := fun z => by rw [z, n0] at e; cases e
      rw [upd_ne z]
      exact R.e0 a v ((upd_ne z).trans e)
    eI := fun a v e => by
      have z : a ≠ p := fun z => by rw [z, ni] at e; cases e
      rw [upd_ne z]
      exact R.eI a v e
    ag := fun a v e => by
      have z : a ≠ p := fun z => by rw [z, n0] at e; cases e
      exact R.ag a v ((upd_ne z).trans e)
    ge := R.ge
    gfp := R.gfp
    grt := R.grt
    gok := S.loc (fun a ha => by
      have z : a ≠ p := fun z => nf (z ▸ (R.gfp a).mp ha)
      exact upd_ne z) R.gok
    fI := R.fI
    f0 := fun a ha => by
      have z : a ≠ p := fun z => nf (z ▸ ha)
      have q : upd w.H0 p o a = none := R.f0 a ha
      rw [upd_ne z] at q
      exact q
    len := R.len
    slot := fun i => by
      have q := R.slot i
      cases e : env.at i with
      | un => trivial
      | sh d => rw [e] at q; exact q
      | st => rw [e] at q; exact q
      | raw v => rw [e] at q; exact q
      | ow ds =>
        rw [e] at q
        obtain ⟨a, vs, e1, hp', hi, h0, hf, r, z⟩ := q
        have ne : a ≠ p := fun z => own i ds e (z ▸ e1)
        have h0 : upd w.H0 p o a = none := h0
        rw [upd_ne ne] at h0
        exact ⟨a, vs, e1, (upd_ne ne).trans hp', hi, h0, hf, r, z⟩
    dis := R.dis }
def SV.notOw : SV → Bool
  | .ow _ => false
  | _ => true
/-- behind a block: the frame's own slots again -/
theorem Rel.join {I0 I6 H0 H6 : Hp} {g0 g6 : G} {vs : List Nat} (R0 : Rel K S (w.im I0) env g0 σ H0) (R6 : Rel K S (w.im I6) (env.wipe vs) g6 (L2.wipe σ vs) H6) (s : Same I0 I6) (h : ∀ k ∈ vs, (env.at k).notOw = true) : Rel K S (w.im I6) env g6 σ H6 where
  e0 := R6.e0
  eI := R6.eI
  ag := R6.ag
  ge := R6.ge
  gfp := R6.gfp
  grt := R6.grt
  gok := R6.gok
  fI := R6.fI
  f0 := R6.f0
  len := R0.len
  slot := fun k => by
    by_cases hk : k ∈ vs
    · have q := R0.slot k
      have n := h k hk
      cases e : env.at k with
      | un => trivial
      | sh d => rw [e] at q; obtain ⟨v, e1, r⟩ := q; exact ⟨v, e1, r.mono s⟩
      | st => rw [e] at q; exact q
      | raw v => rw [e] at q; exact q
      | ow ds => rw [e] at n; cases n
    · have q := R6.slot k
      rw [ewipe_out hk] at q
      exact q.of_eq (wipe_out hk).symm
  dis := fun k j p ds es hkj e1 e2 q1 q2 => by
    have nk : k ∉ vs := fun z => by have n := h k z; rw [e1] at n; cases n
    have nj : j ∉ vs := fun z => by have n := h j z; rw [e2] at n; cases n
    exact R6.dis k j p ds es hkj (by rw [ewipe_out nk]; exact e1) (by rw [ewipe_out nj]; exact e2) (by rw [wipe_out nk]; exact q1) (by rw [wipe_out nj]; exact q2)
theorem upd_id {H : Hp} {p : Addr} {o : HO} (h : H p = some o) : upd H p o = H := by
  funext b
  by_cases z : b = p
  · rw [z, upd_same, h]
  · rw [upd_ne z]
def compL (b : MTg G) (mt : MT G) (me : ME G) (env : Env) : List D → G → Option (List D × G)
  | [], g => some ([], g)
  | d :: ds, g => match b d env g with
    | none => none
    | some (env1, g1) => match mt env1 g1 with
      | none => none
      | some (false, g2) => compL b mt me env ds g2
      | some (true, g2) => match me env1 g2 with
        | none => none
        | some (x, g3) => match compL b mt me env ds g3 with
          | none => none
          | some (xs, g4) => some (x :: xs, g4)
def mComp (ml : ML G) (vs : List Nat) (b : MTg G) (mt : MT G) (me : ME G) : ML G := fun env g => bD (ml env g) fun ds g1 => if (vs.all fun k => (env.at k).notOw) = true then compL b mt me (env.wipe vs) ds g1 else none
theorem compL_len {b : MTg G} {mt : MT G} {me : ME G} {env : Env} : ∀ {ds : List D} {g : G} {xs : List D} {g' : G}, compL b mt me env ds g = some (xs, g') → xs.length ≤ ds.length
  | [], g, xs, g', h => by simp [compL] at h; rw [h.1]; exact Nat.le_refl 0
  | d :: ds, g, xs, g', h => by
    unfold compL at h
    cases e1 : b d env g with
    | none => rw [e1] at h; cases h
    | some q0 =>
      obtain ⟨env1, g1⟩ := q0
      rw [e1] at h
      dsimp only at h
      cases e2 : mt env1 g1 with
      | none => rw [e2] at h; cases h
      | some q =>
        obtain ⟨t, g2⟩ := q
        rw [e2] at h
        cases t with
        | false => exact Nat.le_trans (compL_len h) (by simp)
        | true =>
          dsimp only at h
          cases e3 : me env1 g2 with
          | none => rw [e3] at h; cases h
          | some q =>
            obtain ⟨x, g3⟩ := q
            rw [e3] at h
            dsimp only at h
            cases e4 : compL b mt me env ds g3 with
            | none => rw [e4] at h; cases h
            | some q =>
              obtain ⟨ys, g4⟩ := q
              rw [e4] at h
              cases h
              have := compL_len e4
              simp only [List.length_cons]
              omega
def mYes : MT G := fun _ g => some (true, g)
structure DTs {G : Type} (X : Cx) (S : Gs G) (ifs : List Expr) (mt : MT G) : Prop where
  pt : PTs X ifs (tT X.K S mt)
theorem dts_nil : DTs X S [] mYes := ⟨⟨fun pins s σ H Q I h => pts_nil.run pins s σ H Q I (by
  obtain ⟨w, env, g, d, g', R, e, k⟩ := h
  cases e
  exact k w.I H (Same.refl _) R)⟩⟩
theorem dts_one (h : DT X S c mt) : DTs X S [c] mt := ⟨pts_one h⟩
theorem tf_comp {idx vs : List Nat} {bt : MTg G} {me : ME G} {Q : VK} (hok : ∀ d env g env' g', bt d env g = some (env', g') → env'.length = env.length ∧ ∀ k, k ∉ idx → env'.at k = env.at k) (hsub : ∀ k ∈ idx, k ∈ vs)
    (h : tF K S (mComp ml vs bt mt me) σ H Q) : tLc (tI K S ml) (tTg K S idx bt) (tT K S mt) (tE K S me) vs σ H Q := by
  obtain ⟨w, env, g, xs, g', R, e, k⟩ := h
  obtain ⟨ds, g1, e1, e⟩ := bD_some e
  split at e
  case isFalse => cases e
  rename_i hown
  have hown : ∀ k ∈ vs, (env.at k).notOw = true := fun k hk => List.all_eq_true.mp hown k hk
  refine ⟨w, env, g, ds, g1, R, e1, fun J I1 H1 s1 R1 ok hz p hp => ?_⟩
  have n0 : w.H0 p = none := R1.e0.free hp
  have nI : w.I0 p = none := by
    have a1 : Same w.I0 I1 := R1.ge
    exact a1.free (R1.eI.free hp)
  -- the word: the list so far at p, the rest of the run
  refine ⟨fun i m H2 => m = ds.length - i ∧ i ≤ ds.length ∧ ∃ I2 g2 acc us as rest, Same I1 I2 ∧ Rel K S (w.im I2) env g2 σ H2 ∧ Nob (w.im I2) env σ p ∧ H2 p = some (.lst us) ∧ RpA K I2 us as ∧ acc = us ∧ as.length ≤ i ∧
    compL bt mt me (env.wipe vs) (ds.drop i) g2 = some (rest, g') ∧ xs = as ++ rest, ⟨ds.length, by omega, Nat.zero_le _, I1, g1, [], [], [], xs, Same.refl _, R1.alloc hp, R1.nob hp, upd_same, .nil, rfl, Nat.le_refl _, e, rfl⟩, ?_⟩
  rintro i m H2 ⟨rfl, hi, I2, g2, acc, us, as, rest, s2, R2, n2, hp2, ra2, rfl, hl2, e2, ex⟩
  by_cases hlt : i < ds.length
  · refine .inr ⟨ok.go i I2 H2 hlt s2 R2.eI, fun H' => i + 1 ≤ ds.length ∧ ∃ I2 g2 acc us as rest, Same I1 I2 ∧ Rel K S (w.im I2) env g2 σ H' ∧ Nob (w.im I2) env σ p ∧ H' p = some (.lst us) ∧ RpA K I2 us as ∧ acc = us ∧ as.length ≤ i + 1 ∧
      compL bt mt me (env.wipe vs) (ds.drop (i + 1)) g2 = some (rest, g') ∧ xs = as ++ rest, fun H' ⟨q1, q⟩ => ⟨ds.length - (i + 1), by omega, rfl, q1, q⟩, fun x H' y => ?_⟩
    have hd : ds[i]? = some ds[i] := by simp [hlt]
    obtain ⟨I3, ps, r⟩ := ok.yl i I2 H2 x H' _ hd s2 R2.eI y
    rw [List.drop_eq_getElem_cons hlt] at e2
    unfold compL at e2
    cases eb : bt ds[i] (env.wipe vs) g2 with
    | none => rw [eb] at e2; cases e2
    | some eg =>
      obtain ⟨env3, g3⟩ := eg
      rw [eb] at e2
      dsimp only at e2
      have R3 := R2.pst ps
      have n3 : Nob (w.im I3) env σ p := ⟨(ps.ag p (by rw [hp2]; simp)).trans n2.i, n2.h0, n2.f, n2.o⟩
      have hp3 : H' p = some (.lst acc) := ps.eH _ _ hp2
      have R4 := (R3.hold n3 hp3).wipe vs
      have hk := hok _ _ _ _ _ eb
      refine ⟨(w.im I3).hold p (.lst acc), env.wipe vs, g2, ds[i], env3, g3, R4, r, eb, fun σ3 I4 H5 s4 R5 l5 f5 => ?_⟩
      have s4 : Same I3 I4 := s4
      have f5' : ∀ k, k ∉ vs → σ3[k]? = (L2.wipe σ vs)[k]? := fun k hk => f5 k fun z => hk (hsub k z)
      refine ⟨wipe_eq l5 f5', ?_⟩
      -- back from the element's state to the frame's
      have back : ∀ I6 H6 g6, Same I3 I6 → Rel K S ((w.im I6).hold p (.lst acc)) env3 g6 σ3 H6 → Rel K S ((w.im I6).hold p (.lst acc)) (env.wipe vs) g6 (L2.wipe σ vs) H6 := fun I6 H6 g6 s6 R6 =>
        R6.re (by rw [wipe_length, ewipe_len]; exact R.len) fun k => by
          by_cases hk' : k ∈ vs
          · exact .inl (ewipe_in hk')
          · exact .inr ⟨(hk.2 k fun z => hk' (hsub k z)).symm, (f5' k hk').symm⟩
      -- behind the element: the list let go
      have next : ∀ I6 H6 g6 (u : List V), Same I3 I6 → Rel K S ((w.im I6).hold p (.lst acc)) env3 g6 σ3 H6 → Rel K S (w.im I6) env g6 σ (upd H6 p (.lst u)) ∧ Nob (w.im I6) env σ p ∧ H6 p = some (.lst acc) := fun I6 H6 g6 u s6 R6 => by
        obtain ⟨q1, q2, q3⟩ := (back I6 H6 g6 s6 R6).unhold (w := w.im I6) (u := .lst u) n0 nI
        exact ⟨Rel.join R3 q1 s6 hown, ⟨q2.i, q2.h0, q2.f, fun j es ej sj => by
          have nj : j ∉ vs := fun z => by have n := hown j z; rw [ej] at n; cases n
          exact q2.o j es (by rw [ewipe_out nj]; exact ej) (by rw [wipe_out nj]; exact sj)⟩, q3⟩
      cases et : mt env3 g3 with
      | none => rw [et] at e2; cases e2
      | some q =>
        obtain ⟨t, g4⟩ := q
        rw [et] at e2
        refine ⟨(w.im I4).hold p (.lst acc), env3, g3, t, g4, R5, et, fun I6 H6 s6 R6 => ?_⟩
        have s6 : Same I4 I6 := s6
        have s6 : Same I3 I6 := s4.trans s6
        cases t with
        | false =>
          refine iteF ?_
          obtain ⟨q1, q2, q3⟩ := next I6 H6 g4 acc s6 R6
          refine ⟨by omega, I6, g4, acc, acc, as, rest, s2.trans (ps.eI.trans s6), ?_, q2, q3, ra2.mono (ps.eI.trans s6), rfl, by omega, e2, ex⟩
          rw [upd_id q3] at q1
          exact q1
        | true =>
          refine iteT ?_
          dsimp only at e2
          cases em : me env3 g4 with
          | none => rw [em] at e2; cases e2
          | some q =>
            obtain ⟨y5, g5⟩ := q
            rw [em] at e2
            dsimp only at e2
            cases ec : compL bt mt me (env.wipe vs) (ds.drop (i + 1)) g5 with
            | none => rw [ec] at e2; cases e2
            | some q =>
              obtain ⟨ys, g7⟩ := q
              rw [ec] at e2
              cases e2
              refine ⟨(w.im I6).hold p (.lst acc), env3, g4, y5, g5, R6, em, fun v I7 H7 s7 R7 p7 => ?_⟩
              have s7 : Same I6 I7 := s7
              obtain ⟨q1, q2, q3⟩ := next I7 H7 g5 (acc ++ [v]) (s6.trans s7) R7
              refine ⟨acc, q3, ?_, by omega, I7, g5, _, _, as ++ [y5], ys, s2.trans (ps.eI.trans (s6.trans s7)), q1, q2, upd_same, (ra2.mono (ps.eI.trans (s6.trans s7))).append (.one p7), rfl, ?_, ec, ?_⟩
              · rw [ra2.len]; omega
              · rw [List.length_append, List.length_singleton]; omega
              · rw [ex, List.append_assoc]; rfl
  · have hi' : i = ds.length := by omega
    subst hi'
    rw [List.drop_length] at e2
    cases e2
    rw [List.append_nil] at ex
    subst ex
    exact .inl ⟨ok.st _ I2 H2 (Nat.le_refl _) s2 R2.eI, k p acc I2 H2 (s1.trans s2) R2 n2 hp2 ra2 (Nat.le_trans hl2 hz)⟩
theorem df_comp {elt : Expr} {ifs : List Expr} {scope : Scope} {own : List (Str × Nat)} {idx : List Nat} {bt : MTg G} {me : ME G} (hc : X.calm = true) (hN : X.N.Nodup) (hi : DI X S tg iter ml) (ok : BlkOk X.N X.env.scope scope own)
    (hg : ∀ (s : Shared) (H : Hp) (C : Addr) (cl : List (Str × Addr)) (fp : List Addr), DTg (X.blk s H scope (compEnvC scope cl C X.env) fp) S tg idx bt) (ht : ∀ (s : Shared) (H : Hp) (C : Addr) (cl : List (Str × Addr)) (fp : List Addr), DTs (X.blk s H scope (compEnvC scope cl C X.env) fp) S ifs mt)
    (he : ∀ (s : Shared) (H : Hp) (C : Addr) (cl : List (Str × Addr)) (fp : List Addr), DE (X.blk s H scope (compEnvC scope cl C X.env) fp) S elt me) (hsub : ∀ k ∈ idx, k ∈ own.map (·.2) := by decide) (hs : ∀ x, foldedSetIterable iter X.env x = pure x := by intro _; rfl) :
    DF X S (.ListComp elt [⟨tg, iter, ifs, 0⟩] scope pos) (mComp ml (own.map (·.2)) bt mt me) :=
  PE.imp (pe_lc hc hN hi ok (fun s H C cl fp => (hg s H C cl fp).pg) (fun s H C cl fp => (ht s H C cl fp).pt) he hs) fun _ _ _ h => tf_comp (hg X.s_0 X.H_0 0 [] []).ok hsub h
/-- x = [.. for ..] on one line -/
theorem ts_setLc {idx vs : List Nat} {bt : MTg G} {me : ME G} {i : Nat} {D : Ends} (hok : ∀ d env g env' g', bt d env g = some (env', g') → env'.length = env.length ∧ ∀ k, k ∉ idx → env'.at k = env.at k) (hsub : ∀ k ∈ idx, k ∈ vs)
    (h : tS K S (mSetF i (mComp ml vs bt mt me)) D σ H) : tAsg (tLc (tI K S ml) (tTg K S idx bt) (tT K S mt) (tE K S me) vs) (gName i) D σ H := by
  obtain ⟨w, env, g, c, env', g', R, e, k⟩ := h
  obtain ⟨x, g1, e1, e⟩ := bD_some e
  cases e
  exact tf_comp hok hsub ⟨w, env, g, x, g', R, e1, fun p vs I' H' s' R' n hp ra hz => k _ I' H' s' (R'.putL n hp ra hz)⟩
theorem ds_setLc {elt : Expr} {ifs : List Expr} {scope : Scope} {own : List (Str × Nat)} {idx : List Nat} {bt : MTg G} {me : ME G} {i : Nat} {y : Str} {py spos : Pos} (hc : X.calm = true) (hN : X.N.Nodup) (hy : X.N[i]? = some y) (hyl : X.env.scope.names.lookup y = some .local)
    (hsw : swapsWith (.ListComp elt [⟨tg, iter, ifs, 0⟩] scope pos) (some (.Name y py)) spos.line X.env = pure true) (hi : DI X S tg iter ml) (ok : BlkOk X.N X.env.scope scope own)
    (hg : ∀ (s : Shared) (H : Hp) (C : Addr) (cl : List (Str × Addr)) (fp : List Addr), DTg (X.blk s H scope (compEnvC scope cl C X.env) fp) S tg idx bt) (ht : ∀ (s : Shared) (H : Hp) (C : Addr) (cl : List (Str × Addr)) (fp : List Addr), DTs (X.blk s H scope (compEnvC scope cl C X.env) fp) S ifs mt)
    (he : ∀ (s : Shared) (H : Hp) (C : Addr) (cl : List (Str × Addr)) (fp : List Addr), DE (X.blk s H scope (compEnvC scope cl C X.env) fp) S elt me) (hsub : ∀ k ∈ idx, k ∈ own.map (·.2) := by decide) (hs : ∀ x, foldedSetIterable iter X.env x = pure x := by intro _; rfl) :
    DS X S (.Assign [.Name y py] (.ListComp elt [⟨tg, iter, ifs, 0⟩] scope pos) spos) (mSetF i (mComp ml (own.map (·.2)) bt mt me)) :=
  PS.imp (ps_setLc hc hN hy hyl hsw hi ok (fun s H C cl fp => (hg s H C cl fp).pg) (fun s H C cl fp => (ht s H C cl fp).pt) he hs) fun _ _ _ h => ts_setLc (hg X.s_0 X.H_0 0 [] []).ok hsub h
/-- .. behind it handed out -/
def mThen (m : MS G) (j : Nat) : MS G := fun env g => match m env g with
  | some (.nx, e, g1) => some (.nx, e.frz j, g1)
  | r => r
theorem ds_then {st : Stmt} {m : MS G} (j : Nat) (h : DS X S st m) : DS X S st (mThen m j) := PS.imp h fun D σ H ⟨w, env, g, c, env', g', R, e, k⟩ => by
  unfold mThen at e
  split at e
  · rename_i e1 g1 em
    cases e
    refine ⟨w, env, g, .nx, e1, g', R, em, fun σ' I' H' s' R' => ?_⟩
    obtain ⟨I2, s2, R2⟩ := R'.frz j
    exact k σ' I2 H' (Same.trans s' s2) R2
  · exact ⟨w, env, g, c, env', g', R, e, k⟩
end
end Pd

/-! Pd: lists of one's own, defs. -/
namespace Pd
open PySem PySem.Spec L2
section
variable {G : Type} {X : Cx} {S : Gs G} {a b c e : Expr} {es rest : List Expr} {pos : Pos} {ma mb mc me : ME G} {mt mu : MT G} {ml : ML G} {st : Stmt} {sts body : List Stmt} {m m1 m2 : MS G} {tg iter : Expr}
variable {K : PySem.W.Frag} {w : Wd} {env env' : Env} {g g' : G} {σ : St} {H H' I' : Hp}

theorem Rel.own {j : Nat} {ds : List D} (R : Rel K S w env g σ H) (e : env.at j = .ow ds) : ∃ p vs, σ[j]? = some (some (.ref p)) ∧ H p = some (.lst vs) ∧ w.I p = none ∧ w.H0 p = none ∧ ¬ w.fp p ∧ RpA K w.I vs ds ∧ ds.length ≤ sizeLine := by
  have q := R.slot j
  rw [e] at q
  exact q
/-- x.append(e) -/
def mApp (j : Nat) (me : ME G) : MS G := fun env g => bD (me env g) fun d g1 => match env.at j with
  | .ow ds => if ds.length < sizeLine then some (.nx, env.set j (.ow (ds ++ [d])), g1) else none
  | _ => none
theorem ts_app {j : Nat} {D : Ends} (h : tS K S (mApp j me) D σ H) : tDrop (tBM K "list" rAppend (tVar j) (tA K S (mCons me mNil))) D σ H := by
  obtain ⟨w, env, g, c, env', g', R, e, k⟩ := h
  obtain ⟨d, g1, e1, e⟩ := bD_some e
  split at e
  · rename_i ds ej
    split at e
    · rename_i hz
      cases e
      obtain ⟨p, vs, sj, hp, _⟩ := R.own ej
      refine ⟨_, sj, .inl ⟨rfl, vs, SqL.of hp⟩, w, env, g, [d], g', R, ?_, fun us I' H' s' R' ra => ?_⟩
      · show bD (me env g) (fun x g1 => bD (mNil env g1) fun xs g2 => some (x :: xs, g2)) = some ([d], g')
        rw [e1]; rfl
      · cases ra with
        | cons r q =>
          cases q
          obtain ⟨p', us, sj', hp', hi, h0, hf, rb, hy⟩ := R'.own ej
          rw [sj] at sj'
          cases sj'
          refine ⟨p, us, _, rfl, rfl, hp', by rw [rb.len]; exact hz, ?_⟩
          exact k σ I' _ s' (R'.setOw ej sj hp' hi h0 hf (rb.append (.one r)) (by rw [List.length_append, List.length_singleton]; omega))
    · cases e
  · cases e
theorem ds_append (j : Nat) {x : Str} {xp ap cp : Pos} (he : DE X S e me) (hN : X.N[j]? = some x := by rfl) (hv : Vis X.env.scope x := by first | exact Or.inl rfl | exact Or.inr (Or.inl rfl) | exact Or.inr (Or.inr rfl)) (hd : (x == ("__debug__" : Str)) = false := by decide)
    (hcd : (x == ("__classdict__" : Str)) = false := by decide)
    (hbase : attributeBase (.Name x xp) "append" X.env (eval (.Name x xp) X.env) = eval (.Name x xp) X.env := by rfl)
    (hfew : ((backTo cp (starEach [e] X.env)).all (fun x => !x.1) && (backToKw cp (keywordEach [] X.env)).all (fun x => x.1.isSome)
      && decide ([e].length + ([] : List Keyword).length + (if ([] : List Keyword).isEmpty then 0 else 1) < 30)) = true := by rfl)
    (hline : (ap.endLine == cp.line) = true := by rfl) (hs : starEach [e] X.env = (false, eval e X.env) :: starEach [] X.env := by rfl) (hplain : (backTo cp (starEach [] X.env)).any (·.1) = false := by rfl)
    (hsw : swapsWith (.Call (.Attribute (.Name x xp) "append" ap) [e] [] cp) none pos.line X.env = pure false := by rfl) :
    DS X S (.Expr (.Call (.Attribute (.Name x xp) "append" ap) [e] [] cp) pos) (mApp j me) :=
  PS.imp (ps_expr (pe_bm PySem.F.plainAttrs_list PySem.F.slot_list_append PySem.F.type_list_append mt_append (pe_var hN hv hd hcd) (da_cons (S := S) he da_nil hs) hbase hfew hline hs hplain) hsw) fun _ _ _ h => ts_app h
/-- x[i] = e -/
def mSetIx (j : Nat) (mi me : ME G) : MS G := fun env g => bD (me env g) fun d g1 => bD (mi env g1) fun i g2 => match env.at j, i with
  | .ow ds, .int i => (ixN ds.length i).map fun k => (.nx, env.set j (.ow (ds.set k d)), g2)
  | _, _ => none
theorem ts_setIx {j : Nat} {mi : ME G} {D : Ends} (h : tS K S (mSetIx j mi me) D σ H) : tAsg (tE K S me) (gSub (tVar j) (tE K S mi) rSetL) D σ H := by
  obtain ⟨w, env, g, c, env', g', R, e, k⟩ := h
  obtain ⟨d, g1, e1, e⟩ := bD_some e
  obtain ⟨i, g2, e2, e⟩ := bD_some e
  split at e
  · rename_i ds i ej
    obtain ⟨n, en, e⟩ := Option.map_eq_some_iff.mp e
    cases e
    refine ⟨w, env, g, d, g1, R, e1, fun v I1 H1 s1 R1 p1 => ?_⟩
    obtain ⟨p, vs, sj, hp, _⟩ := R1.own ej
    refine ⟨_, sj, w.im I1, env, g1, _, g', R1, e2, fun u I2 H2 s2 R2 p2 => ?_⟩
    cases p2
    obtain ⟨p', us, sj', hp', hi, h0, hf, rb, hy⟩ := R2.own ej
    rw [sj] at sj'
    cases sj'
    refine ⟨p, us, i, n, rfl, rfl, hp', by rw [rb.len]; exact en, ?_⟩
    exact k σ I2 _ (s1.trans s2) (R2.setOw ej sj hp' hi h0 hf (rb.set (p1.mono s2) n) (by rw [List.length_set]; exact hy))
  · cases e
theorem ds_setIx (j : Nat) {x : Str} {xp sp : Pos} {i : Expr} {mi : ME G} (hi : DE X S i mi) (he : DE X S e me) (hN : X.N[j]? = some x := by rfl) (hv : Vis X.env.scope x := by first | exact Or.inl rfl | exact Or.inr (Or.inl rfl) | exact Or.inr (Or.inr rfl)) (hd : (x == ("__debug__" : Str)) = false := by decide)
    (hcd : (x == ("__classdict__" : Str)) = false := by decide)
    (ha : ∀ v, assign (.Subscript (.Name x xp) i sp) X.env v = (do
      let ov ← holding [v] (eval (.Name x xp) X.env)
      let iv ← holding [v, ov] (eval i X.env)
      standAt sp
      holding [v, ov, iv] (setItem ov iv v)
      release [v, ov, iv] []) := by intro _; rfl)
    (hs : swapsWithSole [.Subscript (.Name x xp) i sp] e pos.line X.env = pure false := by rfl) (hw : swappedStores [.Subscript (.Name x xp) i sp] e X.env = pure none := by rfl)
    (h1 : (assignEach [.Subscript (.Name x xp) i sp] X.env).map (·.2) = [assign (.Subscript (.Name x xp) i sp) X.env] := by rfl) :
    DS X S (.Assign [.Subscript (.Name x xp) i sp] e pos) (mSetIx j mi me) := PS.imp (ps_asg he (pg_sub (pe_var hN hv hd hcd) hi set_list ha) hs hw h1) fun _ _ _ h => ts_setIx h
/-- x.extend(e), e a list that stands -/
def mExt (j : Nat) (me : ME G) : MS G := fun env g => bD (me env g) fun d g1 => match env.at j, d with
  | .ow ds, .list es => if ds.length + es.length ≤ sizeLine then some (.nx, env.set j (.ow (ds ++ es)), g1) else none
  | _, _ => none
theorem ts_ext {j : Nat} {D : Ends} (h : tS K S (mExt j me) D σ H) : tDrop (tBM K "list" rExtend (tVar j) (tA K S (mCons me mNil))) D σ H := by
  obtain ⟨w, env, g, c, env', g', R, e, k⟩ := h
  obtain ⟨d, g1, e1, e⟩ := bD_some e
  split at e
  · rename_i ds es ej
    split at e
    · rename_i hz
      cases e
      obtain ⟨p, vs, sj, hp, _⟩ := R.own ej
      refine ⟨_, sj, .inl ⟨rfl, vs, SqL.of hp⟩, w, env, g, [.list es], g', R, ?_, fun us I' H' s' R' ra => ?_⟩
      · show bD (me env g) (fun x g1 => bD (mNil env g1) fun xs g2 => some (x :: xs, g2)) = some ([.list es], g')
        rw [e1]; rfl
      · cases ra with
        | cons r q =>
          cases q
          obtain ⟨p', us, sj', hp', hi, h0, hf, rb, hy⟩ := R'.own ej
          rw [sj] at sj'
          cases sj'
          cases r with
          | lst hq rc hx =>
            refine ⟨p, _, us, _, rfl, rfl, hp', R'.eI _ _ hq, by rw [rb.len, rc.len]; exact hz, ?_⟩
            exact k σ I' _ s' (R'.setOw ej sj hp' hi h0 hf (rb.append rc) (by rw [List.length_append]; exact hz))
    · cases e
  · cases e
theorem ds_extend (j : Nat) {x : Str} {xp ap cp : Pos} (he : DE X S e me) (hN : X.N[j]? = some x := by rfl) (hv : Vis X.env.scope x := by first | exact Or.inl rfl | exact Or.inr (Or.inl rfl) | exact Or.inr (Or.inr rfl)) (hd : (x == ("__debug__" : Str)) = false := by decide)
    (hcd : (x == ("__classdict__" : Str)) = false := by decide)
    (hbase : attributeBase (.Name x xp) "extend" X.env (eval (.Name x xp) X.env) = eval (.Name x xp) X.env := by rfl)
    (hfew : ((backTo cp (starEach [e] X.env)).all (fun x => !x.1) && (backToKw cp (keywordEach [] X.env)).all (fun x => x.1.isSome)
      && decide ([e].length + ([] : List Keyword).length + (if ([] : List Keyword).isEmpty then 0 else 1) < 30)) = true := by rfl)
    (hline : (ap.endLine == cp.line) = true := by rfl) (hs : starEach [e] X.env = (false, eval e X.env) :: starEach [] X.env := by rfl) (hplain : (backTo cp (starEach [] X.env)).any (·.1) = false := by rfl)
    (hsw : swapsWith (.Call (.Attribute (.Name x xp) "extend" ap) [e] [] cp) none pos.line X.env = pure false := by rfl) :
    DS X S (.Expr (.Call (.Attribute (.Name x xp) "extend" ap) [e] [] cp) pos) (mExt j me) :=
  PS.imp (ps_expr (pe_bm PySem.F.plainAttrs_list PySem.F.slot_list_extend PySem.F.type_list_extend mt_extend (pe_var hN hv hd hcd) (da_cons (S := S) he da_nil hs) hbase hfew hline hs hplain) hsw) fun _ _ _ h => ts_ext h

/-! ### lent for one look: the answer holds no list -/
def Env.lend (js : List Nat) (env : Env) : Env := js.foldl Env.frz env
theorem frz_at (env : Env) (j k : Nat) : (env.frz j).at k = env.at k ∨ ∃ ds, env.at k = .ow ds ∧ (env.frz j).at k = .sh (.list ds) := by
  unfold Env.frz
  split
  · rename_i ds e
    rw [at_set]
    by_cases z : k = j ∧ j < env.length
    · rw [if_pos z, z.1]
      exact .inr ⟨ds, e, rfl⟩
    · rw [if_neg z]; exact .inl rfl
  · exact .inl rfl
theorem lend_at : ∀ (js : List Nat) (env : Env) (k : Nat), (env.lend js).at k = env.at k ∨ ∃ ds, env.at k = .ow ds ∧ (env.lend js).at k = .sh (.list ds)
  | [], env, k => .inl rfl
  | j :: js, env, k => by
    show (Env.lend js (env.frz j)).at k = env.at k ∨ ∃ ds, env.at k = .ow ds ∧ (Env.lend js (env.frz j)).at k = .sh (.list ds)
    rcases lend_at js (env.frz j) k with h1 | ⟨ds, h1, h2⟩
    · rcases frz_at env j k with h | ⟨ds, h, h'⟩
      · exact .inl (h1.trans h)
      · exact .inr ⟨ds, h, h1.trans h'⟩
    · rcases frz_at env j k with h | ⟨es, h, h'⟩
      · exact .inr ⟨ds, h.symm.trans h1, h2⟩
      · rw [h'] at h1; cases h1
theorem Rel.lend : ∀ (js : List Nat) {w : Wd} {env : Env}, Rel K S w env g σ H → ∃ I', Same w.I I' ∧ Rel K S (w.im I') (env.lend js) g σ H
  | [], w, env, R => ⟨w.I, Same.refl _, R⟩
  | j :: js, w, env, R => by
    obtain ⟨I1, s1, R1⟩ := R.frz j
    obtain ⟨I2, s2, R2⟩ := Rel.lend js R1
    exact ⟨I2, s1.trans s2, R2⟩
def Env.noOw (env : Env) : Bool := (List.range env.length).all fun k => (env.at k).notOw
theorem noOw_at {env : Env} (h : env.noOw = true) (k : Nat) : (env.at k).notOw = true := by
  by_cases z : k < env.length
  · exact List.all_eq_true.mp h k (List.mem_range.mpr z)
  · show (env.getD k .un).notOw = true
    rw [List.getD_eq_getElem?_getD, List.getElem?_eq_none (by omega)]; rfl
theorem Rel.unlend {js : List Nat} {I1 I2 : Hp} (R : Rel K S w env g σ H) (RL : Rel K S (w.im I1) (env.lend js) g σ H) (R2 : Rel K S (w.im I2) (env.lend js) g' σ H') (s0 : Same w.I I1) (s : Same I1 I2) (no : (env.lend js).noOw = true) : Rel K S w env g' σ H' where
  e0 := R2.e0
  eI := s0.trans (s.trans R2.eI)
  ag := R.ag
  ge := R.ge
  gfp := R2.gfp
  grt := R2.grt
  gok := R2.gok
  fI := R.fI
  f0 := R.f0
  len := R.len
  slot := fun k => by
    have q := R.slot k
    cases e : env.at k with
    | un => trivial
    | sh d => rw [e] at q; exact q
    | st => rw [e] at q; exact q
    | raw v => rw [e] at q; exact q
    | ow ds =>
      rw [e] at q
      obtain ⟨p, vs, e1, hp, hi, h0, hf, r, z⟩ := q
      refine ⟨p, vs, e1, ?_, hi, h0, hf, r, z⟩
      rcases lend_at js env k with h | ⟨es, h, h'⟩
      · have n := noOw_at no k
        rw [h, e] at n; cases n
      · have ql := RL.slot k
        rw [h'] at ql
        obtain ⟨v, f1, rp⟩ := ql
        rw [e1] at f1
        cases f1
        cases rp with
        | lst hq _ _ =>
          have hq1 := RL.eI _ _ hq
          rw [hp] at hq1
          cases hq1
          exact R2.eI _ _ (s _ _ hq)
  dis := R.dis
def scal0 : D → Bool
  | .none | .bool _ | .int _ | .str _ => true
  | _ => false
theorem scal0_rp {I J : Hp} {v : V} {d : D} (h : Rp K I v d) (z : scal0 d = true) : Rp K J v d := by
  cases h with
  | non => exact .non
  | bl b => exact .bl b
  | int i => exact .int i
  | str h => exact .str h
  | _ => cases z
def mLend (js : List Nat) (ma : ME G) : ME G := fun env g => if (env.lend js).noOw = true then bD (ma (env.lend js) g) fun d g1 => if scal0 d = true then some (d, g1) else none else none
def mLendT (js : List Nat) (mt : MT G) : MT G := fun env g => if (env.lend js).noOw = true then mt (env.lend js) g else none
theorem de_lend (js : List Nat) (h : DE X S e ma) : DE X S e (mLend js ma) := PE.imp h fun σ H Q ⟨w, env, g, d, g', R, e, k⟩ => by
  unfold mLend at e
  split at e
  case isFalse => cases e
  rename_i no
  obtain ⟨x, g1, e1, e⟩ := bD_some e
  split at e
  case isFalse => cases e
  rename_i sc
  cases e
  obtain ⟨I1, s1, RL⟩ := R.lend js
  exact ⟨w.im I1, env.lend js, g, d, g', RL, e1, fun v I' H' s' R' p => k v w.I H' (Same.refl _) (R.unlend RL R' s1 s' no) (scal0_rp p sc)⟩
theorem dt_lend (js : List Nat) (h : DT X S e mt) : DT X S e (mLendT js mt) := PT.imp h fun σ H Q ⟨w, env, g, d, g', R, e, k⟩ => by
  unfold mLendT at e
  split at e
  case isFalse => cases e
  rename_i no
  obtain ⟨I1, s1, RL⟩ := R.lend js
  exact ⟨w.im I1, env.lend js, g, d, g', RL, e, fun I' H' s' R' => k w.I H' (Same.refl _) (R.unlend RL R' s1 s' no)⟩
/-- x[i], x a list of one's own -/
def mIxOw (j : Nat) (mi : ME G) : ME G := fun env g => bD (mi env g) fun i g1 => match env.at j, i with
  | .ow ds, .int i => (atI ds i).map (·, g1)
  | _, _ => none
theorem de_ixOw (j : Nat) {x : Str} {xp : Pos} {i : Expr} {mi : ME G} (hi : DE X S i mi) (hN : X.N[j]? = some x := by rfl) (hv : Vis X.env.scope x := by first | exact Or.inl rfl | exact Or.inr (Or.inl rfl) | exact Or.inr (Or.inr rfl)) (hd : (x == ("__debug__" : Str)) = false := by decide)
    (hcd : (x == ("__classdict__" : Str)) = false := by decide) (hs : PlainIx i := by exact fun _ _ => rfl) : DE X S (.Subscript (.Name x xp) i pos) (mIxOw j mi) := PE.imp (pe_ix ix_list (pe_var hN hv hd hcd) hi hs) fun σ H Q ⟨w, env, g, d, g', R, e, k⟩ => by
  obtain ⟨i, g1, e1, e⟩ := bD_some e
  split at e
  · rename_i ds i ej
    obtain ⟨e3, rfl⟩ := map_some e
    obtain ⟨p, vs, sj, hp, _⟩ := R.own ej
    refine ⟨_, sj, w, env, g, _, g', R, e1, fun u I2 H2 s2 R2 p2 => ?_⟩
    cases p2
    obtain ⟨p', us, sj', hp', _, _, _, rb, _⟩ := R2.own ej
    rw [sj] at sj'
    cases sj'
    obtain ⟨v, e4, r⟩ := atI_rp rb e3
    exact ⟨p, us, i, v, rfl, rfl, SqL.of hp', e4, k v I2 H2 s2 R2 r⟩
  · cases e
/-- xs + ys, a new list -/
def mCat (ma mb : ME G) : ML G := fun env g => bD (ma env g) fun x g1 => bD (mb env g1) fun y g2 => match x, y with
  | .list xs, .list ys => if xs.length + ys.length ≤ sizeLine then some (xs ++ ys, g2) else none
  | _, _ => none
theorem df_cat (ha : DE X S a ma) (hb : DE X S b mb) : DF X S (.BinOp a .Add b pos) (mCat ma mb) := PE.imp (pe_op op_cat ha hb) fun σ H Q ⟨w, env, g, d, g', R, e, k⟩ => by
  obtain ⟨x, g1, e1, e⟩ := bD_some e
  obtain ⟨y, g2, e2, e⟩ := bD_some e
  split at e
  · rename_i xs ys
    split at e
    · rename_i hz
      cases e
      refine ⟨w, env, g, _, g1, R, e1, fun v I1 H1 s1 R1 p1 => ⟨w.im I1, env, g1, _, g', R1, e2, fun u I2 H2 s2 R2 p2 => ?_⟩⟩
      have s2 : Same I1 I2 := s2
      cases p1 with
      | lst hp ra _ =>
        cases p2 with
        | lst hq rb _ =>
          exact ⟨_, _, _, _, rfl, rfl, R2.eI _ _ (s2 _ _ hp), R2.eI _ _ hq, by rw [ra.len, rb.len]; exact hz, fun p h0 => k p _ I2 _ (s1.trans s2) (R2.alloc h0) (R2.nob h0) upd_same ((ra.mono s2).append rb) (by rw [List.length_append]; exact hz)⟩
    · cases e
  · cases e
def mCatOw (j : Nat) (mb : ME G) : ML G := fun env g => bD (mb env g) fun y g2 => match env.at j, y with
  | .ow xs, .list ys => if xs.length + ys.length ≤ sizeLine then some (xs ++ ys, g2) else none
  | _, _ => none
theorem df_catOw (j : Nat) {x : Str} {xp : Pos} (hb : DE X S b mb) (hN : X.N[j]? = some x := by rfl) (hv : Vis X.env.scope x := by first | exact Or.inl rfl | exact Or.inr (Or.inl rfl) | exact Or.inr (Or.inr rfl)) (hd : (x == ("__debug__" : Str)) = false := by decide)
    (hcd : (x == ("__classdict__" : Str)) = false := by decide) : DF X S (.BinOp (.Name x xp) .Add b pos) (mCatOw j mb) := PE.imp (pe_op op_cat (pe_var hN hv hd hcd) hb) fun σ H Q ⟨w, env, g, d, g', R, e, k⟩ => by
  obtain ⟨y, g2, e2, e⟩ := bD_some e
  split at e
  · rename_i xs ys ej
    split at e
    · rename_i hz
      cases e
      obtain ⟨p, vs, sj, hp, _⟩ := R.own ej
      refine ⟨_, sj, w, env, g, _, g', R, e2, fun u I2 H2 s2 R2 p2 => ?_⟩
      obtain ⟨p', us, sj', hp', _, _, _, ra, _⟩ := R2.own ej
      rw [sj] at sj'
      cases sj'
      cases p2 with
      | lst hq rb _ =>
        exact ⟨_, _, _, _, rfl, rfl, hp', R2.eI _ _ hq, by rw [ra.len, rb.len]; exact hz, fun p h0 => k p _ I2 _ s2 (R2.alloc h0) (R2.nob h0) upd_same (ra.append rb) (by rw [List.length_append]; exact hz)⟩
    · cases e
  · cases e
/-- xs * n -/
def mRep (ma mb : ME G) : ML G := fun env g => bD (ma env g) fun x g1 => bD (mb env g1) fun y g2 => match x, y with
  | .list xs, .int k => if -(2 ^ 63) ≤ k ∧ k < 2 ^ 63 ∧ xs.length * k.toNat ≤ sizeLine then some ((List.replicate k.toNat xs).flatten, g2) else none
  | _, _ => none
theorem df_rep (ha : DE X S a ma) (hb : DE X S b mb) : DF X S (.BinOp a .Mult b pos) (mRep ma mb) := PE.imp (pe_op op_rep ha hb) fun σ H Q ⟨w, env, g, d, g', R, e, k⟩ => by
  obtain ⟨x, g1, e1, e⟩ := bD_some e
  obtain ⟨y, g2, e2, e⟩ := bD_some e
  split at e
  · rename_i xs n
    split at e
    · rename_i hz
      cases e
      refine ⟨w, env, g, _, g1, R, e1, fun v I1 H1 s1 R1 p1 => ⟨w.im I1, env, g1, _, g', R1, e2, fun u I2 H2 s2 R2 p2 => ?_⟩⟩
      have s2 : Same I1 I2 := s2
      cases p1 with
      | lst hp ra _ =>
        cases p2
        refine ⟨_, _, _, rfl, rfl, R2.eI _ _ (s2 _ _ hp), hz.1, hz.2.1, by rw [ra.len]; exact hz.2.2, fun p h0 => k p _ I2 _ (s1.trans s2) (R2.alloc h0) (R2.nob h0) upd_same ((ra.mono s2).flatRep _) ?_⟩
        rw [List.length_flatten, List.map_replicate, List.sum_replicate_nat, Nat.mul_comm]
        exact hz.2.2
    · cases e
  · cases e
end
end Pd

/-! Pd: defs. -/
namespace Pd
open PySem PySem.Spec L2
section
variable {G : Type} {X : Cx} {S : Gs G} {m : MS G}
variable {K : PySem.W.Frag} {w : Wd} {env env' : Env} {g g' : G} {σ : St} {H H' I I' : Hp}

def startE (N : Nat) (as : List SV) : Env := as ++ List.replicate (N - as.length) .un
/-- a def's run: N slots, n parameters -/
def runS (N n : Nat) (m : MS G) (as : List SV) (g : G) : Option (Ct × G) := if as.length = n ∧ n ≤ N then match m (startE N as) g with
  | some (.re d, _, g1) => some (.re d, g1)
  | some (.rl ds, _, g1) => some (.rl ds, g1)
  | some (.nx, _, g1) => some (.re .none, g1)
  | _ => none
  else none
def Ct.data : Ct → Option D
  | .re d => some d
  | .rl ds => some (.list ds)
  | _ => none
def Ct.fresh : Ct → Option (List D)
  | .rl ds => some ds
  | _ => none
def runP (N n : Nat) (m : MS Unit) (ds : List D) : Option D := (runS N n m (ds.map .sh) ()).bind fun c => c.1.data
def runN (N n : Nat) (m : MS Unit) (ds : List D) : Option (List D) := (runS N n m (ds.map .sh) ()).bind fun c => c.1.fresh
def runG (N n : Nat) (m : MS G) (as : List SV) (g : G) : Option (D × G) := (runS N n m as g).bind fun c => c.1.data.map (·, c.2)

/-- the frame at a def's entry -/
theorem start_slot {w : Wd} {rt : V} {N : List Str} {vs : List V} {as : List SV} (hrt : w.rt = rt) (ha : ArgsOk K w.I rt vs as) (hl : as.length ≤ N.length) : ∀ i, SlotOk K w (start N vs) H i ((startE N.length as).at i) ∧ ∀ ds, (startE N.length as).at i ≠ .ow ds := by
  have key : ∀ {vs : List V} {as : List SV}, ArgsOk K w.I rt vs as → ∀ (n i : Nat), SlotOk K w (vs.map some ++ List.replicate n none) H i (Env.at (as ++ List.replicate n .un) i) ∧ ∀ ds, Env.at (as ++ List.replicate n .un) i ≠ .ow ds := by
    intro vs as h
    induction h with
    | nil =>
      intro n i
      have e : Env.at ([] ++ List.replicate n SV.un) i = .un := by
        show ([] ++ List.replicate n SV.un).getD i .un = .un
        rw [List.nil_append, List.getD_eq_getElem?_getD, List.getElem?_replicate]
        split <;> rfl
      rw [e]
      exact ⟨trivial, fun ds z => nomatch z⟩
    | @cons v vs a as ha _ ih =>
      intro n i
      cases i with
      | zero =>
        show SlotOk K w (some v :: _) H 0 a ∧ ∀ ds, a ≠ .ow ds
        cases a with
        | un => exact ha.elim
        | ow ds => exact ha.elim
        | sh d => exact ⟨⟨v, rfl, ha⟩, fun ds z => nomatch z⟩
        | st => exact ⟨(show some (some v) = some (some w.rt) by rw [hrt]; exact congrArg (fun x => some (some x)) ha), fun ds z => nomatch z⟩
        | raw u => exact ⟨(show some (some v) = some (some u) from congrArg (fun x => some (some x)) ha), fun ds z => nomatch z⟩
      | succ i =>
        have q := ih n i
        have e : Env.at ((a :: as) ++ List.replicate n .un) (i + 1) = Env.at (as ++ List.replicate n .un) i := rfl
        rw [e]
        refine ⟨?_, q.2⟩
        have q1 := q.1
        cases z : Env.at (as ++ List.replicate n .un) i with
        | un => trivial
        | sh d => rw [z] at q1; exact q1
        | st => rw [z] at q1; exact q1
        | raw u => rw [z] at q1; exact q1
        | ow ds => exact absurd z (q.2 ds)
  intro i
  have hv := ha.len
  have q := key ha (N.length - as.length) i
  unfold L2.start startE
  rw [hv]
  exact q
theorem start_rel {rt : V} {N : List Str} {vs : List V} {as : List SV} (w : Wd) (hrt : w.rt = rt) (ha : ArgsOk K w.I rt vs as) (hl : as.length ≤ N.length)
    (e0 : Same w.H0 H) (eI : Same w.I H) (ag : ∀ a o, w.H0 a = some o → w.I a = w.I0 a) (ge : Same w.I0 w.I) (gfp : ∀ a, S.fp g a ↔ w.fp a) (grt : S.root g = w.rt) (gok : S.ok g H) (fI : ∀ a, w.fp a → w.I a = none) (f0 : ∀ a, w.fp a → w.H0 a = none) :
    Rel K S w (startE N.length as) g (start N vs) H where
  e0 := e0
  eI := eI
  ag := ag
  ge := ge
  gfp := gfp
  grt := grt
  gok := gok
  fI := fI
  f0 := f0
  len := by
    unfold L2.start startE
    rw [List.length_append, List.length_append, List.length_map, List.length_replicate, List.length_replicate, ha.len]
  slot := fun i => (start_slot hrt ha hl i).1
  dis := fun i j p ds es _ e1 => absurd e1 ((start_slot (H := H) hrt ha hl i).2 ds)
theorem ArgsOk.of_rp {rt : V} : ∀ {vs : List V} {ds : List D}, RpA K I vs ds → ArgsOk K I rt vs (ds.map .sh)
  | _, _, .nil => .nil
  | _, _, .cons a b => .cons a (ArgsOk.of_rp b)
theorem runS_len {N n : Nat} {as : List SV} (r) (h : runS N n m as g = some r) : as.length = n ∧ n ≤ N := by
  unfold runS at h
  split at h
  · assumption
  · cases h
/-- what a def's end tells -/
def EndR (K : PySem.W.Frag) (S : Gs G) (w : Wd) (g' : G) (Q : VK) : Ct → Prop
  | .re d => ∀ v env' σ' I' H', Same w.I I' → Rel K S (w.im I') env' g' σ' H' → Rp K I' v d → Q v H'
  | .rl ds => ∀ p vs env' σ' I' H', Same w.I I' → Rel K S (w.im I') env' g' σ' H' → Nob (w.im I') env' σ' p → H' p = some (.lst vs) → RpA K I' vs ds → ds.length ≤ sizeLine → Q (.ref p) H'
  | _ => True
theorem run_body {N : List Str} {n : Nat} {as : List SV} {vs : List V} {w : Wd} {c : Ct} {Q : VK} (R : Rel K S w (startE N.length as) g (start N vs) H) (h : runS N.length n m as g = some (c, g')) (k : EndR K S w g' Q c) :
    tS K S m { nx := fun _ H' => Q .non H', rt := Q } (start N vs) H := by
  obtain ⟨hl, hn⟩ := runS_len _ h
  unfold runS at h
  rw [if_pos ⟨hl, hn⟩] at h
  split at h
  · rename_i d e1 g1 e
    cases h
    exact ⟨w, _, g, .re d, e1, g', R, e, fun v σ' I' H' s' R' p => k v e1 σ' I' H' s' R' p⟩
  · rename_i d e1 g1 e
    cases h
    exact ⟨w, _, g, .rl d, e1, g', R, e, fun p vs σ' I' H' s' R' n hp ra z => k p vs e1 σ' I' H' s' R' n hp ra z⟩
  · rename_i e1 g1 e
    cases h
    exact ⟨w, _, g, .nx, e1, g', R, e, fun σ' I' H' s' R' => k .non e1 σ' I' H' s' R' .non⟩
  · cases h
variable {P : Program} {wd : World} {mg : Str → Option Value} {base : Heap}
/-- a def's body as a term of rules, in any frame -/
abbrev Body (P : Program) (wd : World) (K : PySem.W.Frag) (mg : Str → Option Value) (base : Heap) (N : List Str) (qual : Str) (st : Stmt) (f : Addr) (k : Nat) (S : Gs G) (m : MS G) : Prop :=
  ∀ (cdv : Value) (A : Around) (outer : List PySem.Env) (s : Shared) (H : Hp) (E : XK), Room k (A.deeper (PyProof.Rows.envOfC qual (defScope st) s.heap.objs.size f cdv)) →
    PSs (cxOf CX0 P wd K mg base N qual (defScope st) f cdv A outer s H E).nox (defBody st) (tS K S m)
theorem fn_pure {x qual : Str} {st : Stmt} {f : Addr} {fd : FuncData} {N ps : List Str} {k : Nat} {m : MS Unit} (F : Fun K x qual st f fd) (Sc : FnScope N ps (defScope st)) (hb : Body P wd K mg base N qual st f k G0 m) :
    FnOk P wd K mg base CX0 (k + 1) f fd ps (spP K (runP N.length ps.length m)) := by
  refine F.ok Sc (fun vs H Q E h => ?_) (fun cdv A outer s H vs Q E hr h => ?_)
  · obtain ⟨I, ds, d, _, ra, e, _⟩ := h
    obtain ⟨c, e1, _⟩ := Option.bind_eq_some_iff.mp e
    have q := (runS_len (c.1, c.2) e1).1
    rw [List.length_map] at q
    rw [ra.len, q]
  · obtain ⟨I, ds, d, sI, ra, e, kk⟩ := h
    obtain ⟨⟨c, u⟩, e1, e2⟩ := Option.bind_eq_some_iff.mp e
    have hl := runS_len _ e1
    refine ⟨_, hb cdv A outer s H E hr, ?_⟩
    have R : Rel K G0 ⟨H, I, I, fun _ => False, .non⟩ (startE N.length (ds.map .sh)) () (start N vs) H :=
      start_rel (rt := .non) ⟨H, I, I, fun _ => False, .non⟩ rfl (ArgsOk.of_rp ra) (by rw [hl.1]; exact hl.2) (Same.refl _) sI (fun _ _ _ => rfl) (Same.refl _) (fun _ => Iff.rfl) rfl trivial (fun _ z => z.elim) (fun _ z => z.elim)
    refine run_body (c := c) (g' := u) R e1 ?_
    have fin : ∀ (env' : Env) σ' I' H', Same I I' → Rel K G0 (Wd.im ⟨H, I, I, fun _ => False, .non⟩ I') env' u σ' H' → Pst I H I' H' := fun env' σ' I' H' s' R' => ⟨s', R'.e0, R'.eI, fun a ha => by
      cases q : H a with
      | none => exact absurd q ha
      | some o => exact R'.ag a o q⟩
    cases c with
    | re d' =>
      cases e2
      exact fun v env' σ' I' H' s' R' p => kk v I' H' (fin env' σ' I' H' s' R') p
    | rl ds' =>
      cases e2
      refine fun p us env' σ' I' H' s' R' n hp rb z => ?_
      have R2 := R'.freeze n hp
      exact kk (.ref p) _ H' (fin env' σ' _ H' (Same.trans s' (same_new n.i)) R2) (.lst upd_same (rb.mono (same_new n.i)) z)
    | _ => cases e2
theorem fn_new {x qual : Str} {st : Stmt} {f : Addr} {fd : FuncData} {N ps : List Str} {k : Nat} {m : MS Unit} (F : Fun K x qual st f fd) (Sc : FnScope N ps (defScope st)) (hb : Body P wd K mg base N qual st f k G0 m) :
    FnOk P wd K mg base CX0 (k + 1) f fd ps (spN K (runN N.length ps.length m)) := by
  refine F.ok Sc (fun vs H Q E h => ?_) (fun cdv A outer s H vs Q E hr h => ?_)
  · obtain ⟨I, ds, d, _, ra, e, _⟩ := h
    obtain ⟨c, e1, _⟩ := Option.bind_eq_some_iff.mp e
    have q := (runS_len (c.1, c.2) e1).1
    rw [List.length_map] at q
    rw [ra.len, q]
  · obtain ⟨I, ds, d, sI, ra, e, kk⟩ := h
    obtain ⟨⟨c, u⟩, e1, e2⟩ := Option.bind_eq_some_iff.mp e
    have hl := runS_len _ e1
    refine ⟨_, hb cdv A outer s H E hr, ?_⟩
    have R : Rel K G0 ⟨H, I, I, fun _ => False, .non⟩ (startE N.length (ds.map .sh)) () (start N vs) H :=
      start_rel (rt := .non) ⟨H, I, I, fun _ => False, .non⟩ rfl (ArgsOk.of_rp ra) (by rw [hl.1]; exact hl.2) (Same.refl _) sI (fun _ _ _ => rfl) (Same.refl _) (fun _ => Iff.rfl) rfl trivial (fun _ z => z.elim) (fun _ z => z.elim)
    refine run_body (c := c) (g' := u) R e1 ?_
    cases c with
    | rl ds' =>
      cases e2
      refine fun p us env' σ' I' H' s' R' n hp rb z => kk p us I' H' ⟨s', R'.e0, R'.eI, fun a ha => ?_⟩ n.h0 n.i hp rb z
      cases q : H a with
      | none => exact absurd q ha
      | some o => exact R'.ag a o q
    | _ => cases e2
open Classical in
theorem fn_ghost {x qual : Str} {st : Stmt} {f : Addr} {fd : FuncData} {N ps : List Str} {k : Nat} {m : MS G} (F : Fun K x qual st f fd) (Sc : FnScope N ps (defScope st)) (hb : Body P wd K mg base N qual st f k S m) :
    FnOk P wd K mg base CX0 (k + 1) f fd ps (spG K S (runG N.length ps.length m)) := by
  refine F.ok Sc (fun vs H Q E h => ?_) (fun cdv A outer s H vs Q E hr h => ?_)
  · obtain ⟨I, g, as, d, g', _, _, _, ra, e, _⟩ := h
    obtain ⟨c, e1, _⟩ := Option.bind_eq_some_iff.mp e
    have q := (runS_len (c.1, c.2) e1).1
    rw [ra.len, q]
  · obtain ⟨I, g, as, d, g', sI, gok, fI, ra, e, kk⟩ := h
    obtain ⟨⟨c, g1⟩, e1, e2⟩ := Option.bind_eq_some_iff.mp e
    have hl := runS_len _ e1
    refine ⟨_, hb cdv A outer s H E hr, ?_⟩
    have h0 : Same (fun a => if S.fp g a then none else H a) H := fun a o q => by
      have q : (if S.fp g a then none else H a) = some o := q
      split at q
      · cases q
      · exact q
    have R : Rel K S ⟨fun a => if S.fp g a then none else H a, I, I, S.fp g, S.root g⟩ (startE N.length as) g (start N vs) H :=
      start_rel (rt := S.root g) ⟨fun a => if S.fp g a then none else H a, I, I, S.fp g, S.root g⟩ rfl ra (by rw [hl.1]; exact hl.2) h0 sI (fun _ _ _ => rfl) (Same.refl _) (fun _ => Iff.rfl) rfl gok fI (fun a z => if_pos z)
    refine run_body (c := c) (g' := g1) R e1 ?_
    have fin : ∀ (env' : Env) σ' I' H', Same I I' → Rel K S (Wd.im ⟨fun a => if S.fp g a then none else H a, I, I, S.fp g, S.root g⟩ I') env' g1 σ' H' → Gst S I H g I' H' g1 := fun env' σ' I' H' s' R' => {
      eI := s'
      eH := fun a o q nf => R'.e0 a o (show (if S.fp g a then none else H a) = some o by rw [if_neg nf]; exact q)
      sub := R'.eI
      ag := fun a ha => by
        by_cases z : S.fp g a
        · exact (R'.fI a z).trans (fI a z).symm
        · cases q : H a with
          | none => exact absurd q ha
          | some o => exact R'.ag a o (show (if S.fp g a then none else H a) = some o by rw [if_neg z]; exact q)
      fp' := R'.gfp
      rt := R'.grt
      ok := R'.gok }
    have e2 : (c.data).map (·, g1) = some (d, g') := e2
    cases c with
    | re d' =>
      cases e2
      exact fun v env' σ' I' H' s' R' p => kk v I' H' (fin env' σ' I' H' s' R') p
    | rl ds' =>
      cases e2
      refine fun p us env' σ' I' H' s' R' n hp rb z => ?_
      have R2 := R'.freeze n hp
      exact kk (.ref p) _ H' (fin env' σ' _ H' (Same.trans s' (same_new n.i)) R2) (.lst upd_same (rb.mono (same_new n.i)) z)
    | _ => cases e2
end
end Pd

/-! Pd: operations by values. -/
namespace Pd
open PySem PySem.Spec L2
section
variable {G : Type} {X : Cx} {S : Gs G} {K : PySem.W.Frag}

/-! ### ints -/
def dI (g : Int → Int → D) : D → D → Option D
  | .int i, .int j => some (g i j)
  | _, _ => none
def dIc (C : Int → Int → Prop) [∀ i j, Decidable (C i j)] (g : Int → Int → D) : D → D → Option D
  | .int i, .int j => if C i j then some (g i j) else none
  | _, _ => none
theorem od_I {gv : Int → Int → V} {g : Int → Int → D} (h : ∀ i j I, Rp K I (gv i j) (g i j)) : OpD K (rI0 gv) (dI g) := by
  intro I H x y d e z s p q hz Q k
  cases p with
  | int i =>
    cases q with
    | int j => cases hz; exact ⟨i, j, rfl, rfl, k _ I H (Pst.refl s) (h i j I)⟩
    | _ => cases hz
  | _ => cases hz
theorem od_Ic {C : Int → Int → Prop} [∀ i j, Decidable (C i j)] {gv : Int → Int → V} {g : Int → Int → D} (h : ∀ i j I, Rp K I (gv i j) (g i j)) : OpD K (rI C gv) (dIc C g) := by
  intro I H x y d e z s p q hz Q k
  cases p with
  | int i =>
    cases q with
    | int j =>
      have hz : (if C i j then some (g i j) else none) = some z := hz
      split at hz
      · rename_i hc
        cases hz
        exact ⟨i, j, rfl, rfl, hc, k _ I H (Pst.refl s) (h i j I)⟩
      · cases hz
    | _ => cases hz
  | _ => cases hz
instance (i j : Int) : Decidable (CMul i j) := by unfold CMul; exact inferInstance
instance (i j : Int) : Decidable (CDivN i j) := by unfold CDivN; exact inferInstance
instance (i j : Int) : Decidable (CPow i j) := by unfold CPow; exact inferInstance

/-! ### + -/
theorem sok_app {x y : Str} (hx : SOk x) (hy : SOk y) (hz : x.length + y.length ≤ sizeLine) : SOk (x ++ y) := by
  refine ⟨?_, ?_⟩
  · have e : (x ++ y).length = x.length + y.length := by
      show (x.cps ++ y.cps).size = x.cps.size + y.cps.size
      rw [Array.size_append]
    rw [e]; exact hz
  · have h1 := hx.2
    have h2 := hy.2
    simp only [PyData.canLay0] at h1 h2 ⊢
    unfold PyData.strOk at h1 h2 ⊢
    show (x.cps ++ y.cps).all _ = true
    rw [Array.all_append, h1, h2]
    rfl
def dAddS : D → D → Option D
  | .str x, .str y => if x.length + y.length ≤ sizeLine then some (.str (x ++ y)) else none
  | _, _ => none
def dAddT : D → D → Option D
  | .tuple xs, .tuple ys => if xs.length + ys.length ≤ sizeLine then some (.tuple (xs ++ ys)) else none
  | _, _ => none
def dAddL : D → D → Option D
  | .list xs, .list ys => if xs.length + ys.length ≤ sizeLine then some (.list (xs ++ ys)) else none
  | _, _ => none
theorem od_addS : OpD K (fun x y H Q => ∃ i j, x = .str i ∧ y = .str j ∧ i.length + j.length ≤ sizeLine ∧ Q (.str (i ++ j)) H) dAddS := by
  intro I H x y d e z s p q hz Q k
  cases p with
  | str hx =>
    cases q with
    | str hy =>
      have hz : (if _ then _ else none) = some z := hz
      split at hz
      · rename_i hc
        cases hz
        exact ⟨_, _, rfl, rfl, hc, k _ I H (Pst.refl s) (.str (sok_app hx hy hc))⟩
      · cases hz
    | _ => cases hz
  | _ => cases hz
theorem od_addT : OpD K (rCatA K) dAddT := by
  intro I H x y d e z s p q hz Q k
  cases p with
  | tup hp ra hl =>
    cases q with
    | tup hq rb hm =>
      have hz : (if _ then _ else none) = some z := hz
      split at hz
      · rename_i hc
        cases hz
        refine ⟨_, _, _, _, rfl, rfl, same_t s hp, same_t s hq, by rw [ra.len, rb.len]; exact hc, fun e => ?_, fun _ e => ?_, fun _ _ p h0 => ?_⟩
        · subst e
          cases ra
          exact k _ I H (Pst.refl s) (.tup hq rb hm)
        · subst e
          cases rb
          rw [List.append_nil] at k
          exact k _ I H (Pst.refl s) (.tup hp ra hl)
        · exact k _ _ _ (Pst.new s h0) (.tup (SqT.of upd_same) ((ra.append rb).mono (Pst.new s h0).eI) (by rw [List.length_append]; exact hc))
      · cases hz
    | _ => cases hz
  | _ => cases hz
theorem od_addL : OpD K rCat dAddL := by
  intro I H x y d e z s p q hz Q k
  cases p with
  | lst hp ra hl =>
    cases q with
    | lst hq rb hm =>
      have hz : (if _ then _ else none) = some z := hz
      split at hz
      · rename_i hc
        cases hz
        refine ⟨_, _, _, _, rfl, rfl, s _ _ hp, s _ _ hq, by rw [ra.len, rb.len]; exact hc, fun p h0 => ?_⟩
        exact k _ _ _ (Pst.new s h0) (.lst upd_same ((ra.append rb).mono (Pst.new s h0).eI) (by rw [List.length_append]; exact hc))
      · cases hz
    | _ => cases hz
  | _ => cases hz
def dAddI : D → D → Option D := dI fun i j => .int (i + j)
/-- + of ints, texts, tuples, lists -/
def dAdd (x y : D) : Option D := match x, y with
  | .int i, .int j => some (.int (i + j))
  | .str x, .str y => if x.length + y.length ≤ sizeLine then some (.str (x ++ y)) else none
  | .tuple xs, .tuple ys => if xs.length + ys.length ≤ sizeLine then some (.tuple (xs ++ ys)) else none
  | .list xs, .list ys => if xs.length + ys.length ≤ sizeLine then some (.list (xs ++ ys)) else none
  | _, _ => none
theorem OpD.imp {r : R2} {f f' : D → D → Option D} (h : OpD K r f) (e : ∀ x y z, f' x y = some z → f x y = some z) : OpD K r f' := by
  intro I H x y d e' z s p q hz Q k
  exact h s p q (e _ _ _ hz) k
abbrev rAddD (K : PySem.W.Frag) : R2 := fun x y H Q => rI0 (fun i j => .int (i + j)) x y H Q ∨ ((∃ i j, x = .str i ∧ y = .str j ∧ i.length + j.length ≤ sizeLine ∧ Q (.str (i ++ j)) H) ∨ (rCatA K x y H Q ∨ rCat x y H Q))
theorem op_addD : OpR X (binaryOp .Add) (rAddD X.K) := op_add.or (op_add_str.or (op_catA.or op_cat))
theorem od_addD : OpD K (rAddD K) dAdd := OpD.imp (OpD.or (od_I (g := fun i j => .int (i + j)) fun i j I => .int _) (OpD.or od_addS (OpD.or od_addT od_addL))) fun x y z h => by
  unfold dAdd at h
  split at h
  · exact h
  · split at h
    · rename_i hc
      simp only [dI, dAddS, if_pos hc]; exact h
    · cases h
  · split at h
    · rename_i hc
      simp only [dI, dAddS, dAddT, if_pos hc]; exact h
    · cases h
  · split at h
    · rename_i hc
      simp only [dI, dAddS, dAddT, dAddL, if_pos hc]; exact h
    · cases h
  · cases h
abbrev dSub : D → D → Option D := dI fun i j => .int (i - j)
theorem od_sub : OpD K (rI0 fun i j => .int (i - j)) dSub := od_I fun i j I => .int _
abbrev dMul : D → D → Option D := dIc CMul fun i j => .int (i * j)
theorem od_mul : OpD K (rI CMul fun i j => .int (i * j)) dMul := od_Ic fun i j I => .int _
abbrev dDiv : D → D → Option D := dIc CDivN fun i j => .int (i.fdiv j)
theorem od_div : OpD K (rI CDivN fun i j => .int (i.fdiv j)) dDiv := od_Ic fun i j I => .int _
abbrev dMod : D → D → Option D := dIc (fun _ j => j ≠ 0) fun i j => .int (i.fmod j)
theorem od_mod : OpD K (rI (fun _ j => j ≠ 0) fun i j => .int (i.fmod j)) dMod := od_Ic fun i j I => .int _
abbrev dPow : D → D → Option D := dIc CPow fun i j => .int (i ^ j.toNat)
theorem od_pow : OpD K (rI CPow fun i j => .int (i ^ j.toNat)) dPow := od_Ic fun i j I => .int _
abbrev dShl : D → D → Option D := dIc CPow fun i j => .int (i * 2 ^ j.toNat)
theorem od_shl : OpD K (rI CPow fun i j => .int (i * 2 ^ j.toNat)) dShl := od_Ic fun i j I => .int _
def dNeg : D → Option D
  | .int i => some (.int (-i))
  | _ => none
theorem ud_neg : UnD K (rU fun i => .int (-i)) dNeg := by
  intro I H x d z s p hz Q k
  cases p with
  | int i => cases hz; exact ⟨i, rfl, k _ I H (Pst.refl s) (.int _)⟩
  | _ => cases hz

/-! ### comparisons -/
abbrev dLtI : D → D → Option D := dI fun i j => .bool (decide (i < j))
theorem od_ltI : OpD K (rI0 fun i j => .bl (decide (i < j))) dLtI := od_I fun i j I => .bl _
abbrev dLeI : D → D → Option D := dI fun i j => .bool (decide (i ≤ j))
theorem od_leI : OpD K (rI0 fun i j => .bl (decide (i ≤ j))) dLeI := od_I fun i j I => .bl _
abbrev dGtI : D → D → Option D := dI fun i j => .bool (decide (j < i))
theorem od_gtI : OpD K (rI0 fun i j => .bl (decide (j < i))) dGtI := od_I fun i j I => .bl _
abbrev dGeI : D → D → Option D := dI fun i j => .bool (decide (j ≤ i))
theorem od_geI : OpD K (rI0 fun i j => .bl (decide (j ≤ i))) dGeI := od_I fun i j I => .bl _
def dEq (x y : D) : Option D := if x.depth ≤ 64 ∧ y.depth ≤ 64 then some (.bool (PyData.eqv x y)) else none
def dNe (x y : D) : Option D := if x.depth ≤ 64 ∧ y.depth ≤ 64 then some (.bool (!PyData.eqv x y)) else none
theorem shaped_of {I : Hp} {v : V} {d : D} (h : Rp K I v d) (hd : d.depth ≤ 64) : SeqAt.shaped d = true := by
  unfold SeqAt.shaped
  rw [h.lay, decide_eq_true hd]
  rfl
theorem od_eq : OpD K (rEqD K) dEq := by
  intro I H x y d e z s p q hz Q k
  unfold dEq at hz
  split at hz
  · rename_i hc
    cases hz
    exact ⟨d, e, (p.mono s).dp, (q.mono s).dp, shaped_of p hc.1, shaped_of q hc.2, k _ I H (Pst.refl s) (.bl _)⟩
  · cases hz
theorem od_ne : OpD K (rNeD K) dNe := by
  intro I H x y d e z s p q hz Q k
  unfold dNe at hz
  split at hz
  · rename_i hc
    cases hz
    exact ⟨d, e, (p.mono s).dp, (q.mono s).dp, shaped_of p hc.1, shaped_of q hc.2, k _ I H (Pst.refl s) (.bl _)⟩
  · cases hz
def isNone : D → Bool
  | .none => true
  | _ => false
def dIs : D → D → Option D
  | x, .none => some (.bool (isNone x))
  | _, _ => none
def dIsNot : D → D → Option D
  | x, .none => some (.bool (!isNone x))
  | _, _ => none
theorem isNone_rp {I : Hp} {v : V} {d : D} (h : Rp K I v d) : decide (v = .non) = isNone d := by
  cases h <;> simp [isNone]
theorem od_is : OpD K (fun x y H Q => y = .non ∧ Q (.bl (decide (x = .non))) H) dIs := by
  intro I H x y d e z s p q hz Q k
  cases q with
  | non => cases hz; exact ⟨rfl, by rw [isNone_rp p]; exact k _ I H (Pst.refl s) (.bl _)⟩
  | _ => cases hz
theorem od_isNot : OpD K (fun x y H Q => y = .non ∧ Q (.bl (!decide (x = .non))) H) dIsNot := by
  intro I H x y d e z s p q hz Q k
  cases q with
  | non => cases hz; exact ⟨rfl, by rw [isNone_rp p]; exact k _ I H (Pst.refl s) (.bl _)⟩
  | _ => cases hz
/-- in: a list of data, a tuple of flat data, one sign in a text -/
def flatD : D → Bool
  | .none | .bool _ | .int _ | .str _ => true
  | _ => false
theorem flat_rp {I : Hp} {v : V} {d : D} (h : Rp K I v d) : flatV v = flatD d := by cases h <;> rfl
theorem eqV_rp {I : Hp} {u v : V} {d e : D} (hu : Rp K I u d) (hv : Rp K I v e) (fd : flatD d = true) (fe : flatD e = true) : eqV u v = PyData.eqv d e := by
  cases hu <;> cases hv <;> first | (cases fd; done) | (cases fe; done) | (simp only [eqV, PyData.eqv])
theorem inV_rp {I : Hp} {x : V} {d : D} (hx : Rp K I x d) (fd : flatD d = true) : ∀ {vs : List V} {ds : List D}, RpA K I vs ds → ds.all flatD = true → inV x vs = ds.any fun e => PyData.eqv e d
  | _, _, .nil, _ => rfl
  | _, _, .cons (d := e) a b, h => by
    rw [List.all_cons, Bool.and_eq_true] at h
    show (eqV _ x || inV x _) = (PyData.eqv e d || _)
    rw [eqV_rp a hx h.1 fd, inV_rp hx fd b h.2]
theorem flats_rp {I : Hp} : ∀ {vs : List V} {ds : List D}, RpA K I vs ds → vs.all flatV = ds.all flatD
  | _, _, .nil => rfl
  | _, _, .cons a b => by rw [List.all_cons, List.all_cons, flat_rp a, flats_rp b]
def dInF (neg : Bool) : D → D → Option D
  | x, .list ds => if flatD x = true ∧ ds.all flatD = true then some (.bool (if neg then !ds.any (fun e => PyData.eqv e x) else ds.any fun e => PyData.eqv e x)) else none
  | x, .tuple ds => if flatD x = true ∧ ds.all flatD = true then some (.bool (if neg then !ds.any (fun e => PyData.eqv e x) else ds.any fun e => PyData.eqv e x)) else none
  | _, _ => none
theorem od_inF (neg : Bool) : OpD K (rIn K neg) (dInF neg) := by
  intro I H x y d e z s p q hz Q k
  cases q with
  | lst hq ra hl =>
    have hz : (if _ then _ else none) = some z := hz
    split at hz
    · rename_i hc
      cases hz
      refine ⟨_, _, rfl, .inl (SqL.of (s _ _ hq)), by rw [flat_rp p]; exact hc.1, by rw [flats_rp ra]; exact hc.2, ?_⟩
      rw [inV_rp p hc.1 ra hc.2]
      exact k _ I H (Pst.refl s) (.bl _)
    · cases hz
  | tup hq ra hl =>
    have hz : (if _ then _ else none) = some z := hz
    split at hz
    · rename_i hc
      cases hz
      refine ⟨_, _, rfl, .inr (same_t s hq), by rw [flat_rp p]; exact hc.1, by rw [flats_rp ra]; exact hc.2, ?_⟩
      rw [inV_rp p hc.1 ra hc.2]
      exact k _ I H (Pst.refl s) (.bl _)
    · cases hz
  | _ => cases hz
def dInS (neg : Bool) : D → D → Option D
  | .str ⟨cs⟩, .str z => match cs.toList with
    | [c] => some (.bool (if neg then !decide (c ∈ z.cps.toList) else decide (c ∈ z.cps.toList)))
    | _ => none
  | _, _ => none
theorem dInS_some {neg : Bool} {x y z : D} (h : dInS neg x y = some z) : ∃ c u, x = .str ⟨#[c]⟩ ∧ y = .str u ∧ z = .bool (if neg then !decide (c ∈ u.cps.toList) else decide (c ∈ u.cps.toList)) := by
  cases x with
  | str s =>
    obtain ⟨cs⟩ := s
    cases y with
    | str u =>
      have h : (match cs.toList with
        | [c] => some (PyData.bool (if neg then !decide (c ∈ u.cps.toList) else decide (c ∈ u.cps.toList)))
        | _ => none) = some z := h
      split at h
      · rename_i c ec
        cases h
        have e : cs = #[c] := by
          apply Array.ext'
          rw [ec]
        exact ⟨c, u, by rw [e], rfl, rfl⟩
      · cases h
    | _ => cases h
  | _ => cases h
theorem od_inS : OpD K (fun x y H Q => ∃ (c : Nat) (z : Str), x = .str ⟨#[c]⟩ ∧ y = .str z ∧ Q (.bl (decide (c ∈ z.cps.toList))) H) (dInS false) := by
  intro I H x y d e z s p q hz Q k
  obtain ⟨c, u, rfl, rfl, rfl⟩ := dInS_some hz
  cases p
  cases q
  exact ⟨c, u, rfl, rfl, k _ I H (Pst.refl s) (.bl _)⟩
theorem od_notInS : OpD K (fun x y H Q => ∃ (c : Nat) (z : Str), x = .str ⟨#[c]⟩ ∧ y = .str z ∧ Q (.bl (!decide (c ∈ z.cps.toList))) H) (dInS true) := by
  intro I H x y d e z s p q hz Q k
  obtain ⟨c, u, rfl, rfl, rfl⟩ := dInS_some hz
  cases p
  cases q
  exact ⟨c, u, rfl, rfl, k _ I H (Pst.refl s) (.bl _)⟩

/-! ### built-in functions -/
def dLen : List D → Option D
  | [.list ds] => some (.int ds.length)
  | [.tuple ds] => some (.int ds.length)
  | [.str x] => some (.int x.length)
  | _ => none
theorem cd_len : CallD K (fun xs H Q => ∃ x n, xs = [x] ∧ LenV K x H n ∧ Q (.int n) H) dLen := by
  intro I H xs ds z s p hz Q k
  cases p with
  | nil => cases hz
  | cons a b =>
    cases b with
    | cons _ _ => cases a <;> cases hz
    | nil =>
      cases a with
      | lst hp ra hl => cases hz; exact ⟨_, _, rfl, .inl ⟨_, SqL.of (s _ _ hp), ra.len.symm⟩, k _ I H (Pst.refl s) (.int _)⟩
      | tup hp ra hl => cases hz; exact ⟨_, _, rfl, .inr ⟨_, same_t s hp, ra.len.symm⟩, k _ I H (Pst.refl s) (.int _)⟩
      | str hx => cases hz; exact ⟨_, _, rfl, ⟨hx.1, rfl⟩, k _ I H (Pst.refl s) (.int _)⟩
      | _ => cases hz
def dAbs : List D → Option D
  | [.int i] => some (.int (if i < 0 then -i else i))
  | _ => none
theorem cd_abs : CallD K (fun xs H Q => ∃ i, xs = [.int i] ∧ Q (.int (if i < 0 then -i else i)) H) dAbs := by
  intro I H xs ds z s p hz Q k
  cases p with
  | nil => cases hz
  | cons a b =>
    cases b with
    | cons _ _ => cases a <;> cases hz
    | nil =>
      cases a with
      | int i => cases hz; exact ⟨i, rfl, k _ I H (Pst.refl s) (.int _)⟩
      | _ => cases hz
def dInt : List D → Option D
  | [.int i] => some (.int i)
  | [.bool b] => some (.int (if b then 1 else 0))
  | _ => none
theorem cd_int : CallD K (fun xs H Q => (∃ i, xs = [.int i] ∧ Q (.int i) H) ∨ ∃ k, xs = [.bl k] ∧ Q (.int (if k then 1 else 0)) H) dInt := by
  intro I H xs ds z s p hz Q k
  cases p with
  | nil => cases hz
  | cons a b =>
    cases b with
    | cons _ _ => cases a <;> cases hz
    | nil =>
      cases a with
      | int i => cases hz; exact .inl ⟨i, rfl, k _ I H (Pst.refl s) (.int _)⟩
      | bl i => cases hz; exact .inr ⟨i, rfl, k _ I H (Pst.refl s) (.int _)⟩
      | _ => cases hz
def dMax2 : List D → Option D
  | [.int i, .int j] => some (.int (if j > i then j else i))
  | _ => none
def dMin2 : List D → Option D
  | [.int i, .int j] => some (.int (if j < i then j else i))
  | _ => none
theorem rpa_two {I : Hp} {xs : List V} {i j : Int} (h : RpA K I xs [.int i, .int j]) : xs = [.int i, .int j] := by
  cases h with
  | cons a b => cases a; cases b with
    | cons a b => cases a; cases b; rfl
theorem cd_max2 : CallD K (fun xs H Q => ∃ i j, xs = [.int i, .int j] ∧ Q (.int (if j > i then j else i)) H) dMax2 := by
  intro I H xs ds z s p hz Q k
  unfold dMax2 at hz
  split at hz
  · cases hz; exact ⟨_, _, rpa_two p, k _ I H (Pst.refl s) (.int _)⟩
  · cases hz
theorem cd_min2 : CallD K (fun xs H Q => ∃ i j, xs = [.int i, .int j] ∧ Q (.int (if j < i then j else i)) H) dMin2 := by
  intro I H xs ds z s p hz Q k
  unfold dMin2 at hz
  split at hz
  · cases hz; exact ⟨_, _, rpa_two p, k _ I H (Pst.refl s) (.int _)⟩
  · cases hz
/-- list(x) -/
def dListOf : List D → Option (List D)
  | [.list ds] => some ds
  | [.tuple ds] => some ds
  | _ => none
theorem cf_list : CallF K (fun xs H Q => ∃ p ys, xs = [.ref p] ∧ (SqL K H p ys ∨ SqT K H p ys) ∧ ∀ l, H l = none → Q (.ref l) (upd H l (.lst ys))) dListOf := by
  intro I H xs ds zs s p hz Q k
  cases p with
  | nil => cases hz
  | cons a b =>
    cases b with
    | cons _ _ => cases a <;> cases hz
    | nil =>
      cases a with
      | lst hp ra hl => cases hz; exact ⟨_, _, rfl, .inl (SqL.of (s _ _ hp)), fun l h0 => k l _ _ h0 (same_new h0) upd_same ra hl⟩
      | tup hp ra hl => cases hz; exact ⟨_, _, rfl, .inr (same_t s hp), fun l h0 => k l _ _ h0 (same_new h0) upd_same ra hl⟩
      | _ => cases hz
def dTupleOf : List D → Option D
  | [.list ds] => some (.tuple ds)
  | [.tuple ds] => some (.tuple ds)
  | _ => none
theorem cd_tuple : CallD K (fun xs H Q => ∃ p ys, xs = [.ref p] ∧ ((SqL K H p ys ∧ ∀ l, H l = none → Q (.ref l) (upd H l (.tup ys))) ∨ (SqT K H p ys ∧ Q (.ref p) H))) dTupleOf := by
  intro I H xs ds zs s p hz Q k
  cases p with
  | nil => cases hz
  | cons a b =>
    cases b with
    | cons _ _ => cases a <;> cases hz
    | nil =>
      cases a with
      | lst hp ra hl =>
        cases hz
        exact ⟨_, _, rfl, .inl ⟨SqL.of (s _ _ hp), fun l h0 => by
          exact k _ _ _ (Pst.new s h0) (.tup (SqT.of upd_same) (ra.mono (Pst.new s h0).eI) hl)⟩⟩
      | tup hp ra hl => cases hz; exact ⟨_, _, rfl, .inr ⟨same_t s hp, k _ I H (Pst.refl s) (.tup hp ra hl)⟩⟩
      | _ => cases hz
def intsD : List D → Option (List Int)
  | [] => some []
  | .int i :: ds => (intsD ds).map (i :: ·)
  | _ => none
theorem intsD_some : ∀ {ds : List D} {ns : List Int}, intsD ds = some ns → ds = ns.map .int
  | [], _, h => by cases h; rfl
  | d :: ds, ns, h => by
    cases d with
    | int i =>
      obtain ⟨r, h1, rfl⟩ := Option.map_eq_some_iff.mp h
      rw [intsD_some h1]; rfl
    | _ => cases h
theorem intsD_map : ∀ ns : List Int, intsD (ns.map .int) = some ns
  | [] => rfl
  | n :: ns => by show (intsD (ns.map .int)).map (n :: ·) = _; rw [intsD_map ns]; rfl
def boolsD : List D → Option (List Bool)
  | [] => some []
  | .bool i :: ds => (boolsD ds).map (i :: ·)
  | _ => none
theorem boolsD_some : ∀ {ds : List D} {ns : List Bool}, boolsD ds = some ns → ds = ns.map .bool
  | [], _, h => by cases h; rfl
  | d :: ds, ns, h => by
    cases d with
    | bool i =>
      obtain ⟨r, h1, rfl⟩ := Option.map_eq_some_iff.mp h
      rw [boolsD_some h1]; rfl
    | _ => cases h
theorem boolsD_map : ∀ ns : List Bool, boolsD (ns.map .bool) = some ns
  | [] => rfl
  | n :: ns => by show (boolsD (ns.map .bool)).map (n :: ·) = _; rw [boolsD_map ns]; rfl
theorem RpA.bools {H : Hp} : ∀ {vs : List V} {ns : List Bool}, RpA K H vs (ns.map .bool) → vs = ns.map V.bl
  | _, [], h => by cases h; rfl
  | _, n :: ns, h => by
    cases h with
    | cons a b => cases a; rw [List.map_cons, ← RpA.bools b]
def dSum : List D → Option D
  | [.list ds] => (intsD ds).map fun ns => .int ns.sum
  | _ => none
theorem one_lst {I : Hp} {xs : List V} {ds : List D} (h : RpA K I xs [.list ds]) : ∃ p vs, xs = [.ref p] ∧ I p = some (.lst vs) ∧ RpA K I vs ds ∧ ds.length ≤ sizeLine := by
  cases h with
  | cons a b => cases b; cases a with
    | lst hp ra hl => exact ⟨_, _, rfl, hp, ra, hl⟩
theorem cd_sum : CallD K (rSum K) dSum := by
  intro I H xs ds z s p hz Q k
  unfold dSum at hz
  split at hz
  · obtain ⟨ns, e, rfl⟩ := Option.map_eq_some_iff.mp hz
    obtain ⟨a, vs, rfl, hp, ra, hl⟩ := one_lst p
    rw [intsD_some e] at ra
    rw [RpA.ints ra] at hp
    exact ⟨a, ns, rfl, SqL.of (s _ _ hp), k _ I H (Pst.refl s) (.int _)⟩
  · cases hz
def dAll : List D → Option D
  | [.list ds] => (boolsD ds).map fun ns => .bool (ns.all id)
  | _ => none
theorem cd_all : CallD K (rAll K) dAll := by
  intro I H xs ds z s p hz Q k
  unfold dAll at hz
  split at hz
  · obtain ⟨ns, e, rfl⟩ := Option.map_eq_some_iff.mp hz
    obtain ⟨a, vs, rfl, hp, ra, hl⟩ := one_lst p
    rw [boolsD_some e] at ra
    rw [RpA.bools ra] at hp
    exact ⟨a, ns, rfl, SqL.of (s _ _ hp), k _ I H (Pst.refl s) (.bl _)⟩
  · cases hz
def dAny : List D → Option D
  | [.list ds] => (boolsD ds).map fun ns => .bool (ns.any id)
  | _ => none
theorem cd_any : CallD K (rAny K) dAny := by
  intro I H xs ds z s p hz Q k
  unfold dAny at hz
  split at hz
  · obtain ⟨ns, e, rfl⟩ := Option.map_eq_some_iff.mp hz
    obtain ⟨a, vs, rfl, hp, ra, hl⟩ := one_lst p
    rw [boolsD_some e] at ra
    rw [RpA.bools ra] at hp
    exact ⟨a, ns, rfl, SqL.of (s _ _ hp), k _ I H (Pst.refl s) (.bl _)⟩
  · cases hz
end
end Pd

/-! Pd: order of data, isinstance, texts. -/
namespace PdLt
open PySem PySem.SeqAt
open SeqRoads2 MeetsSeq3 MeetsSeq2 MeetsSeq
open AutoSeq1 (wpAny_loadPart')
set_option autoImplicit false
/-- two tuples whose first items are unlike: these decide -/
theorem meets_first (p q : Addr) (us ws : Array Value) (c1 c2 : Nat) (e1 e2 : Option Addr) (z1 z2 : Array (Option Value)) (k : Bool) (hu : 0 < us.size) (hw : 0 < ws.size) : Meets (Builtin.«tuple.__lt__» ⟨[.ref p, .ref q], []⟩)
    (fun A R s => s.heap.get? p = some { cls := .type "tuple", dict := e1, data := .seq us c1, slots := z1 } ∧ s.heap.get? q = some { cls := .type "tuple", dict := e2, data := .seq ws c2, slots := z2 } ∧
      EqAt A.in1 s us[0] ws[0] false ∧ RcLt A.in1 s us[0] ws[0] k ∧ R (.ok (.ret (.bool k))) s) :=
  .of_wp fun prog w A R s h => by
    obtain ⟨hp, g, d, tk, os⟩ := s
    obtain ⟨ho, hq, hne, hlt, h⟩ := h
    have sub := AutoSeq1.sub_tuple_tuple
    have first : ∃ r, us.toList.zip ws.toList = (us[0], ws[0]) :: r := by
      obtain ⟨ul⟩ := us
      obtain ⟨wl⟩ := ws
      cases ul with
      | nil => simp at hu
      | cons x xs =>
        cases wl with
        | nil => simp at hw
        | cons y ys => exact ⟨xs.zip ys, by simp⟩
    obtain ⟨rs, first⟩ := first
    wp_walk using wpAny_loadPart' ho, wpAny_loadPart' hq, wpAny_forIn_list _ (fun rest b s' => b.1 = none ∧ s' = ⟨hp, g, d, tk, os⟩ ∧ rest = us.toList.zip ws.toList) _
    case turn =>
      rintro ⟨y, x⟩ rest b s' ⟨hb, rfl, hz⟩
      rw [first] at hz
      injection hz with hyx hrest
      injection hyx with hy hx
      subst hy hx
      refine wpAny_bind (hne prog w _ _ ?_)
      rw [if_pos (by rfl)]
      refine wpAny_bind (wpAny_rule (wpAny_bind (hlt prog w _ _ ?_)))
      wp_walk
      exact ⟨_, rfl, h⟩
    case fin =>
      rintro ⟨b1, b2⟩ s' ⟨hb, rfl, hz⟩
      rw [first] at hz
      cases hz
    case h =>
      exact ⟨rfl, rfl, rfl⟩
theorem rcLt_first {A : Around} {s : Shared} {p q : Addr} {us ws : Array Value} {k : Bool} (ho : s.heap.IsTuple p us) (hq : s.heap.IsTuple q ws) (hA : A.units < cLine) (hu : 0 < us.size) (hw : 0 < ws.size)
    (hne : EqAt A.in1 s us[0] ws[0] false) (hlt : RcLt A.in1 s us[0] ws[0] k) : RcLt A s (.ref p) (.ref q) k := fun prog w E Q h => by
  obtain ⟨⟨k1, dd, t1, sl⟩, ho, hc, n, hd⟩ := id ho
  obtain ⟨⟨k2, dd2, t2, sl2⟩, ho2, hc2, n2, hd2⟩ := id hq
  dsimp only at hc hd hc2 hd2
  subst hc; subst hd; subst hc2; subst hd2
  refine richCompare_meets_room (op := .Lt) ⟨_, ho, rfl⟩ ⟨_, ho2, rfl⟩ F.slot_tuple_lt F.entry_tuple_lt (F.args_tuple_lt_2 _ _) (meets_first p q us ws n n2 dd dd2 sl sl2 k hu hw) ⟨ho, ho2, hne, hlt, ?_⟩ hA
  exact ⟨(fun z => by cases z), h⟩
end PdLt

namespace Pd
open PySem PySem.Spec L2
section
variable {G : Type} {X : Cx} {S : Gs G} {K : PySem.W.Frag}
/-! ### < of data that is alike place by place; of tuples whose first items are unlike ints -/
def dLt (x y : D) : Option D := if x.depth ≤ 64 ∧ y.depth ≤ 64 ∧ PySem.W.alike x y = true ∧ isNone x = false then some (.bool (PySem.W.dataLt x y)) else match x, y with
  | .tuple (.int i :: _), .tuple (.int j :: _) => if i = j then none else some (.bool (decide (i < j)))
  | _, _ => none
def rLtD (K : PySem.W.Frag) : R2 := fun x y H Q => ∃ d e, Dp K H x d ∧ Dp K H y e ∧ ((d.depth ≤ 64 ∧ e.depth ≤ 64 ∧ PySem.W.alike d e = true ∧ isNone d = false ∧ Q (.bl (PySem.W.dataLt d e)) H) ∨
  ∃ i j r t, d = .tuple (.int i :: r) ∧ e = .tuple (.int j :: t) ∧ i ≠ j ∧ Q (.bl (decide (i < j))) H)
theorem reads_tup {h : Heap} {u : Value} {ds : List D} {as : List Addr} (r : Reads h u (.tuple ds) as) : ∃ (l : Addr) (vs : Array Value) (bs : List Addr), u = .ref l ∧ h.IsTuple l vs ∧ ReadsAll h vs.toList ds bs := by
  cases r with
  | tuple h1 h2 h3 h4 => exact ⟨_, _, _, rfl, ⟨_, h1, h2, _, h3⟩, h4⟩
theorem op_ltD (hu : X.A.units + 65 < cLine) : OpR X (compareOp .Lt) (rLtD X.K) := by
  intro pins s σ H x y v u Q I rx ry h
  obtain ⟨d, e, hd, he, h⟩ := h
  obtain ⟨as, r1⟩ := Dp.reads I d x v hd rx
  obtain ⟨bs, r2⟩ := Dp.reads I e y u he ry
  rcases h with ⟨d1, d2, al, nn, q⟩ | ⟨i, j, r, t, rfl, rfl, ne, q⟩
  · have nn' : d ≠ .none := fun z => by rw [z] at nn; cases nn
    have hm : min d.depth e.depth ≤ d.depth := Nat.min_le_left _ _
    exact PySem.W.rcLt_alike d e X.A s v u as bs r1 r2 al nn' (by omega) X.prog X.w _ _ ⟨.bl _, H, I, rfl, q⟩
  · obtain ⟨p, us, cs, rfl, t1, ra⟩ := reads_tup r1
    obtain ⟨q', ws, es, rfl, t2, rb⟩ := reads_tup r2
    obtain ⟨ul⟩ := us
    obtain ⟨wl⟩ := ws
    cases ra with
    | cons r1 ra =>
      cases rb with
      | cons r2 rb =>
        cases r1
        cases r2
        refine PdLt.rcLt_first (k := decide (i < j)) t1 t2 (by omega) (by simp) (by simp) ?_ ?_ X.prog X.w _ _ ⟨.bl _, H, I, rfl, q⟩
        · intro prog w E Q hq
          have e : (i == j) = false := beq_eq_false_iff_ne.mpr ne
          exact wpAny_eqBool_int (by rw [e]; exact hq)
        · intro prog w E Q hq
          exact P.lt_int hq
theorem od_lt : OpD K (rLtD K) dLt := by
  intro I H x y d e z s p q hz Q k
  unfold dLt at hz
  split at hz
  · rename_i hc
    cases hz
    exact ⟨d, e, (p.mono s).dp, (q.mono s).dp, .inl ⟨hc.1, hc.2.1, hc.2.2.1, hc.2.2.2, k _ I H (Pst.refl s) (.bl _)⟩⟩
  · split at hz
    · split at hz
      · cases hz
      · rename_i ne
        cases hz
        exact ⟨_, _, (p.mono s).dp, (q.mono s).dp, .inr ⟨_, _, _, _, rfl, rfl, ne, k _ I H (Pst.refl s) (.bl _)⟩⟩
    · cases hz
end
end Pd

/-! Pd: isinstance, texts. -/
namespace Pd
open PySem PySem.Spec L2
section
variable {G : Type} {X : Cx} {S : Gs G} {K : PySem.W.Frag} {a b c e : Expr} {es : List Expr} {pos : Pos} {ma mb me : ME G}
/-! ### isinstance -/
def tyN : D → String
  | .none => "NoneType"
  | .bool _ => "bool"
  | .int _ => "int"
  | .str _ => "str"
  | .list _ => "list"
  | .tuple _ => "tuple"
  | .dict _ => "dict"
theorem tyX_rp {I H : Hp} {v : V} {d : D} (s : Same I H) (h : Rp K I v d) : TyX K H v (.type (tyN d)) := by
  cases h with
  | non => exact .base .non
  | bl b => exact .base (.bl b)
  | int i => exact .base (.int i)
  | str h => exact .base (.str _)
  | lst hp _ _ => exact .base (.lst (s _ _ hp))
  | tup hp _ _ =>
    rcases hp with (hp | ⟨o, hp⟩) | ⟨o, its, n, hk, hc, _⟩
    · exact .base (.tup (s _ _ hp))
    · exact .fTuple (s _ _ hp)
    · exact .kTuple hk hc
/-- isinstance(e, T), T a built-in class: what it is, by the name of its class -/
def isTy (T : String) (d : D) : Option Bool := kitB (tyN d) T
def mIsi (T : String) (ma : ME G) : ME G := fun env g => bD (ma env g) fun d g1 => (isTy T d).map fun b => (.bool b, g1)
theorem de_isi {T : String} {x : Str} {p q : Pos} (hg : Gl X "isinstance") (hm : X.mg "isinstance" = none) (hgT : Gl X x) (hmT : X.mg x = none) (hvT : bootBuiltins x = some (.type T)) (ha : DE X S e ma)
    (hn : x ≠ "__name__" := by decide) (hd : (x == ("__debug__" : Str)) = false := by decide)
    (he : starEach [e, .Name x q] X.env = (false, eval e X.env) :: starEach [.Name x q] X.env := by rfl) (hs : starEach [.Name x q] X.env = (false, eval (.Name x q) X.env) :: starEach [] X.env := by rfl) (hpl : (backTo pos (starEach [.Name x q] X.env)).any (·.1) = false := by rfl) :
    DE X S (.Call (.Name "isinstance" p) [e, .Name x q] [] pos) (mIsi T ma) :=
  PE.imp (pe_callB call_isi hg hm (by decide +kernel) (pa_cons ha (pa_cons (pe_bltn (v := .ty T) hgT hmT hvT rfl hn hd) pa_nil hs) he) (by decide) (by decide) he hpl) fun σ H Q ⟨w, env, g, d, g', R, e, k⟩ => by
    obtain ⟨y, g1, e1, e⟩ := bD_some e
    obtain ⟨b, e2, e⟩ := Option.map_eq_some_iff.mp e
    cases e
    refine ⟨w, env, g, y, g', R, e1, fun v I' H' s' R' p => ?_⟩
    exact ⟨v, .ty T, .type (tyN y), .type T, b, rfl, .ty T, tyX_rp R'.eI p, kit_ty e2, k _ I' H' s' R' (.bl _)⟩
/-- isinstance(e, (S, T)) -/
def isTy2 (T U : String) (d : D) : Option Bool := match isTy T d with
  | some true => some true
  | some false => isTy U d
  | none => none
def mIsi2 (T U : String) (ma : ME G) : ME G := fun env g => bD (ma env g) fun d g1 => (isTy2 T U d).map fun b => (.bool b, g1)
theorem de_isi2 {T U : String} {x y : Str} {p q r tp : Pos} {kk : Nat} (hg : Gl X "isinstance") (hm : X.mg "isinstance" = none) (hgT : Gl X x) (hmT : X.mg x = none) (hvT : bootBuiltins x = some (.type T)) (hgU : Gl X y) (hmU : X.mg y = none) (hvU : bootBuiltins y = some (.type U)) (ha : DE X S e ma)
    (hn : x ≠ "__name__" := by decide) (hd : (x == ("__debug__" : Str)) = false := by decide) (hn2 : y ≠ "__name__" := by decide) (hd2 : (y == ("__debug__" : Str)) = false := by decide)
    (he : starEach [e, .Tuple [.Name x q, .Name y r] kk tp] X.env = (false, eval e X.env) :: starEach [.Tuple [.Name x q, .Name y r] kk tp] X.env := by rfl) (hs : starEach [.Tuple [.Name x q, .Name y r] kk tp] X.env = (false, eval (.Tuple [.Name x q, .Name y r] kk tp) X.env) :: starEach [] X.env := by rfl)
    (hs1 : starEach [.Name x q, .Name y r] X.env = (false, eval (.Name x q) X.env) :: starEach [.Name y r] X.env := by rfl) (hs2 : starEach [.Name y r] X.env = (false, eval (.Name y r) X.env) :: starEach [] X.env := by rfl)
    (hpl : (backTo pos (starEach [.Tuple [.Name x q, .Name y r] kk tp] X.env)).any (·.1) = false := by rfl) :
    DE X S (.Call (.Name "isinstance" p) [e, .Tuple [.Name x q, .Name y r] kk tp] [] pos) (mIsi2 T U ma) :=
  PE.imp (pe_callB call_isiT hg hm (by decide +kernel) (pa_cons ha (pa_cons (pe_tup (pa_cons (pe_bltn (v := .ty T) hgT hmT hvT rfl hn hd) (pa_cons (pe_bltn (v := .ty U) hgU hmU hvU rfl hn2 hd2) pa_nil hs2) hs1)) pa_nil hs) he) (by decide) (by decide) he hpl) fun σ H Q ⟨w, env, g, d, g', R, e, k⟩ => by
    obtain ⟨y, g1, e1, e⟩ := bD_some e
    obtain ⟨b, e2, e⟩ := Option.map_eq_some_iff.mp e
    cases e
    refine ⟨w, env, g, y, g', R, e1, fun v I' H' s' R' p => ⟨by show 2 ≤ sizeLine; decide, fun t ht => ?_⟩⟩
    refine ⟨v, t, [.ty T, .ty U], .type (tyN y), [.type T, .type U], b, rfl, upd_same, .cons (.ty T) (.cons (.ty U) .nil), tyX_rp (R'.eI.trans (same_new ht)) p, ?_, ?_⟩
    · unfold isTy2 at e2
      cases e3 : isTy T y with
      | none => rw [e3] at e2; cases e2
      | some c =>
        rw [e3] at e2
        cases c with
        | true => cases e2; exact kitAny_cons (kit_ty e3) (fun z => by cases z) fun _ => rfl
        | false =>
          refine kitAny_cons (kit_ty e3) (fun _ => ?_) (fun z => by cases z)
          have e2 : isTy U y = some b := e2
          unfold PySem.W.kitAny
          rw [show PySem.W.kitOne X.K (.type (tyN y)) (.type U) = some b from kit_ty e2]
          cases b <;> rfl
    · have ps := Pst.new (p := t) (o := HO.tup [V.ty T, V.ty U]) R'.eI ht
      exact k _ _ _ (Same.trans s' ps.eI) (R'.pst ps) (.bl _)

/-! ### methods of texts -/
def mM1 (f : D → D → Option D) (ma mb : ME G) : ME G := fun env g => bD (ma env g) fun x g1 => match x with
  | .str z => bD (mb env g1) fun y g2 => (f (.str z) y).map (·, g2)
  | _ => none
theorem te_m1 {r : V → List V → Hp → VK → Prop} {f : D → D → Option D} (hf : OpD X.K (fun x y H Q => r x [y] H Q) f) {σ : St} {H : Hp} {Q : VK} (h : tE X.K S (mM1 f ma mb) σ H Q) : tM1 r (tE X.K S ma) (tE X.K S mb) σ H Q := by
  obtain ⟨w, env, g, d, g', R, e, k⟩ := h
  obtain ⟨x, g1, e1, e⟩ := bD_some e
  split at e
  · obtain ⟨y, g2, e2, e⟩ := bD_some e
    obtain ⟨e3, rfl⟩ := map_some e
    refine ⟨w, env, g, _, g1, R, e1, fun v I1 H1 s1 R1 p1 => ?_⟩
    cases p1 with
    | str hx =>
      refine ⟨⟨_, rfl⟩, w.im I1, env, g1, y, g', R1, e2, fun u I2 H2 s2 R2 p2 => ?_⟩
      exact hf R2.eI (.str hx) p2 e3 fun v3 I3 H3 ps p3 => k v3 I3 H3 (s1.trans (Same.trans s2 ps.eI)) (R2.pst ps) p3
  · cases e
theorem mt_indexF : MtR X "str.index" (fun x xs H Q => ∃ (a b : Str) (i : Nat) (rest : List Nat), x = .str a ∧ xs = [.str b] ∧ Builtin.Str.occurrences a b 0 a.length 1 = i :: rest ∧ Q (.int (i : Nat)) H) := by
  intro pins s σ H x xs v us Q I rx rs h
  obtain ⟨a, b, i, rest, rfl, rfl, ho, q⟩ := h
  obtain ⟨t, rfl⟩ := rx
  cases rs with
  | cons r1 rs =>
    cases rs
    obtain ⟨u, rfl⟩ := r1
    exact PySem.SC.index ho ⟨.int (i : Nat), H, I.tok _, ⟨_, rfl⟩, q⟩
def dIndex : D → D → Option D
  | .str x, .str y => match Builtin.Str.occurrences x y 0 x.length 1 with
    | i :: _ => some (.int (i : Nat))
    | [] => none
  | _, _ => none
theorem od_index : OpD K (fun x y H Q => ∃ (a b : Str) (i : Nat) (rest : List Nat), x = .str a ∧ [y] = [.str b] ∧ Builtin.Str.occurrences a b 0 a.length 1 = i :: rest ∧ Q (.int (i : Nat)) H) dIndex := by
  intro I H x y d e z s p q hz Q k
  cases p with
  | str hx =>
    cases q with
    | str hy =>
      have hz : (match Builtin.Str.occurrences _ _ 0 _ 1 with
        | i :: _ => some (PyData.int (i : Nat))
        | [] => none) = some z := hz
      split at hz
      · rename_i i rest ho
        cases hz
        exact ⟨_, _, i, rest, rfl, rfl, ho, k _ I H (Pst.refl s) (.int _)⟩
      · cases hz
    | _ => cases hz
  | _ => cases hz
def strsD : List D → Option (List Str)
  | [] => some []
  | .str i :: ds => (strsD ds).map (i :: ·)
  | _ => none
theorem strsD_map : ∀ ns : List Str, strsD (ns.map .str) = some ns
  | [] => rfl
  | n :: ns => by show (strsD (ns.map .str)).map (n :: ·) = _; rw [strsD_map ns]; rfl
theorem strsD_some : ∀ {ds : List D} {ns : List Str}, strsD ds = some ns → ds = ns.map .str
  | [], _, h => by cases h; rfl
  | d :: ds, ns, h => by
    cases d with
    | str i =>
      obtain ⟨r, h1, rfl⟩ := Option.map_eq_some_iff.mp h
      rw [strsD_some h1]; rfl
    | _ => cases h
theorem RpA.strs {H : Hp} : ∀ {vs : List V} {ns : List Str}, RpA K H vs (ns.map .str) → vs = ns.map V.str ∧ ∀ n ∈ ns, SOk n
  | _, [], h => by cases h; exact ⟨rfl, fun _ h => nomatch h⟩
  | _, n :: ns, h => by
    cases h with
    | cons a b =>
      cases a with
      | str ha =>
        obtain ⟨h1, h2⟩ := RpA.strs b
        rw [List.map_cons, ← h1]
        refine ⟨rfl, fun m hm => ?_⟩
        rcases List.mem_cons.mp hm with e | e
        · rw [e]; exact ha
        · exact h2 m e
def dJoin : D → D → Option D
  | .str x, .list ds => (strsD ds).bind fun ys => if (ys.map (·.length)).sum + ys.length * x.length ≤ 16777216 ∧ x.length = 0 then some (.str ⟨((ys.map fun y => y.cps.toList).flatten).toArray⟩) else none
  | _, _ => none
theorem join_nil : ∀ {x : Str} {ys : List Str}, x.length = 0 → Txt.join x ys = ⟨((ys.map fun y => y.cps.toList).flatten).toArray⟩ := by
  intro x ys hx
  have hx' : TL.tl x = [] := by
    show x.cps.toList = []
    have : x.cps.size = 0 := hx
    apply List.eq_nil_of_length_eq_zero
    rw [Array.length_toList]; exact this
  have key : ∀ zs : List (List Nat), TL.joinL [] zs = zs.flatten := by
    intro zs
    induction zs with
    | nil => rfl
    | cons z zs ih =>
      cases zs with
      | nil => show z = z ++ []; rw [List.append_nil]
      | cons u us => show z ++ ([] ++ TL.joinL [] (u :: us)) = z ++ (u :: us).flatten; rw [ih]; rfl
  have h2 := TL.tl_join x ys
  rw [hx', key] at h2
  have h3 : (Txt.join x ys).cps.toList = (ys.map fun y => y.cps.toList).flatten := by
    rw [show Txt.join x ys = Str.join x ys from PySem.StrLaws.glued_eq_join x ys]
    exact h2
  cases e : Txt.join x ys with
  | mk cs =>
    rw [e] at h3
    congr
    apply Array.ext'
    rw [h3]
theorem sok_join {ys : List Str} (h : ∀ y ∈ ys, SOk y) (hz : (ys.map (·.length)).sum ≤ 16777216) : SOk ⟨((ys.map fun y => y.cps.toList).flatten).toArray⟩ := by
  refine ⟨?_, ?_⟩
  · show ((ys.map fun y => y.cps.toList).flatten).toArray.size ≤ sizeLine
    rw [List.size_toArray, List.length_flatten, List.map_map, line_val]
    have e : (ys.map (List.length ∘ fun y => y.cps.toList)) = ys.map (·.length) := by
      apply List.map_congr_left
      intro y _
      show y.cps.toList.length = y.cps.size
      rw [Array.length_toList]
    rw [e]; exact hz
  · simp only [PyData.canLay0]
    unfold PyData.strOk
    rw [Array.all_eq_true_iff_forall_mem]
    intro c hc
    have hc : c ∈ (ys.map fun y => y.cps.toList).flatten := by simpa using hc
    obtain ⟨l, hl, hcl⟩ := List.mem_flatten.mp hc
    obtain ⟨y, hy, rfl⟩ := List.mem_map.mp hl
    have h2 := (h y hy).2
    simp only [PyData.canLay0] at h2
    unfold PyData.strOk at h2
    rw [Array.all_eq_true_iff_forall_mem] at h2
    exact h2 c (by simpa using hcl)
theorem od_join : OpD K (fun x y H Q => ∃ a p, ∃ ys : List Str, x = .str a ∧ [y] = [.ref p] ∧ (SqL K H p (ys.map V.str) ∨ SqT K H p (ys.map V.str)) ∧ (ys.map (·.length)).sum + ys.length * a.length ≤ 16777216 ∧ Q (.str (Txt.join a ys)) H) dJoin := by
  intro I H x y d e z s p q hz Q k
  cases p with
  | str hx =>
    cases q with
    | lst hp ra hl =>
      have hz : (strsD _).bind _ = some z := hz
      obtain ⟨ys, e1, hz⟩ := Option.bind_eq_some_iff.mp hz
      split at hz
      · rename_i hc
        cases hz
        rw [strsD_some e1] at ra
        obtain ⟨f1, f2⟩ := RpA.strs ra
        rw [f1] at hp
        refine ⟨_, _, ys, rfl, rfl, .inl (SqL.of (s _ _ hp)), hc.1, ?_⟩
        rw [join_nil hc.2]
        exact k _ I H (Pst.refl s) (.str (sok_join f2 (by have := hc.1; omega)))
      · cases hz
    | _ => cases hz
  | _ => cases hz
theorem de_join {ap : Pos} (ho : DE X S a ma) (he : DE X S e me) (hs : starEach [e] X.env = [(false, eval e X.env)] := by rfl) (hbase : attributeBase a "join" X.env (eval a X.env) = eval a X.env := by rfl) (hline : (ap.endLine == pos.line) = true := by rfl) :
    DE X S (.Call (.Attribute a "join" ap) [e] [] pos) (mM1 dJoin ma me) := PE.imp (pe_join ho he hs hbase hline) fun _ _ _ h => te_m1 od_join h
theorem de_index {ap : Pos} (ho : DE X S a ma) (he : DE X S e me) (hs : starEach [e] X.env = [(false, eval e X.env)] := by rfl) (hbase : attributeBase a "index" X.env (eval a X.env) = eval a X.env := by rfl) (hline : (ap.endLine == pos.line) = true := by rfl) :
    DE X S (.Call (.Attribute a "index" ap) [e] [] pos) (mM1 dIndex ma me) := PE.imp (pe_m1 PySem.F.slot_str_index PySem.F.type_str_index mt_indexF ho he hs hbase hline) fun _ _ _ h => te_m1 od_index h
end
end Pd

/-! Pd: defs by name, constants; the law's list of draws. -/
namespace Pd
open PySem PySem.Spec L2
section
variable {G : Type} {X : Cx} {S : Gs G} {P : Program} {wd : World} {K : PySem.W.Frag} {mg : Str → Option Value} {base : Heap} {a b c e : Expr} {es : List Expr} {pos : Pos} {ma mb me : ME G} {ml : ML G}
/-- a def of the text, by its name -/
structure Dfn (K : PySem.W.Frag) (mg : Str → Option Value) (x qual : Str) (st : Stmt) (ps : List Str) : Prop where
  ex : ∃ f fd, Fun K x qual st f fd ∧ mg x = some (.ref f) ∧ Binds K fd ps []
/-- .. with its promise -/
structure Def1 (P : Program) (wd : World) (K : PySem.W.Frag) (mg : Str → Option Value) (base : Heap) (x : Str) (ps : List Str) (k : Nat) (sp : Sp) : Prop where
  ex : ∃ f fd, FnOk P wd K mg base CX0 k f fd ps sp ∧ mg x = some (.ref f) ∧ PySem.W.keepIn K (.ref f) = true ∧ Binds K fd ps []
theorem def_pure {x qual : Str} {st : Stmt} {N ps : List Str} {k : Nat} {m : MS Unit} (h : Dfn K mg x qual st ps) (Sc : FnScope N ps (defScope st)) (hb : ∀ f, Body P wd K mg base N qual st f k G0 m) : Def1 P wd K mg base x ps (k + 1) (spP K (runP N.length ps.length m)) := by
  obtain ⟨f, fd, F, hm, hB⟩ := h.ex
  exact ⟨f, fd, fn_pure F Sc (hb f), hm, F.kp, hB⟩
theorem def_new {x qual : Str} {st : Stmt} {N ps : List Str} {k : Nat} {m : MS Unit} (h : Dfn K mg x qual st ps) (Sc : FnScope N ps (defScope st)) (hb : ∀ f, Body P wd K mg base N qual st f k G0 m) : Def1 P wd K mg base x ps (k + 1) (spN K (runN N.length ps.length m)) := by
  obtain ⟨f, fd, F, hm, hB⟩ := h.ex
  exact ⟨f, fd, fn_new F Sc (hb f), hm, F.kp, hB⟩
theorem def_ghost {x qual : Str} {st : Stmt} {N ps : List Str} {k : Nat} {m : MS G} (h : Dfn K mg x qual st ps) (Sc : FnScope N ps (defScope st)) (hb : ∀ f, Body P wd K mg base N qual st f k S m) : Def1 P wd K mg base x ps (k + 1) (spG K S (runG N.length ps.length m)) := by
  obtain ⟨f, fd, F, hm, hB⟩ := h.ex
  exact ⟨f, fd, fn_ghost F Sc (hb f), hm, F.kp, hB⟩
theorem Def1.imp {x : Str} {ps : List Str} {k : Nat} {sp sp' : Sp} (h : Def1 P wd K mg base x ps k sp) (i : ∀ vs H Q E, sp' vs H Q E → sp vs H Q E) : Def1 P wd K mg base x ps k sp' := by
  obtain ⟨f, fd, F, r⟩ := h.ex
  exact ⟨f, fd, F.imp i, r⟩
theorem Def1.mono {x : Str} {ps : List Str} {j k : Nat} {sp : Sp} (h : Def1 P wd K mg base x ps j sp) (hk : j ≤ k) : Def1 P wd K mg base x ps k sp := by
  obtain ⟨f, fd, F, r⟩ := h.ex
  exact ⟨f, fd, F.mono hk, r⟩
/-- calls -/
theorem call_P {x : Str} {ps : List Str} {k : Nat} {F : List D → Option D} {p : Pos} (h : Def1 X.prog X.w X.K X.mg X.base x ps k (spP X.K F)) (hr : Room k X.A) (hg : Gl X x) (ha : DA X S (e :: es) ml) (hdb : (x == ("__debug__" : Str)) = false := by decide)
    (he : starEach (e :: es) X.env = (false, eval e X.env) :: starEach es X.env := by rfl) (hpl : (backTo pos (starEach es X.env)).any (·.1) = false := by rfl) : DE X S (.Call (.Name x p) (e :: es) [] pos) (mCall F ml) := by
  obtain ⟨f, fd, FF, hm, hk, hB⟩ := h.ex
  exact de_callP (pe_call FF hr hg hm hk hB .nil pass0 ha hdb he hpl)
theorem call_N {x : Str} {ps : List Str} {k : Nat} {F : List D → Option (List D)} {p : Pos} (h : Def1 X.prog X.w X.K X.mg X.base x ps k (spN X.K F)) (hr : Room k X.A) (hg : Gl X x) (ha : DA X S (e :: es) ml) (hdb : (x == ("__debug__" : Str)) = false := by decide)
    (he : starEach (e :: es) X.env = (false, eval e X.env) :: starEach es X.env := by rfl) (hpl : (backTo pos (starEach es X.env)).any (·.1) = false := by rfl) : DF X S (.Call (.Name x p) (e :: es) [] pos) (mCallF F ml) := by
  obtain ⟨f, fd, FF, hm, hk, hB⟩ := h.ex
  exact df_callN (pe_call FF hr hg hm hk hB .nil pass0 ha hdb he hpl)
theorem call_G {x : Str} {ps : List Str} {k : Nat} {F : List SV → G → Option (D × G)} {p : Pos} {mg' : MG G} (h : Def1 X.prog X.w X.K X.mg X.base x ps k (spG X.K S F)) (hr : Room k X.A) (hg : Gl X x) (ha : DG X S (e :: es) mg') (hdb : (x == ("__debug__" : Str)) = false := by decide)
    (he : starEach (e :: es) X.env = (false, eval e X.env) :: starEach es X.env := by rfl) (hpl : (backTo pos (starEach es X.env)).any (·.1) = false := by rfl) : DE X S (.Call (.Name x p) (e :: es) [] pos) (mCallG F mg') := by
  obtain ⟨f, fd, FF, hm, hk, hB⟩ := h.ex
  exact de_callG (pe_call FF hr hg hm hk hB .nil pass0 ha hdb he hpl)
theorem call_P0 {x : Str} {ps : List Str} {k : Nat} {F : List D → Option D} {p : Pos} (h : Def1 X.prog X.w X.K X.mg X.base x ps k (spP X.K F)) (hr : Room k X.A) (hg : Gl X x) (hdb : (x == ("__debug__" : Str)) = false := by decide) : DE X S (.Call (.Name x p) [] [] pos) (mCall F mNil) := by
  obtain ⟨f, fd, FF, hm, hk, hB⟩ := h.ex
  exact de_callP0 (pe_call0 FF hr hg hm hk hB .nil pass0 hdb)
theorem call_N0 {x : Str} {ps : List Str} {k : Nat} {F : List D → Option (List D)} {p : Pos} (h : Def1 X.prog X.w X.K X.mg X.base x ps k (spN X.K F)) (hr : Room k X.A) (hg : Gl X x) (hdb : (x == ("__debug__" : Str)) = false := by decide) : DF X S (.Call (.Name x p) [] [] pos) (mCallF F mNil) := by
  obtain ⟨f, fd, FF, hm, hk, hB⟩ := h.ex
  exact df_callN0 (pe_call0 FF hr hg hm hk hB .nil pass0 hdb)
/-- a module's constant -/
structure Cst (K : PySem.W.Frag) (mg : Str → Option Value) (x : Str) (d : D) : Prop where
  ex : ∃ u v, mg x = some u ∧ RelV v u ∧ ∀ H, Rp K H v d
theorem de_cst {x : Str} {d : D} (h : Cst X.K X.mg x d) (hg : Gl X x := by rfl) (hdb : (x == ("__debug__" : Str)) = false := by decide) : DE X S (.Name x pos) (mC d) := by
  obtain ⟨u, v, hm, r, q⟩ := h.ex
  exact de_glob hg hm r q hdb
theorem Cst.int {x : Str} {i : Int} {t : Tok} (h : mg x = some (.int i t)) : Cst K mg x (.int i) := ⟨_, .int i, h, ⟨t, rfl⟩, fun _ => .int i⟩
theorem Cst.str {x y : Str} {t : Tok} (h : mg x = some (.str y t)) (hy : SOk y) : Cst K mg x (.str y) := ⟨_, .str y, h, ⟨t, rfl⟩, fun _ => .str hy⟩

theorem hu64 {A : Around} {k : Nat} (hr : Room k A) : A.units + 64 < cLine := by have := hr.un; omega
theorem hu65 {A : Around} {k : Nat} (hr : Room k A) : A.units + 65 < cLine := by have := hr.un; omega

/-! ### the law's draws: a list of a count and a list of cells -/
structure Dr where
  s : Addr
  c : Addr
  n : Int
  cells : List Int
def drA : Gs Dr where
  fp := fun g a => a = g.s ∨ a = g.c
  ok := fun g H => g.s ≠ g.c ∧ H g.s = some (.lst [.int g.n, .ref g.c]) ∧ H g.c = some (.lst (g.cells.map V.int)) ∧ 0 < g.cells.length ∧ g.cells.length ≤ 63
  root := fun g => .ref g.s
  loc := fun {g H H'} h ⟨h1, h2, h3, h4⟩ => ⟨h1, (h _ (.inl rfl)).trans h2, (h _ (.inr rfl)).trans h3, h4⟩
  dom := fun {g H a} ⟨h1, h2, h3, h4⟩ ha => by
    rcases ha with rfl | rfl
    · rw [h2]; simp
    · rw [h3]; simp
/-- a draw below most: what it tells, what is left -/
def Dr.take (g : Dr) (most : Int) : Int × Dr :=
  let cell := g.cells.getD (g.n.fmod g.cells.length).toNat 0
  if cell < 1000000000000000000 then
    let n := g.n + 1
    let x := (cell * 48271 + n * 69621).fmod 2147483647
    let y := (x * 16807 + n * 7919).fmod 1000000007
    ((y.fdiv 7).fmod most, { g with n := n })
  else (cell.fmod most, { g with cells := g.cells.set (g.n.fmod g.cells.length).toNat (cell.fdiv most) })
theorem Dr.take_lo (g : Dr) {most : Int} (h : 0 < most) : 0 ≤ (g.take most).1 ∧ (g.take most).1 < most := by
  unfold Dr.take
  simp only
  split
  · exact ⟨Int.fmod_nonneg_of_pos _ h, Int.fmod_lt_of_pos _ h⟩
  · exact ⟨Int.fmod_nonneg_of_pos _ h, Int.fmod_lt_of_pos _ h⟩
/-- a draw, of data -/
def drawA (as : List SV) (g : Dr) : Option (D × Dr) := match as with
  | [.st, .sh (.int most)] => if 0 < most ∧ most < 1073741824 then some (.int (g.take most).1, (g.take most).2) else none
  | _ => none
end
end Pd

/-! Pd: the law's draws, its end. -/
namespace Pd
open PySem PySem.Spec L2
section
variable {G : Type} {X : Cx} {S : Gs G} {P : Program} {wd : World} {K : PySem.W.Frag} {mg : Str → Option Value} {base : Heap}
/-- what makes the list of draws tells -/
def spState (K : PySem.W.Frag) : Sp := fun vs H Q _ => ∃ (a : Addr) (ns : List Int), vs = [.ref a] ∧ SqL K H a (ns.map V.int) ∧ ns.length ≤ 63 ∧
  ∀ (g : Dr) (H' : Hp), H g.s = none → H g.c = none → drA.ok g H' → Same H H' → Q (.ref g.s) H'
theorem drawA_some {as : List SV} {g g' : Dr} {d : D} (h : drawA as g = some (d, g')) : ∃ most, as = [.st, .sh (.int most)] ∧ 0 < most ∧ most < 1073741824 ∧ d = .int (g.take most).1 ∧ g' = (g.take most).2 := by
  unfold drawA at h
  split at h
  · split at h
    · rename_i hm
      cases h
      exact ⟨_, rfl, hm.1, hm.2, rfl, rfl⟩
    · cases h
  · cases h
/-- the state behind a draw, for the caller -/
theorem dr_gst {I H H' : Hp} {g g' : Dr} (s : Same I H) (ok : drA.ok g H) (hs : g'.s = g.s) (hc : g'.c = g.c) (ok' : drA.ok g' H') (fI : ∀ a, drA.fp g a → I a = none) (h : ∀ a, a ≠ g.s → a ≠ g.c → H' a = H a) : Gst drA I H g I H' g' where
  eI := Same.refl _
  eH := fun a o e nf => by
    rw [h a (fun z => nf (.inl z)) (fun z => nf (.inr z))]; exact e
  sub := fun a o e => by
    have nf : ¬ drA.fp g a := fun z => by rw [fI a z] at e; cases e
    rw [h a (fun z => nf (.inl z)) (fun z => nf (.inr z))]; exact s a o e
  ag := fun _ _ => rfl
  fp' := fun a => by show (a = g'.s ∨ a = g'.c) ↔ (a = g.s ∨ a = g.c); rw [hs, hc]
  rt := by show V.ref g'.s = V.ref g.s; rw [hs]
  ok := ok'
theorem fmod_ix {n : Int} {l : Nat} (h : 0 < l) : ∃ j : Nat, n.fmod (l : Int) = (j : Int) ∧ j < l := by
  have h1 := Int.fmod_nonneg_of_pos n (show (0 : Int) < (l : Int) by omega)
  have h2 := Int.fmod_lt_of_pos n (show (0 : Int) < (l : Int) by omega)
  exact ⟨(n.fmod l).toNat, by omega, by omega⟩
theorem iteT' {b : Bool} {A B : Prop} (h : b = true) (k : A) : if b = true then A else B := by rw [if_pos h]; exact k
theorem iteF' {b : Bool} {A B : Prop} (h : b = false) (k : B) : if b = true then A else B := by rw [h]; exact k
theorem cut_ints (ns : List Int) (lo hi : Option Int) : ∃ ms : List Int, cutV (ns.map V.int) lo hi = ms.map V.int ∧ ms.length ≤ ns.length := by
  refine ⟨(ns.drop (HT.sIx (ns.map V.int).length 0 lo)).take (HT.sIx (ns.map V.int).length (ns.map V.int).length hi - HT.sIx (ns.map V.int).length 0 lo), ?_, ?_⟩
  · unfold cutV
    rw [List.map_take, List.map_drop]
  · rw [List.length_take, List.length_drop]; omega
/-- the law's promise -/
def spLaw (K : PySem.W.Frag) : Sp := fun vs H Q _ => ∃ (a : Addr) (ns : List Int), vs = [.ref a] ∧ SqL K H a (ns.map V.int) ∧ ns.length ≤ 63 ∧ ∀ H', Q (.bl true) H'
/-- the frame behind the list's making: i is its slot, N slots -/
def lawE (N i : Nat) : Env := (List.replicate N SV.un).set i .st
theorem law_start {N i : Nat} {m : MS Dr} {σ : St} {H : Hp} {g : Dr} {D : Ends} (hl : σ.length = N) (hi : σ[i]? = some (some (.ref g.s))) (ok : drA.ok g H) (hm : ∃ e g', m (lawE N i) g = some (.re (.bool true), e, g')) (k : ∀ H', D.rt (.bl true) H') :
    tS K drA m D σ H := by
  obtain ⟨e, g', hm⟩ := hm
  refine ⟨⟨fun _ => none, fun _ => none, fun _ => none, drA.fp g, .ref g.s⟩, lawE N i, g, .re (.bool true), e, g', ?_, hm, fun v σ' I' H' s' R' p => by cases p; exact k H'⟩
  have at_ : ∀ k, (lawE N i).at k = .un ∨ (k = i ∧ (lawE N i).at k = .st) := fun k => by
    unfold lawE
    rw [at_set]
    by_cases z : k = i ∧ i < (List.replicate N SV.un).length
    · rw [if_pos z]; exact .inr ⟨z.1, rfl⟩
    · rw [if_neg z]
      refine .inl ?_
      show (List.replicate N SV.un).getD k .un = .un
      rw [List.getD_eq_getElem?_getD, List.getElem?_replicate]
      split <;> rfl
  exact {
    e0 := fun _ _ z => nomatch z
    eI := fun _ _ z => nomatch z
    ag := fun _ _ z => nomatch z
    ge := Same.refl _
    gfp := fun _ => Iff.rfl
    grt := rfl
    gok := ok
    fI := fun _ _ => rfl
    f0 := fun _ _ => rfl
    len := by unfold lawE; rw [List.length_set, List.length_replicate]; exact hl
    slot := fun k => by
      rcases at_ k with e | ⟨rfl, e⟩
      · rw [e]; trivial
      · rw [e]; exact hi
    dis := fun k j p ds es _ e1 => by
      rcases at_ k with e | ⟨_, e⟩ <;> rw [e] at e1 <;> cases e1 }
end
end Pd

/-! Pd: plain tools, no program in sight. -/
namespace Pd
open PySem
section
variable {G : Type} {env env1 e1 e2 : Env} {g g1 g2 g3 : G} {m1 m2 : MS G} {ma mb : ME G} {mt mu : MT G} {ml : ML G}
/-- it ends with True -/
def Tr (m : MS G) (env : Env) (g : G) : Prop := ∃ e g1, m env g = some (.re (.bool true), e, g1)
theorem tr_seq (h1 : m1 env g = some (.nx, e1, g1)) (h2 : Tr m2 e1 g1) : Tr (mSeq m1 m2) env g := by
  obtain ⟨e, g3, h⟩ := h2
  exact ⟨e, g3, by unfold mSeq; rw [h1]; exact h⟩
theorem tr_ret (h : ma env g = some (.bool true, g1)) : Tr (mRet ma) env g := ⟨env, g1, by unfold mRet; rw [h]⟩
theorem seq_nx {r} (h1 : m1 env g = some (.nx, e1, g1)) (h2 : m2 e1 g1 = r) : mSeq m1 m2 env g = r := by unfold mSeq; rw [h1]; exact h2
theorem seq_re {d : D} (h1 : m1 env g = some (.re d, e1, g1)) : mSeq m1 m2 env g = some (.re d, e1, g1) := by unfold mSeq; rw [h1]
theorem seq_rl {ds : List D} (h1 : m1 env g = some (.rl ds, e1, g1)) : mSeq m1 m2 env g = some (.rl ds, e1, g1) := by unfold mSeq; rw [h1]
theorem seq_co (h1 : m1 env g = some (.co, e1, g1)) : mSeq m1 m2 env g = some (.co, e1, g1) := by unfold mSeq; rw [h1]
theorem seq_br (h1 : m1 env g = some (.br, e1, g1)) : mSeq m1 m2 env g = some (.br, e1, g1) := by unfold mSeq; rw [h1]
theorem if_t {r} (h : mt env g = some (true, g1)) (k : m1 env g1 = r) : mIfS mt m1 m2 env g = r := by unfold mIfS; rw [h]; exact k
theorem if_f {r} (h : mt env g = some (false, g1)) (k : m2 env g1 = r) : mIfS mt m1 m2 env g = r := by unfold mIfS; rw [h]; exact k
/-- an if whose test fails, nothing else -/
theorem if_no (h : mt env g = some (false, g1)) : mIfS mt m1 mSkip env g = some (.nx, env, g1) := if_f h rfl
theorem set_e {i : Nat} {d : D} (h : ma env g = some (d, g1)) : mSet i ma env g = some (.nx, env.set i (.sh d), g1) := by unfold mSet; rw [h]
theorem setF_e {i : Nat} {ds : List D} (h : ml env g = some (ds, g1)) : mSetF i ml env g = some (.nx, env.set i (.ow ds), g1) := by unfold mSetF; rw [h]
theorem then_e {j : Nat} (h : m1 env g = some (.nx, e1, g1)) : mThen m1 j env g = some (.nx, e1.frz j, g1) := by unfold mThen; rw [h]
theorem ret_e {d : D} (h : ma env g = some (d, g1)) : mRet ma env g = some (.re d, env, g1) := by unfold mRet; rw [h]
theorem retF_e {ds : List D} (h : ml env g = some (ds, g1)) : mRetF ml env g = some (.rl ds, env, g1) := by unfold mRetF; rw [h]
theorem drop_e {d : D} (h : ma env g = some (d, g1)) : mDrop ma env g = some (.nx, env, g1) := by unfold mDrop; rw [h]
/-! expressions -/
theorem op_e {f : D → D → Option D} {x y z : D} (ha : ma env g = some (x, g1)) (hb : mb env g1 = some (y, g2)) (h : f x y = some z) : mOp f ma mb env g = some (z, g2) := by unfold mOp; rw [ha]; dsimp only [bD]; rw [hb]; dsimp only [bD]; rw [h]; rfl
theorem un_e {f : D → Option D} {x z : D} (ha : ma env g = some (x, g1)) (h : f x = some z) : mUn f ma env g = some (z, g1) := by unfold mUn; rw [ha]; dsimp only [bD]; rw [h]; rfl
theorem m1_e {f : D → D → Option D} {x y z : D} (ha : ma env g = some (x, g1)) (hb : mb env g1 = some (y, g2)) (h : f x y = some z) (hx : ∃ s, x = .str s := by exact ⟨_, rfl⟩) : mM1 f ma mb env g = some (z, g2) := by
  obtain ⟨s, rfl⟩ := hx
  unfold mM1; rw [ha]; dsimp only [bD]; rw [hb]; dsimp only [bD]; rw [h]; rfl
theorem call_e {f : List D → Option D} {xs : List D} {z : D} (ha : ml env g = some (xs, g1)) (h : f xs = some z) : mCall f ml env g = some (z, g1) := by unfold mCall; rw [ha]; dsimp only [bD]; rw [h]; rfl
theorem callF_e {f : List D → Option (List D)} {xs : List D} {z : List D} (ha : ml env g = some (xs, g1)) (h : f xs = some z) : mCallF f ml env g = some (z, g1) := by unfold mCallF; rw [ha]; dsimp only [bD]; rw [h]; rfl
theorem callG_e {F : List SV → G → Option (D × G)} {m : MG G} {as : List SV} {r} (ha : m env g = some (as, g1)) (h : F as g1 = r) : mCallG F m env g = r := by unfold mCallG; rw [ha]; exact h
theorem cons_e {x : D} {xs : List D} (ha : ma env g = some (x, g1)) (hb : ml env g1 = some (xs, g2)) : mCons ma ml env g = some (x :: xs, g2) := by unfold mCons; rw [ha]; dsimp only [bD]; rw [hb]
theorem nil_e : mNil env g = some ([], g) := rfl
theorem c_e {d : D} : mC d env g = some (d, g) := rfl
theorem L_e {xs : List D} (h : ml env g = some (xs, g1)) : mL ml env g = some (.list xs, g1) := by unfold mL; rw [h]
theorem tup_e {xs : List D} (h : ml env g = some (xs, g1)) (hl : xs.length ≤ sizeLine := by exact Nat.le_of_ble_eq_true rfl) : mTup ml env g = some (.tuple xs, g1) := by unfold mTup; rw [h]; exact if_pos hl
theorem lst_e {xs : List D} (h : ml env g = some (xs, g1)) (hl : xs.length ≤ sizeLine := by exact Nat.le_of_ble_eq_true rfl) : mLst ml env g = some (xs, g1) := by unfold mLst; rw [h]; exact if_pos hl
theorem opT_e {f : D → D → Option D} {x y : D} {b : Bool} (ha : ma env g = some (x, g1)) (hb : mb env g1 = some (y, g2)) (h : f x y = some (.bool b)) : mOpT f ma mb env g = some (b, g2) := by unfold mOpT; rw [ha]; dsimp only [bD]; rw [hb]; dsimp only [bD]; rw [h]; rfl
theorem tru_e {x : D} {b : Bool} (ha : ma env g = some (x, g1)) (h : dTru x = some b) : mTru ma env g = some (b, g1) := by unfold mTru; rw [ha]; dsimp only [bD]; rw [h]; rfl
theorem not_e {b : Bool} (h : mt env g = some (b, g1)) : mNot mt env g = some (!b, g1) := by unfold mNot; rw [h]
theorem and_t {r} (h : mt env g = some (true, g1)) (k : mu env g1 = r) : mAnd mt mu env g = r := by unfold mAnd; rw [h]; exact k
theorem and_f (h : mt env g = some (false, g1)) : mAnd mt mu env g = some (false, g1) := by unfold mAnd; rw [h]; rfl
theorem or_t (h : mt env g = some (true, g1)) : mOr mt mu env g = some (true, g1) := by unfold mOr; rw [h]; rfl
theorem or_f {r} (h : mt env g = some (false, g1)) (k : mu env g1 = r) : mOr mt mu env g = r := by unfold mOr; rw [h]; exact k
theorem mif_t {α : Type} {a b : Env → G → Option (α × G)} {r} (h : mt env g = some (true, g1)) (k : a env g1 = r) : mIf mt a b env g = r := by unfold mIf; rw [h]; exact k
theorem mif_f {α : Type} {a b : Env → G → Option (α × G)} {r} (h : mt env g = some (false, g1)) (k : b env g1 = r) : mIf mt a b env g = r := by unfold mIf; rw [h]; exact k
theorem isi_e {T : String} {x : D} {b : Bool} (ha : ma env g = some (x, g1)) (h : isTy T x = some b) : mIsi T ma env g = some (.bool b, g1) := by unfold mIsi; rw [ha]; dsimp only [bD]; rw [h]; rfl
theorem cat_e {xs ys : List D} (ha : ma env g = some (.list xs, g1)) (hb : mb env g1 = some (.list ys, g2)) (hl : xs.length + ys.length ≤ sizeLine) : mCat ma mb env g = some (xs ++ ys, g2) := by unfold mCat; rw [ha]; dsimp only [bD]; rw [hb]; exact if_pos hl
theorem part_e {i : Int} (h : ma env g = some (.int i, g1)) : mPart ma env g = some (some i, g1) := by unfold mPart; rw [h]
theorem slL_e {lo hi : MO G} {xs : List D} {l h : Option Int} (ha : ma env g = some (.list xs, g1)) (hl : lo env g1 = some (l, g2)) (hh : hi env g2 = some (h, g3)) : mSlL ma lo hi env g = some (cut xs l h, g3) := by unfold mSlL; rw [ha]; dsimp only [bD]; rw [hl]; dsimp only [bD]; rw [hh]
/-! loops -/
theorem for_e {bt : MTg G} {mb : MS G} {ds : List D} {r} (h : ml env g = some (ds, g1)) (k : loopL bt mb ds env g1 = r) : mFor ml bt mb env g = r := by unfold mFor; rw [h]; exact k
theorem loop_inv {bt : MTg G} {mb : MS G} (Inv : Env → G → Prop) : ∀ {ds : List D} {env : Env} {g : G}, Inv env g → (∀ d ∈ ds, ∀ env g, Inv env g → ∃ e1, bt d env g = some (e1, g) ∧ ∃ e2 g2, (mb e1 g = some (.nx, e2, g2) ∨ mb e1 g = some (.co, e2, g2)) ∧ Inv e2 g2) →
    ∃ e2 g2, loopL bt mb ds env g = some (.nx, e2, g2) ∧ Inv e2 g2
  | [], env, g, h, _ => ⟨env, g, rfl, h⟩
  | d :: ds, env, g, h, k => by
    obtain ⟨e1, q1, e2, g2, q2, q3⟩ := k d (by simp) env g h
    obtain ⟨e3, g3, q4, q5⟩ := loop_inv Inv q3 fun d' hd => k d' (List.mem_cons_of_mem _ hd)
    refine ⟨e3, g3, ?_, q5⟩
    unfold loopL
    rw [q1]
    rcases q2 with q2 | q2 <;> (dsimp only; rw [q2]; exact q4)
/-- .. by the turn -/
theorem loop_at {bt : MTg G} {mb : MS G} (Inv : Nat → Env → G → Prop) : ∀ {ds : List D} {k : Nat} {env : Env} {g : G}, Inv k env g → (∀ i d, ds[i]? = some d → ∀ env g, Inv (k + i) env g → ∃ e1, bt d env g = some (e1, g) ∧ ∃ e2 g2, (mb e1 g = some (.nx, e2, g2) ∨ mb e1 g = some (.co, e2, g2)) ∧ Inv (k + i + 1) e2 g2) →
    ∃ e2 g2, loopL bt mb ds env g = some (.nx, e2, g2) ∧ Inv (k + ds.length) e2 g2
  | [], k, env, g, h, _ => ⟨env, g, rfl, h⟩
  | d :: ds, k, env, g, h, hk => by
    obtain ⟨e1, q1, e2, g2, q2, q3⟩ := hk 0 d rfl env g h
    obtain ⟨e3, g3, q4, q5⟩ := loop_at (k := k + 1) Inv q3 fun i d' hd env g hi => by
      have e : k + 1 + i = k + (i + 1) := by omega
      rw [e] at hi ⊢
      exact hk (i + 1) d' hd env g hi
    refine ⟨e3, g3, ?_, by rw [List.length_cons, show k + (ds.length + 1) = k + 1 + ds.length by omega]; exact q5⟩
    unfold loopL
    rw [q1]
    rcases q2 with q2 | q2 <;> (dsimp only; rw [q2]; exact q4)
/-- .. whose body tells nothing and returns nothing: from state to state -/
theorem comp_e {vs : List Nat} {bt : MTg G} {me : ME G} {ds : List D} {r} (h : ml env g = some (ds, g1)) (hv : (vs.all fun k => (env.at k).notOw) = true) (k : compL bt mt me (env.wipe vs) ds g1 = r) : mComp ml vs bt mt me env g = r := by unfold mComp; rw [h]; exact (if_pos hv).trans k
theorem compL_map {bt : MTg G} {me : ME G} (f : D → D) : ∀ {ds : List D}, (∀ d ∈ ds, ∃ e1, bt d env g = some (e1, g) ∧ me e1 g = some (f d, g)) → compL bt mYes me env ds g = some (ds.map f, g)
  | [], _ => rfl
  | d :: ds, h => by
    obtain ⟨e1, q1, q2⟩ := h d (by simp)
    unfold compL
    rw [q1]
    dsimp only [mYes]
    rw [q2]
    dsimp only
    rw [compL_map f fun d' hd => h d' (List.mem_cons_of_mem _ hd)]
    rfl
theorem compL_mm {α : Type} {bt : MTg G} {me : ME G} (f h : α → D) {l : List α} (k : ∀ a ∈ l, ∃ e1, bt (f a) env g = some (e1, g) ∧ me e1 g = some (h a, g)) : compL bt mYes me env (l.map f) g = some (l.map h, g) := by
  induction l with
  | nil => rfl
  | cons a l ih =>
    obtain ⟨e1, q1, q2⟩ := k a (by simp)
    rw [List.map_cons, List.map_cons]
    unfold compL
    rw [q1]
    dsimp only [mYes]
    rw [q2]
    dsimp only
    rw [ih fun d' hd => k d' (List.mem_cons_of_mem _ hd)]
theorem compL_ex {bt : MTg G} {me : ME G} (P : D → Prop) : ∀ {ds : List D} {g : G}, (∀ d ∈ ds, ∀ g, ∃ e1, bt d env g = some (e1, g) ∧ ∃ x g2, me e1 g = some (x, g2) ∧ P x) → ∃ xs g2, compL bt mYes me env ds g = some (xs, g2) ∧ xs.length = ds.length ∧ ∀ x ∈ xs, P x
  | [], g, _ => ⟨[], g, rfl, rfl, fun _ h => nomatch h⟩
  | d :: ds, g, h => by
    obtain ⟨e1, q1, x, g2, q2, q3⟩ := h d (by simp) g
    obtain ⟨xs, g4, q4, q5, q6⟩ := compL_ex P (g := g2) fun d' hd => h d' (List.mem_cons_of_mem _ hd)
    refine ⟨x :: xs, g4, ?_, by rw [List.length_cons, List.length_cons, q5], fun y hy => ?_⟩
    · unfold compL
      rw [q1]
      dsimp only [mYes]
      rw [q2]
      dsimp only
      rw [q4]
    · rcases List.mem_cons.mp hy with e | e
      · rw [e]; exact q3
      · exact q6 y e
theorem while_e {mb : MS G} (n : Nat) {r} (h : whileN mt mb n env g = some r) : mWhile mt mb env g = some r := mWhile_eq h
theorem wn_f {mb : MS G} {n : Nat} (h : mt env g = some (false, g1)) : whileN mt mb (n + 1) env g = some (.nx, env, g1) := by unfold whileN; rw [h]
theorem wn_t {mb : MS G} {n : Nat} {r} (h : mt env g = some (true, g1)) (hb : mb env g1 = some (.nx, e1, g2)) (k : whileN mt mb n e1 g2 = r) : whileN mt mb (n + 1) env g = r := by unfold whileN; rw [h]; dsimp only; rw [hb]; exact k
/-! defs -/
theorem runP_re {N n : Nat} {m : MS Unit} {ds : List D} {e : Env} {u : Unit} {d : D} (h : m (startE N (ds.map .sh)) () = some (.re d, e, u)) (hn : ds.length = n ∧ n ≤ N := by exact ⟨rfl, by decide⟩) : runP N n m ds = some d := by
  unfold runP runS
  rw [if_pos (by rw [List.length_map]; exact hn), h]
  rfl
theorem runP_rl {N n : Nat} {m : MS Unit} {ds xs : List D} {e : Env} {u : Unit} (h : m (startE N (ds.map .sh)) () = some (.rl xs, e, u)) (hn : ds.length = n ∧ n ≤ N := by exact ⟨rfl, by decide⟩) : runP N n m ds = some (.list xs) := by
  unfold runP runS
  rw [if_pos (by rw [List.length_map]; exact hn), h]
  rfl
theorem runN_rl {N n : Nat} {m : MS Unit} {ds xs : List D} {e : Env} {u : Unit} (h : m (startE N (ds.map .sh)) () = some (.rl xs, e, u)) (hn : ds.length = n ∧ n ≤ N := by exact ⟨rfl, by decide⟩) : runN N n m ds = some xs := by
  unfold runN runS
  rw [if_pos (by rw [List.length_map]; exact hn), h]
  rfl
theorem runG_re {N n : Nat} {m : MS G} {as : List SV} {e : Env} {d : D} (h : m (startE N as) g = some (.re d, e, g1)) (hn : as.length = n ∧ n ≤ N := by exact ⟨rfl, by decide⟩) : runG N n m as g = some (d, g1) := by
  unfold runG runS
  rw [if_pos hn, h]
  rfl
theorem runG_rl {N n : Nat} {m : MS G} {as : List SV} {e : Env} {xs : List D} (h : m (startE N as) g = some (.rl xs, e, g1)) (hn : as.length = n ∧ n ≤ N := by exact ⟨rfl, by decide⟩) : runG N n m as g = some (.list xs, g1) := by
  unfold runG runS
  rw [if_pos hn, h]
  rfl
/-! draws -/
theorem draw_ev {m : Int} (g : Dr) (h : 0 < m ∧ m < 1073741824) : ∃ j g1, drawA [.st, .sh (.int m)] g = some (.int j, g1) ∧ 0 ≤ j ∧ j < m := ⟨_, _, if_pos h, Dr.take_lo g h.1⟩
/-! data -/
theorem cut_to (xs : List D) (n : Nat) : cut xs none (some (n : Int)) = xs.take n := by
  unfold cut
  rw [HT.sIx_none, HT.sIx_nat, List.drop_zero, Nat.sub_zero]
  by_cases h : n ≤ xs.length
  · rw [Nat.min_eq_left h]
  · rw [Nat.min_eq_right (by omega), List.take_of_length_le (Nat.le_refl _), List.take_of_length_le (by omega)]
theorem cut_from (xs : List D) (n : Nat) : cut xs (some (n : Int)) none = xs.drop n := by
  unfold cut
  rw [HT.sIx_none, HT.sIx_nat]
  by_cases h : n ≤ xs.length
  · rw [Nat.min_eq_left h, List.take_of_length_le (by rw [List.length_drop]; exact Nat.le_refl _)]
  · rw [Nat.min_eq_right (by omega), List.drop_of_length_le (Nat.le_refl _), List.drop_of_length_le (by omega), List.take_nil]
theorem cut_mid (xs : List D) (a b : Nat) (h : b ≤ xs.length) : cut xs (some (a : Int)) (some (b : Int)) = (xs.drop a).take (b - a) := by
  unfold cut
  rw [HT.sIx_nat, HT.sIx_nat, Nat.min_eq_left h]
  by_cases q : a ≤ xs.length
  · rw [Nat.min_eq_left q]
  · rw [Nat.min_eq_right (by omega), List.drop_of_length_le (Nat.le_refl _), List.drop_of_length_le (by omega), List.take_nil, List.take_nil]
theorem cut_last (xs : List D) : cut xs none (some (-1)) = xs.dropLast := by
  unfold cut
  rw [HT.sIx_none, List.drop_zero, Nat.sub_zero, List.dropLast_eq_take]
  congr 1
  show (if (-1 : Int) < 0 then ((-1 : Int) + (xs.length : Int)).toNat else min (-1 : Int).toNat xs.length) = _
  rw [if_pos (by decide)]
  omega
abbrev iL (xs : List Int) : D := .list (xs.map .int)
theorem eqvAll_iL : ∀ xs ys : List Int, PyData.eqvAll (xs.map .int) (ys.map .int) = decide (xs = ys)
  | [], [] => by rw [List.map_nil, PyData.eqvAll]; rfl
  | [], y :: ys => by rw [List.map_nil, List.map_cons, PyData.eqvAll]; rfl
  | x :: xs, [] => by rw [List.map_nil, List.map_cons, PyData.eqvAll]; rfl
  | x :: xs, y :: ys => by
    rw [List.map_cons, List.map_cons, PyData.eqvAll, eqvAll_iL xs ys, PyData.eqv]
    by_cases h : x = y
    · subst h
      simp
    · simp [h]
theorem eqv_iL (xs ys : List Int) : PyData.eqv (iL xs) (iL ys) = decide (xs = ys) := by rw [PyData.eqv]; exact eqvAll_iL xs ys
theorem depth_iL (xs : List Int) : (iL xs).depth ≤ 64 := by
  have h : ∀ xs : List Int, PyData.depthAll (xs.map .int) = 0 := fun xs => by
    induction xs with
    | nil => rfl
    | cons x xs ih => rw [List.map_cons, PyData.depthAll, ih, PyData.depth]; rfl
  show (PyData.list _).depth ≤ 64
  rw [PyData.depth, h]
  decide
theorem eq_iL (xs ys : List Int) : dEq (iL xs) (iL ys) = some (.bool (decide (xs = ys))) := by unfold dEq; rw [if_pos ⟨depth_iL xs, depth_iL ys⟩, eqv_iL]
theorem ne_iL (xs ys : List Int) : dNe (iL xs) (iL ys) = some (.bool (!decide (xs = ys))) := by unfold dNe; rw [if_pos ⟨depth_iL xs, depth_iL ys⟩, eqv_iL]
theorem alike_iL : ∀ xs ys : List Int, PySem.W.alikeAll (xs.map .int) (ys.map .int) = true
  | [], _ => by rw [List.map_nil]; cases h : (List.map PyData.int _) <;> simp [PySem.W.alikeAll]
  | x :: xs, [] => by rw [List.map_nil, List.map_cons]; simp [PySem.W.alikeAll]
  | x :: xs, y :: ys => by rw [List.map_cons, List.map_cons, PySem.W.alikeAll, alike_iL xs ys]; simp [PySem.W.alike]
theorem ltAll_iL : ∀ xs ys : List Int, PyProof.Rows.lexLt PyProof.Rows.itemOrd (PySem.W.keyToksAll (xs.map .int)) (PySem.W.keyToksAll (ys.map .int)) = decide (xs < ys)
  | [], [] => by decide
  | [], y :: ys => by
    rw [List.map_nil, List.map_cons]
    have : ([] : List Int) < y :: ys := List.nil_lt_cons y ys
    rw [decide_eq_true this]
    rw [PySem.W.keyToksAll, PySem.W.keyToksAll]
    rfl
  | x :: xs, [] => by
    rw [List.map_nil, List.map_cons]
    have : ¬ (x :: xs) < ([] : List Int) := List.not_lt_nil _
    rw [decide_eq_false this]
    rw [PySem.W.keyToksAll, PySem.W.keyToksAll]
    rfl
  | x :: xs, y :: ys => by
    rw [List.map_cons, List.map_cons]
    have al : PySem.W.alike (.int x) (.int y) = true := by simp [PySem.W.alike]
    by_cases h : x = y
    · subst h
      rw [PySem.W.dataLt_all_yes al (by rw [PyData.eqv]; simp), ltAll_iL xs ys]
      simp [List.cons_lt_cons_iff]
    · rw [PySem.W.dataLt_all_no al (by rw [PyData.eqv]; simp [h]), PySem.W.dataLt_int]
      simp [List.cons_lt_cons_iff, h]
theorem lt_iL (xs ys : List Int) : dLt (iL xs) (iL ys) = some (.bool (decide (xs < ys))) := by
  unfold dLt
  rw [if_pos ⟨depth_iL xs, depth_iL ys, by rw [PySem.W.alike]; exact alike_iL xs ys, rfl⟩, PySem.W.dataLt_list, ltAll_iL]
theorem ix_nat {ds : List D} {j : Nat} {x : D} (h : ds[j]? = some x) : dIx (.list ds) (.int j) = some x := L2.atI_nat h
theorem len_e {ds : List D} : dLen [.list ds] = some (.int ds.length) := rfl
end
end Pd
namespace Pd
open PySem
theorem index_e {x y : Str} {i : Nat} (h : (Builtin.Str.occurrences x y 0 x.length 1).head? = some i) : dIndex (.str x) (.str y) = some (.int i) := by
  unfold dIndex
  cases e : Builtin.Str.occurrences x y 0 x.length 1 with
  | nil => rw [e] at h; cases h
  | cons j t => rw [e] at h; cases h; simp only [e]
end Pd
namespace Pd
open PySem
theorem lt_t {i j : Int} (h : i < j) : dLtI (.int i) (.int j) = some (.bool true) := by show some (PyData.bool (decide _)) = _; rw [decide_eq_true h]
theorem lt_f {i j : Int} (h : ¬ i < j) : dLtI (.int i) (.int j) = some (.bool false) := by show some (PyData.bool (decide _)) = _; rw [decide_eq_false h]
theorem le_t {i j : Int} (h : i ≤ j) : dLeI (.int i) (.int j) = some (.bool true) := by show some (PyData.bool (decide _)) = _; rw [decide_eq_true h]
theorem le_f {i j : Int} (h : ¬ i ≤ j) : dLeI (.int i) (.int j) = some (.bool false) := by show some (PyData.bool (decide _)) = _; rw [decide_eq_false h]
theorem gt_t {i j : Int} (h : j < i) : dGtI (.int i) (.int j) = some (.bool true) := by show some (PyData.bool (decide _)) = _; rw [decide_eq_true h]
theorem gt_f {i j : Int} (h : ¬ j < i) : dGtI (.int i) (.int j) = some (.bool false) := by show some (PyData.bool (decide _)) = _; rw [decide_eq_false h]
theorem ge_t {i j : Int} (h : j ≤ i) : dGeI (.int i) (.int j) = some (.bool true) := by show some (PyData.bool (decide _)) = _; rw [decide_eq_true h]
theorem ge_f {i j : Int} (h : ¬ j ≤ i) : dGeI (.int i) (.int j) = some (.bool false) := by show some (PyData.bool (decide _)) = _; rw [decide_eq_false h]
theorem eq_int (i j : Int) : dEq (.int i) (.int j) = some (.bool (i == j)) := by
  unfold dEq
  rw [if_pos ⟨by rw [PyData.depth]; decide, by rw [PyData.depth]; decide⟩, PyData.eqv]
theorem eq_it {i j : Int} (h : i = j) : dEq (.int i) (.int j) = some (.bool true) := by rw [eq_int, h]; simp
theorem eq_if {i j : Int} (h : i ≠ j) : dEq (.int i) (.int j) = some (.bool false) := by rw [eq_int, beq_false_of_ne h]
theorem mul_r {i j : Int} (h : -(2 ^ 64) < j ∧ j < 2 ^ 64) : dMul (.int i) (.int j) = some (.int (i * j)) := if_pos (Or.inr h)
theorem mul_l {i j : Int} (h : -(2 ^ 64) < i ∧ i < 2 ^ 64) : dMul (.int i) (.int j) = some (.int (i * j)) := if_pos (Or.inl h)
theorem iL_get {xs : List Int} {j : Nat} {i : Int} (h : xs[j]? = some i) : dIx (iL xs) (.int (j : Int)) = some (.int i) := ix_nat (by rw [List.getElem?_map, h]; rfl)
theorem iL_len {xs : List Int} : dLen [iL xs] = some (.int (xs.length : Int)) := by show some (PyData.int ((xs.map _).length : Int)) = _; rw [List.length_map]
theorem get_lt {xs : List Int} {j : Nat} {i : Int} (h : xs[j]? = some i) : (j : Int) < (xs.length : Int) := by
  have := (List.getElem?_eq_some_iff.mp h).1
  omega
end Pd
namespace Pd
open PySem
theorem chain_f {G : Type} {env : Env} {g g1 g2 : G} {f f' : D → D → Option D} {ma mb mc : ME G} {x y : D} (ha : ma env g = some (x, g1)) (hb : mb env g1 = some (y, g2)) (h : f x y = some (.bool false)) : mChainT f f' ma mb mc env g = some (false, g2) := by
  unfold mChainT; rw [ha]; dsimp only [bD]; rw [hb]; dsimp only [bD]; rw [h]
theorem chain_t {G : Type} {env : Env} {g g1 g2 g3 : G} {f f' : D → D → Option D} {ma mb mc : ME G} {x y z : D} {b : Bool} (ha : ma env g = some (x, g1)) (hb : mb env g1 = some (y, g2)) (h : f x y = some (.bool true)) (hc : mc env g2 = some (z, g3)) (h' : f' y z = some (.bool b)) : mChainT f f' ma mb mc env g = some (b, g3) := by
  unfold mChainT; rw [ha]; dsimp only [bD]; rw [hb]; dsimp only [bD]; rw [h]; dsimp only; rw [hc]; dsimp only [bD]; rw [h']; rfl
end Pd
namespace Pd
open PySem
theorem itL_e {G : Type} {env : Env} {g g1 : G} {ma : ME G} {xs : List D} (h : ma env g = some (.list xs, g1)) : mItL ma env g = some (xs, g1) := by unfold mItL; rw [h]
theorem itT_e {G : Type} {env : Env} {g g1 : G} {ma : ME G} {xs : List D} (h : ma env g = some (.tuple xs, g1)) : mItT ma env g = some (xs, g1) := by unfold mItT; rw [h]
theorem rng1_e {G : Type} {env : Env} {g g1 : G} {ml : ML G} {j : Int} (h : ml env g = some ([.int j], g1)) (hj : -16777216 < j ∧ j < 16777216) : mRng1 ml env g = some (rng 0 j.toNat, g1) := by unfold mRng1; rw [h]; exact if_pos hj
theorem rng2_e {G : Type} {env : Env} {g g1 : G} {ml : ML G} {i j : Int} (h : ml env g = some ([.int i, .int j], g1)) (hi : (-16777216 < i ∧ i < 16777216) ∧ -16777216 < j ∧ j < 16777216 ∧ j - i < 16777216) : mRng2 ml env g = some (rng i (j - i).toNat, g1) := by unfold mRng2; rw [h]; exact if_pos hi
theorem rng_mem {n : Nat} {d : D} (h : d ∈ rng 0 n) : ∃ k : Nat, k < n ∧ d = .int (k : Int) := by
  unfold rng at h
  obtain ⟨k, hk, rfl⟩ := List.mem_map.mp h
  exact ⟨k, List.mem_range.mp hk, by rw [Int.zero_add]⟩
end Pd
namespace Pd
open PySem
theorem lt_first {i j : Int} {xs ys : List D} (h : i ≠ j) : dLt (.tuple (.int i :: xs)) (.tuple (.int j :: ys)) = some (.bool (decide (i < j))) := by
  unfold dLt
  split
  · rw [PySem.W.dataLt_tuple, PySem.W.dataLt_all_no (by rw [PySem.W.alike]) (by rw [PyData.eqv]; exact beq_false_of_ne h), PySem.W.dataLt_int]
  · show (if i = j then none else some (PyData.bool (decide (i < j)))) = _
    rw [if_neg h]
theorem ltAll_one {x y : D} (al : PySem.W.alike x y = true) : PyProof.Rows.lexLt PyProof.Rows.itemOrd (PySem.W.keyToksAll [x]) (PySem.W.keyToksAll [y]) = PySem.W.dataLt x y := by
  cases e : PyData.eqv x y with
  | false => exact PySem.W.dataLt_all_no al e
  | true =>
    rw [PySem.W.dataLt_all_yes al e]
    unfold PySem.W.dataLt
    rw [(PySem.W.toks_eqv x y al).1 e]
    have h : ∀ l : List (Int ⊕ List Nat), PyProof.Rows.lexLt PyProof.Rows.itemOrd l l = false := fun l => by
      have := PySem.W.lex_pre l [] []
      rw [List.append_nil] at this
      rw [this]; rfl
    rw [h, h]
theorem lt_second {i : Int} {x y : D} (al : PySem.W.alike x y = true) (hx : x.depth ≤ 60) (hy : y.depth ≤ 60) : dLt (.tuple [.int i, x]) (.tuple [.int i, y]) = some (.bool (PySem.W.dataLt x y)) := by
  unfold dLt
  have d1 : ∀ {z : D}, z.depth ≤ 60 → (PyData.tuple [.int i, z]).depth ≤ 64 := fun {z} hz => by
    rw [PyData.depth, PyData.depthAll, PyData.depthAll, PyData.depthAll, PyData.depth]; omega
  rw [if_pos ⟨d1 hx, d1 hy, by rw [PySem.W.alike, PySem.W.alikeAll, PySem.W.alikeAll, PySem.W.alikeAll, al, PySem.W.alike]; rfl, rfl⟩]
  · rw [PySem.W.dataLt_tuple, PySem.W.dataLt_all_yes (by rw [PySem.W.alike]) (by rw [PyData.eqv]; simp), ltAll_one al]
theorem eq_flat {x y : D} (hx : x.depth ≤ 64) (hy : y.depth ≤ 64) : dEq x y = some (.bool (PyData.eqv x y)) := if_pos ⟨hx, hy⟩
theorem ne_flat {x y : D} (hx : x.depth ≤ 64) (hy : y.depth ≤ 64) : dNe x y = some (.bool (!PyData.eqv x y)) := if_pos ⟨hx, hy⟩
end Pd
namespace Pd
open PySem
theorem compL_cons {G : Type} {env e1 : Env} {g g2 g3 : G} {bt : MTg G} {me : ME G} {d x : D} {ds xs : List D} (h1 : bt d env g = some (e1, g)) (h2 : me e1 g = some (x, g2)) (h3 : compL bt mYes me env ds g2 = some (xs, g3)) : compL bt mYes me env (d :: ds) g = some (x :: xs, g3) := by
  unfold compL
  rw [h1]
  dsimp only [mYes]
  rw [h2]
  dsimp only
  rw [h3]
theorem compL_nil {G : Type} {env : Env} {g : G} {bt : MTg G} {me : ME G} {mt : MT G} : compL bt mt me env [] g = some ([], g) := rfl
end Pd
namespace Pd
open PySem
theorem div_e {i j : Int} (h : j ≠ 0 ∧ j.natAbs < 1073741824) : dDiv (.int i) (.int j) = some (.int (i.fdiv j)) := if_pos h
theorem mod_e {i j : Int} (h : j ≠ 0) : dMod (.int i) (.int j) = some (.int (i.fmod j)) := if_pos h
theorem var_e {G : Type} {env : Env} {g : G} {i : Nat} {d : D} (h : env.at i = .sh d) : mVar i env g = some (d, g) := by unfold mVar; rw [h]
end Pd
namespace Pd
open PySem
theorem map_of {α : Type} {f : α → D} {P : α → Prop} : ∀ {xs : List D}, (∀ x ∈ xs, ∃ a, x = f a ∧ P a) → ∃ l : List α, xs = l.map f ∧ ∀ a ∈ l, P a
  | [], _ => ⟨[], rfl, fun _ h => nomatch h⟩
  | x :: xs, h => by
    obtain ⟨a, e, p⟩ := h x (by simp)
    obtain ⟨l, e', p'⟩ := map_of (xs := xs) fun y hy => h y (List.mem_cons_of_mem _ hy)
    refine ⟨a :: l, by rw [e, e']; rfl, fun b hb => ?_⟩
    rcases List.mem_cons.mp hb with z | z
    · rw [z]; exact p
    · exact p' b z
theorem depth_iL1 (xs : List Int) : (iL xs).depth ≤ 1 := by
  have h : ∀ xs : List Int, PyData.depthAll (xs.map .int) = 0 := fun xs => by
    induction xs with
    | nil => rfl
    | cons x xs ih => rw [List.map_cons, PyData.depthAll, ih, PyData.depth]; rfl
  show (PyData.list _).depth ≤ 1
  rw [PyData.depth, h]
  decide
theorem depthAll_le {n : Nat} : ∀ {xs : List D}, (∀ x ∈ xs, x.depth ≤ n) → PyData.depthAll xs ≤ n
  | [], _ => Nat.zero_le _
  | x :: xs, h => by
    rw [PyData.depthAll]
    exact Nat.max_le.mpr ⟨h x (by simp), depthAll_le fun y hy => h y (List.mem_cons_of_mem _ hy)⟩
theorem depth_list {n : Nat} {xs : List D} (h : ∀ x ∈ xs, x.depth ≤ n) : (PyData.list xs).depth ≤ n + 1 := by
  rw [PyData.depth]
  have := depthAll_le h
  omega
theorem depth_tup {n : Nat} {xs : List D} (h : ∀ x ∈ xs, x.depth ≤ n) : (PyData.tuple xs).depth ≤ n + 1 := by
  rw [PyData.depth]
  have := depthAll_le h
  omega
mutual
/-- data without dicts -/
def noDict : D → Bool
  | .none => true
  | .bool _ => true
  | .int _ => true
  | .str _ => true
  | .list xs => noDictA xs
  | .tuple xs => noDictA xs
  | .dict _ => false
def noDictA : List D → Bool
  | [] => true
  | x :: xs => noDict x && noDictA xs
end
mutual
theorem alike_self : ∀ {x : D}, noDict x = true → PySem.W.alike x x = true
  | .none, _ => by rw [PySem.W.alike]
  | .bool _, _ => by rw [PySem.W.alike]
  | .int _, _ => by rw [PySem.W.alike]
  | .str _, _ => by rw [PySem.W.alike]
  | .list xs, h => by rw [noDict] at h; rw [PySem.W.alike]; exact alikeAll_self h
  | .tuple xs, h => by rw [noDict] at h; rw [PySem.W.alike]; exact alikeAll_self h
  | .dict _, h => by rw [noDict] at h; cases h
theorem alikeAll_self : ∀ {xs : List D}, noDictA xs = true → PySem.W.alikeAll xs xs = true
  | [], _ => by rw [PySem.W.alikeAll]
  | x :: xs, h => by
    rw [noDictA, Bool.and_eq_true] at h
    rw [PySem.W.alikeAll, alike_self h.1, alikeAll_self h.2]
    rfl
end
theorem eqv_self {x : D} (h : noDict x = true) : PyData.eqv x x = true := PySem.W.eqv_refl_alike x (alike_self h)
theorem noDictA_of : ∀ {xs : List D}, (∀ x ∈ xs, noDict x = true) → noDictA xs = true
  | [], _ => by rw [noDictA]
  | x :: xs, h => by rw [noDictA, h x (by simp), noDictA_of fun y hy => h y (List.mem_cons_of_mem _ hy)]; rfl
theorem noDict_iL (xs : List Int) : noDict (iL xs) = true := by
  rw [noDict]
  refine noDictA_of fun x hx => ?_
  obtain ⟨i, _, rfl⟩ := List.mem_map.mp hx
  rw [noDict]
theorem eq_self {x : D} (h : noDict x = true) (hd : x.depth ≤ 64) : dEq x x = some (.bool true) := by rw [eq_flat hd hd, eqv_self h]
theorem ne_self {x : D} (h : noDict x = true) (hd : x.depth ≤ 64) : dNe x x = some (.bool false) := by rw [ne_flat hd hd, eqv_self h]; rfl
theorem ne_bb (a b : Bool) : dNe (.bool a) (.bool b) = some (.bool (a != b)) := by
  rw [ne_flat (by rw [PyData.depth]; decide) (by rw [PyData.depth]; decide), PyData.eqv]; rfl
theorem ne_int (a b : Int) : dNe (.int a) (.int b) = some (.bool (!(a == b))) := by
  rw [ne_flat (by rw [PyData.depth]; decide) (by rw [PyData.depth]; decide), PyData.eqv]
end Pd
namespace Pd
open PySem
theorem band_t {G : Type} {env : Env} {g g1 : G} {ma mb : ME G} {r} (h : ma env g = some (.bool true, g1)) (k : mb env g1 = r) : mBAnd ma mb env g = r := by unfold mBAnd; rw [h]; exact k
end Pd
namespace Pd
open PySem
section
variable {G : Type} {env e1 e2 : Env} {g g1 g2 : G}
theorem rng_zero (lo : Int) : rng lo 0 = [] := rfl
theorem rng_succ (lo : Int) (n : Nat) : rng lo (n + 1) = .int lo :: rng (lo + 1) n := by
  unfold rng
  rw [List.range_succ_eq_map, List.map_cons, List.map_map]
  congr 1
  · simp
  · apply List.map_congr_left
    intro k _
    simp only [Function.comp]
    congr 1
    omega
theorem rng0 (n : Nat) : rng 0 n = (List.range n).map fun k => .int (k : Int) := by
  unfold rng
  apply List.map_congr_left
  intro k _
  rw [Int.zero_add]
theorem compL_filter {α : Type} {bt : MTg G} {me : ME G} {mt : MT G} (f h : α → D) (p : α → Bool) {l : List α} (k : ∀ a ∈ l, ∃ e1, bt (f a) env g = some (e1, g) ∧ mt e1 g = some (p a, g) ∧ me e1 g = some (h a, g)) :
    compL bt mt me env (l.map f) g = some ((l.filter p).map h, g) := by
  induction l with
  | nil => rfl
  | cons a l ih =>
    obtain ⟨e1, q1, q2, q3⟩ := k a (by simp)
    have ih := ih fun d' hd => k d' (List.mem_cons_of_mem _ hd)
    rw [List.map_cons]
    unfold compL
    rw [q1]
    dsimp only
    rw [q2]
    cases hp : p a with
    | false => rw [List.filter_cons_of_neg (by rw [hp]; decide)]; exact ih
    | true =>
      rw [List.filter_cons_of_pos hp, List.map_cons]
      dsimp only
      rw [q3]
      dsimp only
      rw [ih]
theorem asg_e {b : MTg G} {ma : ME G} {d : D} (h : ma env g = some (d, g1)) (hb : b d env g1 = some (e1, g2)) : mAsg b ma env g = some (.nx, e1, g2) := by unfold mAsg; rw [h]; dsimp only [bD]; rw [hb]; rfl
theorem par_e {i j : Nat} {ml : ML G} {x y : D} (h : ml env g = some ([x, y], g1)) : mPar i j ml env g = some (.nx, (env.set i (.sh x)).set j (.sh y), g1) := by unfold mPar; rw [h]
theorem enum_e {ml : ML G} {ds : List D} (h : ml env g = some ([.list ds], g1)) : mEnum ml env g = some (enm 0 ds, g1) := by unfold mEnum; rw [h]
theorem loop_nil {bt : MTg G} {mb : MS G} : loopL bt mb [] env g = some (.nx, env, g) := rfl
theorem loop_nx {bt : MTg G} {mb : MS G} {d : D} {ds : List D} {r} (h1 : bt d env g = some (e1, g1)) (h2 : mb e1 g1 = some (.nx, e2, g2)) (h3 : loopL bt mb ds e2 g2 = r) : loopL bt mb (d :: ds) env g = r := by
  unfold loopL; rw [h1]; dsimp only; rw [h2]; exact h3
theorem loop_re {bt : MTg G} {mb : MS G} {d x : D} {ds : List D} (h1 : bt d env g = some (e1, g1)) (h2 : mb e1 g1 = some (.re x, e2, g2)) : loopL bt mb (d :: ds) env g = some (.re x, e2, g2) := by
  unfold loopL; rw [h1]; dsimp only; rw [h2]
theorem setIx_e {j : Nat} {mi me : ME G} {d : D} {i : Int} {ds : List D} {k : Nat} (h : me env g = some (d, g1)) (hi : mi env g1 = some (.int i, g2)) (hj : env.at j = .ow ds) (hk : L2.ixN ds.length i = some k) : mSetIx j mi me env g = some (.nx, env.set j (.ow (ds.set k d)), g2) := by
  unfold mSetIx; rw [h]; dsimp only [bD]; rw [hi]; dsimp only [bD]; rw [hj]; dsimp only; rw [hk]; rfl
theorem ixOw_e {j : Nat} {mi : ME G} {d : D} {i : Int} {ds : List D} (hi : mi env g = some (.int i, g1)) (hj : env.at j = .ow ds) (hk : L2.atI ds i = some d) : mIxOw j mi env g = some (d, g1) := by
  unfold mIxOw; rw [hi]; dsimp only [bD]; rw [hj]; dsimp only; rw [hk]; rfl
theorem ixN_nat {n k : Nat} (h : k < n) : L2.ixN n (k : Int) = some k := by
  unfold L2.ixN
  rw [if_pos (by omega), if_pos (by omega)]; simp
theorem app_e {j : Nat} {me : ME G} {d : D} {ds : List D} (h : me env g = some (d, g1)) (hj : env.at j = .ow ds) (hl : ds.length < sizeLine) : mApp j me env g = some (.nx, env.set j (.ow (ds ++ [d])), g1) := by
  unfold mApp; rw [h]; dsimp only [bD]; rw [hj]; exact if_pos hl
theorem retOw_e {j : Nat} {ds : List D} (hj : env.at j = .ow ds) : mRetOw j env g = some (.rl ds, env.set j .un, g) := by unfold mRetOw; rw [hj]
end
end Pd
namespace Pd
open PySem
theorem neq_f {i j : Int} (h : i = j) : dNe (.int i) (.int j) = some (.bool false) := by rw [ne_int, h]; simp
theorem neq_t {i j : Int} (h : i ≠ j) : dNe (.int i) (.int j) = some (.bool true) := by rw [ne_int, beq_false_of_ne h]; rfl
/-- it tells d, and ends -/
def Re {G : Type} (d : D) (m : MS G) (env : Env) (g : G) : Prop := ∃ e g1, m env g = some (.re d, e, g1)
section
variable {G : Type} {env env1 e1 e2 : Env} {g g1 g2 g3 : G} {m1 m2 : MS G} {ma mb : ME G} {mt mu : MT G} {ml : ML G} {d : D}
theorem re_nx (h1 : m1 env g = some (.nx, e1, g1)) (h2 : Re d m2 e1 g1) : Re d (mSeq m1 m2) env g := by
  obtain ⟨e, g3, h⟩ := h2
  exact ⟨e, g3, seq_nx h1 h⟩
theorem re_in (h : Re d m1 env g) : Re d (mSeq m1 m2) env g := by
  obtain ⟨e, g3, h⟩ := h
  exact ⟨e, g3, seq_re h⟩
theorem re_ift (h : mt env g = some (true, g1)) (k : Re d m1 env g1) : Re d (mIfS mt m1 m2) env g := by
  obtain ⟨e, g3, k⟩ := k
  exact ⟨e, g3, if_t h k⟩
theorem re_iff (h : mt env g = some (false, g1)) (k : Re d m2 env g1) : Re d (mIfS mt m1 m2) env g := by
  obtain ⟨e, g3, k⟩ := k
  exact ⟨e, g3, if_f h k⟩
theorem re_ret (h : ma env g = some (d, g1)) : Re d (mRet ma) env g := ⟨_, _, ret_e h⟩
theorem re_e {e g3} (h : m1 env g = some (.re d, e, g3)) : Re d m1 env g := ⟨e, g3, h⟩
end
theorem runP_Re {N n : Nat} {m : MS Unit} {ds : List D} {d : D} (h : Re d m (startE N (ds.map .sh)) ()) (hn : ds.length = n ∧ n ≤ N := by exact ⟨rfl, by decide⟩) : runP N n m ds = some d := by
  obtain ⟨e, u, h⟩ := h
  exact runP_re h hn
end Pd
namespace Pd
open PySem
theorem any_e {α : Type} (l : List α) (f : α → Bool) : dAny [.list (l.map fun z => .bool (f z))] = some (.bool (l.any f)) := by
  have e : l.map (fun z => PyData.bool (f z)) = (l.map f).map .bool := by rw [List.map_map]; rfl
  rw [e]
  show (boolsD _).map _ = _
  rw [boolsD_map]
  show some (PyData.bool ((l.map f).any id)) = _
  rw [List.any_map]; rfl
theorem all_e {α : Type} (l : List α) (f : α → Bool) : dAll [.list (l.map fun z => .bool (f z))] = some (.bool (l.all f)) := by
  have e : l.map (fun z => PyData.bool (f z)) = (l.map f).map .bool := by rw [List.map_map]; rfl
  rw [e]
  show (boolsD _).map _ = _
  rw [boolsD_map]
  show some (PyData.bool ((l.map f).all id)) = _
  rw [List.all_map]; rfl
end Pd
namespace Pd
open PySem
section
variable {G : Type} {env e1 e2 : Env} {g g1 g2 g3 : G}
theorem setIx_iL {j : Nat} {mi me : ME G} {xs : List Int} {v : Int} {k : Nat} (h : me env g = some (.int v, g1)) (hi : mi env g1 = some (.int (k : Int), g2)) (hj : env.at j = .ow (xs.map .int)) (hk : k < xs.length) : mSetIx j mi me env g = some (.nx, env.set j (.ow ((xs.set k v).map .int)), g2) := by
  rw [setIx_e h hi hj (ixN_nat (by rw [List.length_map]; exact hk)), List.map_set]
end
end Pd
namespace Pd
open PySem
/-- it hands out the new list ds, and ends -/
def Rl {G : Type} (ds : List D) (m : MS G) (env : Env) (g : G) : Prop := ∃ e g1, m env g = some (.rl ds, e, g1)
section
variable {G : Type} {env env1 e1 e2 : Env} {g g1 g2 g3 : G} {m1 m2 : MS G} {ma mb : ME G} {mt mu : MT G} {ml : ML G} {ds : List D}
theorem rl_nx (h1 : m1 env g = some (.nx, e1, g1)) (h2 : Rl ds m2 e1 g1) : Rl ds (mSeq m1 m2) env g := by
  obtain ⟨e, g3, h⟩ := h2
  exact ⟨e, g3, seq_nx h1 h⟩
theorem rl_in (h : Rl ds m1 env g) : Rl ds (mSeq m1 m2) env g := by
  obtain ⟨e, g3, h⟩ := h
  exact ⟨e, g3, seq_rl h⟩
theorem rl_ift (h : mt env g = some (true, g1)) (k : Rl ds m1 env g1) : Rl ds (mIfS mt m1 m2) env g := by
  obtain ⟨e, g3, k⟩ := k
  exact ⟨e, g3, if_t h k⟩
theorem rl_iff (h : mt env g = some (false, g1)) (k : Rl ds m2 env g1) : Rl ds (mIfS mt m1 m2) env g := by
  obtain ⟨e, g3, k⟩ := k
  exact ⟨e, g3, if_f h k⟩
theorem rl_ret (h : ml env g = some (ds, g1)) : Rl ds (mRetF ml) env g := ⟨_, _, retF_e h⟩
theorem rl_retOw {j : Nat} (h : env.at j = .ow ds) : Rl ds (mRetOw j) env g := ⟨_, _, retOw_e h⟩
end
theorem runP_Rl {N n : Nat} {m : MS Unit} {ds xs : List D} (h : Rl xs m (startE N (ds.map .sh)) ()) (hn : ds.length = n ∧ n ≤ N := by exact ⟨rfl, by decide⟩) : runP N n m ds = some (.list xs) := by
  obtain ⟨e, u, h⟩ := h
  exact runP_rl h hn
theorem runN_Rl {N n : Nat} {m : MS Unit} {ds xs : List D} (h : Rl xs m (startE N (ds.map .sh)) ()) (hn : ds.length = n ∧ n ≤ N := by exact ⟨rfl, by decide⟩) : runN N n m ds = some xs := by
  obtain ⟨e, u, h⟩ := h
  exact runN_rl h hn
end Pd
namespace Pd
open PySem
theorem tup2_e {G : Type} {env e1 e2 : Env} {g g1 g2 : G} {b1 b2 : MTg G} {x y : D} (h1 : b1 x env g = some (e1, g1)) (h2 : b2 y e1 g1 = some (e2, g2)) : bTup 2 (bCons b1 (bCons b2 bNil)) (.tuple [x, y]) env g = some (e2, g2) := by
  show (b1 x env g).bind _ = _
  rw [h1]
  show (b2 y e1 g1).bind _ = _
  rw [h2]
  rfl
end Pd
namespace Pd
open PySem
section
variable {G : Type} {env e1 e2 : Env} {g g1 g2 g3 : G}
theorem intsD_mm : ∀ ns : List Int, intsD (ns.map .int) = some ns
  | [] => rfl
  | n :: ns => by show (intsD (ns.map .int)).map (n :: ·) = _; rw [intsD_mm ns]; rfl
theorem sum_e {α : Type} (l : List α) (f : α → Int) : dSum [.list (l.map fun z => .int (f z))] = some (.int ((l.map f).sum)) := by
  have e : l.map (fun z => PyData.int (f z)) = (l.map f).map .int := by rw [List.map_map]; rfl
  rw [e]
  show (intsD _).map _ = _
  rw [intsD_mm]
  rfl
end
end Pd

/-! Pd: targets by place, slices of one's own lists, sorted. -/
namespace Pd
open PySem PySem.Spec L2
section
variable {G : Type} {X : Cx} {S : Gs G} {K : PySem.W.Frag} {a b c e i : Expr} {es rest : List Expr} {pos : Pos} {ma mb me mi : ME G} {mt : MT G} {ml mk : ML G} {w : Wd} {env env' : Env} {g g' : G} {σ : St} {H H' I' : Hp}
/-! ### x[i] as a target, x a list of one's own -/
def bSub (j : Nat) (mi : ME G) : MTg G := fun d env g => bD (mi env g) fun i g1 => match env.at j, i with
  | .ow ds, .int i => (ixN ds.length i).map fun k => (env.set j (.ow (ds.set k d)), g1)
  | _, _ => none
theorem dg_sub (j : Nat) {x : Str} {xp : Pos} (hi : DE X S i mi) (hN : X.N[j]? = some x := by rfl) (hv : Vis X.env.scope x := by first | exact Or.inl rfl | exact Or.inr (Or.inl rfl) | exact Or.inr (Or.inr rfl)) (hd : (x == ("__debug__" : Str)) = false := by decide)
    (hcd : (x == ("__classdict__" : Str)) = false := by decide)
    (ha : ∀ v, assign (.Subscript (.Name x xp) i pos) X.env v = (do
      let ov ← holding [v] (eval (.Name x xp) X.env)
      let iv ← holding [v, ov] (eval i X.env)
      standAt pos
      holding [v, ov, iv] (setItem ov iv v)
      release [v, ov, iv] []) := by intro _; rfl) : DTg X S (.Subscript (.Name x xp) i pos) [j] (bSub j mi) where
  pg := PG.imp (pg_sub (pe_var hN hv hd hcd) hi set_list ha) fun v σ H Q ⟨w, env, g, d, env', g', R, pv, e, k⟩ => by
    obtain ⟨i, g2, e2, e⟩ := bD_some e
    split at e
    · rename_i ds i ej
      obtain ⟨n, en, e⟩ := Option.map_eq_some_iff.mp e
      cases e
      obtain ⟨p, vs, sj, hp, _⟩ := R.own ej
      refine ⟨_, sj, w, env, g, _, g', R, e2, fun u I2 H2 s2 R2 p2 => ?_⟩
      have s2 : Same w.I I2 := s2
      cases p2
      obtain ⟨p', us, sj', hp', hi, h0, hf, rb, hy⟩ := R2.own ej
      rw [sj] at sj'
      cases sj'
      refine ⟨p, us, i, n, rfl, rfl, hp', by rw [rb.len]; exact en, ?_⟩
      exact k σ I2 _ s2 (R2.setOw ej sj hp' hi h0 hf (rb.set (pv.mono s2) n) (by rw [List.length_set]; exact hy)) rfl fun _ _ => rfl
    · cases e
  ok := fun d env g env' g' e => by
    obtain ⟨i, g2, e2, e⟩ := bD_some e
    split at e
    · obtain ⟨n, en, e⟩ := Option.map_eq_some_iff.mp e
      cases e
      exact ⟨by rw [List.length_set], fun k hk => by rw [at_set, if_neg fun z => hk (by simp [z.1])]⟩
    · cases e
/-! ### x[lo:hi] = ys -/
def gSlice (to : TE) (tl th : TO) : TG := fun v σ H Q => to σ H fun o H1 => tl σ H1 fun l H2 => th σ H2 fun u H3 => ∃ p b xs ys a c, o = .ref p ∧ v = .ref b ∧ l = some a ∧ u = some c ∧ H3 p = some (.lst xs) ∧ H3 b = some (.lst ys) ∧ p ≠ b ∧
  0 ≤ a ∧ a ≤ c ∧ c ≤ xs.length ∧ xs.length + ys.length ≤ sizeLine ∧ Q σ (upd H3 p (.lst (xs.take a.toNat ++ ys ++ xs.drop c.toNat)))
theorem pg_slice {o : Expr} {lo hi : Option Expr} {p2 : Pos} {to : TE} {tl th : TO} (ho : PE X o to) (hl : PO X lo tl) (hh : PO X hi th)
    (ha : ∀ v, assign (.Subscript o (.Slice lo hi none p2) pos) X.env v = (do
      let ov ← holding [v] (eval o X.env)
      let iv ← holding [v, ov] (eval (.Slice lo hi none p2) X.env)
      standAt pos
      holding [v, ov, iv] (setItem ov iv v)
      release [iv, v, ov] []) := by intro _; rfl) : PG X (.Subscript o (.Slice lo hi none p2) pos) (gSlice to tl th) := by
  refine ⟨fun pins s σ H v u Q I r h => ?_⟩
  rw [ha]
  refine wpAny_bind (wpAny_holding (thn (ho.run pins s σ H _ I h) fun ov s1 ⟨x, H1, I1, r1, q1⟩ => ?_))
  refine wpAny_bind (wpAny_holding (wpAny_Slice (thn (hl.run pins s1 σ H1 _ I1 q1) fun vl s2 ⟨l, H2, I2, pl, q2⟩ => thn (hh.run pins s2 σ H2 _ I2 q2) fun vu s3 ⟨u', H3, I3, pu, q3⟩ => ?_)))
  rw [evalPart_none]
  refine wpAny_pure ?_
  have I4 : Inv X pins σ H3 { s3 with heap := s3.heap.push { cls := .type "slice", data := .fields #[vl, vu, .none] } } := I3.kept (t' := s3.toks) fun b ob q => Heap.get?_push_of_some _ q
  obtain ⟨p, b, xs, ys, a, c, rfl, rfl, rfl, rfl, hp, hb, hne, h0, hac, hc, hz, q⟩ := q3
  cases pl
  cases pu
  cases r1
  cases r
  refine wpAny_bind (wpAny_standAt (wpAny_bind (wpAny_holding ?_)))
  exact set_slice I4 hp hb hne (Heap.IsSliceOf.new ..) ⟨_, rfl⟩ ⟨_, rfl⟩ h0 hac hc hz fun s' I5 => wpAny_release ⟨σ, _, I5, q⟩
def mSetSl (j : Nat) (lo hi : MO G) (me : ME G) : MS G := fun env g => bD (me env g) fun d g1 => bD (lo env g1) fun l g2 => bD (hi env g2) fun h g3 => match env.at j, d, l, h with
  | .ow ds, .list ys, some a, some c => if 0 ≤ a ∧ a ≤ c ∧ c ≤ ds.length ∧ ds.length + ys.length ≤ sizeLine then some (.nx, env.set j (.ow (ds.take a.toNat ++ ys ++ ds.drop c.toNat)), g3) else none
  | _, _, _, _ => none
theorem rpa_take {I : Hp} : ∀ {vs : List V} {ds : List D}, RpA K I vs ds → ∀ n : Nat, RpA K I (vs.take n) (ds.take n)
  | _, _, .nil, n => by rw [List.take_nil, List.take_nil]; exact .nil
  | _, _, .cons _ _, 0 => .nil
  | _, _, .cons a b, n + 1 => .cons a (rpa_take b n)
theorem rpa_drop {I : Hp} : ∀ {vs : List V} {ds : List D}, RpA K I vs ds → ∀ n : Nat, RpA K I (vs.drop n) (ds.drop n)
  | _, _, .nil, n => by rw [List.drop_nil, List.drop_nil]; exact .nil
  | _, _, .cons a b, 0 => .cons a b
  | _, _, .cons a b, n + 1 => rpa_drop b n
theorem ds_setSl (j : Nat) {x : Str} {xp sp p2 : Pos} {lo hi : Option Expr} {mlo mhi : MO G} (he : DE X S e me) (hl : DO X S lo mlo) (hh : DO X S hi mhi) (hN : X.N[j]? = some x := by rfl) (hv : Vis X.env.scope x := by first | exact Or.inl rfl | exact Or.inr (Or.inl rfl) | exact Or.inr (Or.inr rfl)) (hd : (x == ("__debug__" : Str)) = false := by decide)
    (hcd : (x == ("__classdict__" : Str)) = false := by decide)
    (ha : ∀ v, assign (.Subscript (.Name x xp) (.Slice lo hi none p2) sp) X.env v = (do
      let ov ← holding [v] (eval (.Name x xp) X.env)
      let iv ← holding [v, ov] (eval (.Slice lo hi none p2) X.env)
      standAt sp
      holding [v, ov, iv] (setItem ov iv v)
      release [iv, v, ov] []) := by intro _; rfl)
    (hs : swapsWithSole [.Subscript (.Name x xp) (.Slice lo hi none p2) sp] e pos.line X.env = pure false := by rfl) (hw : swappedStores [.Subscript (.Name x xp) (.Slice lo hi none p2) sp] e X.env = pure none := by rfl)
    (h1 : (assignEach [.Subscript (.Name x xp) (.Slice lo hi none p2) sp] X.env).map (·.2) = [assign (.Subscript (.Name x xp) (.Slice lo hi none p2) sp) X.env] := by rfl) :
    DS X S (.Assign [.Subscript (.Name x xp) (.Slice lo hi none p2) sp] e pos) (mSetSl j mlo mhi me) := PS.imp (ps_asg he (pg_slice (pe_var hN hv hd hcd) hl.po hh.po ha) hs hw h1) fun D σ H ⟨w, env, g, ct, env', g', R, e, k⟩ => by
  obtain ⟨d, g1, e1, e⟩ := bD_some e
  obtain ⟨l, g2, e2, e⟩ := bD_some e
  obtain ⟨h, g3, e3, e⟩ := bD_some e
  split at e
  · rename_i ds ys a c ej _ _
    split at e
    · rename_i hz
      cases e
      refine ⟨w, env, g, _, g1, R, e1, fun v I1 H1 s1 R1 p1 => ?_⟩
      obtain ⟨p, vs, sj, hp, _⟩ := R1.own ej
      refine ⟨_, sj, w.im I1, env, g1, _, g2, R1, e2, fun I2 H2 s2 R2 => ⟨w.im I2, env, g2, _, g', R2, e3, fun I3 H3 s3 R3 => ?_⟩⟩
      have s2 : Same I1 I2 := s2
      have s3 : Same I2 I3 := s3
      cases p1 with
      | lst hb rb hy =>
        obtain ⟨p', us, sj', hp', hi, h0, hf, ra, hx⟩ := R3.own ej
        rw [sj] at sj'
        cases sj'
        have hb3 := s3 _ _ (s2 _ _ hb)
        refine ⟨p, _, us, _, a, c, rfl, rfl, rfl, rfl, hp', R3.eI _ _ hb3, fun z => ?_, hz.1, hz.2.1, by rw [ra.len]; exact hz.2.2.1, by rw [ra.len, rb.len]; exact hz.2.2.2, ?_⟩
        · have hi : I3 p = none := hi
          rw [z, hb3] at hi; cases hi
        · refine k σ I3 _ (s1.trans (s2.trans s3)) (R3.setOw ej sj hp' hi h0 hf (((rpa_take ra _).append (rb.mono (s2.trans s3))).append (rpa_drop ra _)) ?_)
          have := hz.2.2.2
          rw [List.length_append, List.length_append, List.length_take, List.length_drop]
          omega
    · cases e
  · cases e
/-- x[lo:hi] of a list of one's own -/
def mSlOw (j : Nat) (lo hi : MO G) : ML G := fun env g => bD (lo env g) fun l g2 => bD (hi env g2) fun h g3 => match env.at j with
  | .ow ds => some (cut ds l h, g3)
  | _ => none
theorem df_sliceOw (j : Nat) {x : Str} {xp p2 : Pos} {lo hi : Option Expr} {mlo mhi : MO G} (hl : DO X S lo mlo) (hh : DO X S hi mhi) (hN : X.N[j]? = some x := by rfl) (hv : Vis X.env.scope x := by first | exact Or.inl rfl | exact Or.inr (Or.inl rfl) | exact Or.inr (Or.inr rfl)) (hd : (x == ("__debug__" : Str)) = false := by decide)
    (hcd : (x == ("__classdict__" : Str)) = false := by decide) : DF X S (.Subscript (.Name x xp) (.Slice lo hi none p2) pos) (mSlOw j mlo mhi) := PE.imp (pe_slice sl_list (pe_var hN hv hd hcd) hl.po hh.po) fun σ H Q q => by
  obtain ⟨w, env, g, d, g', R, e, k⟩ := q
  obtain ⟨l, g2, e2, e⟩ := bD_some e
  obtain ⟨h, g3, e3, e⟩ := bD_some e
  split at e
  · rename_i ds ej
    cases e
    obtain ⟨p, vs, sj, hp, _⟩ := R.own ej
    refine ⟨_, sj, w, env, g, l, g2, R, e2, fun I2 H2 s2 R2 => ⟨w.im I2, env, g2, h, g', R2, e3, fun I3 H3 s3 R3 => ?_⟩⟩
    have s2 : Same w.I I2 := s2
    have s3 : Same I2 I3 := s3
    obtain ⟨p', us, sj', hp', hi, h0, hf, ra, hx⟩ := R3.own ej
    rw [sj] at sj'
    cases sj'
    refine ⟨_, _, rfl, SqL.of hp', fun p h0 => ?_⟩
    exact k p _ I3 _ (s2.trans s3) (R3.alloc h0) (R3.nob h0) upd_same (cut_rp ra l h) (Nat.le_trans (cut_le ds l h) hx)
  · cases e
/-! ### a new list by a test -/
theorem df_if (hc : DT X S c mt) (ha : DF X S a ml) (hb : DF X S b mk) : DF X S (.IfExp c a b pos) (mIf mt ml mk) := PE.imp (pe_ifExp hc ha hb) fun σ H Q q => by
  obtain ⟨w, env, g, d, g', R, e, k⟩ := q
  obtain ⟨x, g1, e1, e⟩ := bD_some e
  refine ⟨w, env, g, x, g1, R, e1, fun I1 H1 s1 R1 => ?_⟩
  cases x with
  | true => exact ⟨w.im I1, env, g1, d, g', R1, e, fun p vs I2 H2 s2 R2 => k p vs I2 H2 (s1.trans s2) R2⟩
  | false => exact ⟨w.im I1, env, g1, d, g', R1, e, fun p vs I2 H2 s2 R2 => k p vs I2 H2 (s1.trans s2) R2⟩
end
end Pd
namespace Pd
open PySem
section
variable {G : Type} {env e1 e2 : Env} {g g1 g2 g3 : G}
theorem lendT_e {js : List Nat} {mt : MT G} {r} (h0 : (env.lend js).noOw = true) (h : mt (env.lend js) g = r) : mLendT js mt env g = r := by unfold mLendT; rw [if_pos h0]; exact h
theorem frz_e {j : Nat} {m : MS G} {r} (h : m (env.frz j) g = r) : mFrz j m env g = r := h
theorem slOw_e {j : Nat} {lo hi : MO G} {l h : Option Int} {ds : List D} (hl : lo env g = some (l, g1)) (hh : hi env g1 = some (h, g2)) (hj : env.at j = .ow ds) : mSlOw j lo hi env g = some (cut ds l h, g2) := by
  unfold mSlOw; rw [hl]; dsimp only [bD]; rw [hh]; dsimp only [bD]; rw [hj]
theorem catOw_e {j : Nat} {mb : ME G} {ds ys : List D} (hb : mb env g = some (.list ys, g1)) (hj : env.at j = .ow ds) (hl : ds.length + ys.length ≤ sizeLine) : mCatOw j mb env g = some (ds ++ ys, g1) := by
  unfold mCatOw; rw [hb]; dsimp only [bD]; rw [hj]; exact if_pos hl
end
end Pd

/-! Pd: sorted. -/
namespace Pd
open PySem PySem.Spec L2
section
variable {G : Type} {X : Cx} {S : Gs G} {K : PySem.W.Frag}
def rSortD (K : PySem.W.Frag) : List V → Hp → VK → Prop := fun vs H Q => ∃ a xs ds, vs = [.ref a] ∧ SqL K H a xs ∧ DpAll K H xs ds ∧ PySem.W.AllAlike ds ∧ PySem.W.Sortable ds ∧ (∀ d ∈ ds, d.depth ≤ 60) ∧
  ∀ p, H p = none → Q (.ref p) (upd H p (.lst (((xs.zip ds).mergeSort (PySem.W.dataLe false Prod.snd)).map (·.1))))
theorem each_rel {xs : List V} {us : List Value} (h : Vals xs us) : ∀ {ds : List D}, ds.length = xs.length → PySem.W.EachIs (fun (v : Value) (b : V × D) => RelV b.1 v) us (xs.zip ds) := by
  induction h with
  | nil => intro ds _; exact .nil
  | cons r t ih =>
    intro ds hl
    cases ds with
    | nil => cases hl
    | cons d ds => exact .cons r (ih (by simpa using hl))
theorem each_reads {h : Heap} : ∀ {us : List Value} {ds : List D} {as : List Addr} {xs : List V}, ReadsAll h us ds as → xs.length = ds.length → PySem.W.EachIs (fun (v : Value) (b : V × D) => ∃ as, Reads h v b.2 as) us (xs.zip ds)
  | _, [], _, xs, r, hl => by
    cases r
    cases xs with
    | nil => exact .nil
    | cons _ _ => cases hl
  | _, d :: ds, _, xs, r, hl => by
    cases r with
    | cons r1 r2 =>
      cases xs with
      | nil => cases hl
      | cons x xs => exact .cons ⟨_, r1⟩ (each_reads r2 (by simpa using hl))
theorem vals_each {us : List Value} {bs : List (V × D)} (h : PySem.W.EachIs (fun (v : Value) (b : V × D) => RelV b.1 v) us bs) : Vals (bs.map (·.1)) us := by
  induction h with
  | nil => exact .nil
  | cons r _ ih => exact .cons r ih
theorem cr_sortD (hu : X.A.units + 65 < cLine) : CallR X (.builtin "sorted") (rSortD X.K) := by
  intro pins s σ H vs us Q I r h
  obtain ⟨a, xs, ds, rfl, hs, hd, hal, hso, hde, q⟩ := h
  obtain ⟨its, rv, hl, hz⟩ := I.list hs
  obtain ⟨u, rfl, ru⟩ := vals1 r
  obtain rfl : u = Value.ref a := ru
  obtain ⟨as, rd⟩ := Dp.readsAll I ds xs its hd rv
  have hlen : ∀ {vs : List V} {ds : List D}, DpAll X.K H vs ds → ds.length = vs.length := fun {vs ds} h => by
    induction vs generalizing ds with
    | nil => cases h; rfl
    | cons v vs ih => cases h with | cons h1 h2 => rw [List.length_cons, List.length_cons, ih h2]
  have hl2 := hlen hd
  have em : (xs.zip ds).map Prod.snd = ds := List.map_snd_zip (by omega)
  refine PySem.W.sorted_data (vs := its) (bs := xs.zip ds) (enc := Prod.snd) (R := fun v b => RelV b.1 v) hl.isList (each_rel rv hl2) (each_reads rd hl2.symm) (by rw [em]; exact hal) (by rw [em]; exact hso) (by rw [List.length_zip]; omega) (fun b hb => ?_) fun out ho eo => ?_
  · have := hde b.2 (by rw [← em]; exact List.mem_map.mpr ⟨b, hb, rfl⟩)
    omega
  · obtain ⟨n, hn⟩ := PyProof.Rows.sortedAll_at s.heap its out.toArray
    refine ⟨.ref (s.heap.objs.size + 1), upd H _ (.lst _), I.laid (t' := s.toks) (fun b o e => PyProof.Rows.sortedAll_old e) (Nat.le_succ _) ⟨?_, out, n, vals_each eo, hn⟩, rfl, q _ (I.hok.fresh (Nat.le_succ _))⟩
    rw [List.length_map, (List.mergeSort_perm _ _).length_eq, List.length_zip]; omega
/-- the premises, as tests -/
def alikeB (ds : List D) : Bool := ds.all fun d => ds.all fun d' => PySem.W.alike d d'
def isTupNe : D → Bool
  | .tuple (_ :: _) => true
  | _ => false
def notTup : D → Bool
  | .tuple _ => false
  | .none => false
  | _ => true
def dSorted : List D → Option (List D)
  | [.list ds] => if alikeB ds = true ∧ ((ds.all isTupNe) = true ∨ (ds.all notTup) = true) ∧ (ds.all fun d => decide (d.depth ≤ 60)) = true then some (ds.mergeSort (PySem.W.dataLe false id)) else none
  | _ => none
theorem alikeB_of {ds : List D} (h : alikeB ds = true) : PySem.W.AllAlike ds := fun d hd d' hd' => List.all_eq_true.mp (List.all_eq_true.mp h d hd) d' hd'
theorem sortable_of {ds : List D} (h : (ds.all isTupNe) = true ∨ (ds.all notTup) = true) : PySem.W.Sortable ds := by
  rcases h with h | h
  · refine .inl fun d hd => ?_
    have := List.all_eq_true.mp h d hd
    cases d with
    | tuple xs =>
      cases xs with
      | nil => cases this
      | cons x r => exact ⟨x, r, rfl⟩
    | _ => cases this
  · refine .inr fun d hd => ?_
    have := List.all_eq_true.mp h d hd
    constructor
    · rintro rfl; cases this
    · rintro xs rfl; cases this
theorem RpA.zip_map {I : Hp} {xs : List V} {ds : List D} (h : RpA K I xs ds) : ∀ b ∈ xs.zip ds, Rp K I b.1 b.2 := by
  induction xs generalizing ds with
  | nil => intro b hb; rw [List.zip_nil_left] at hb; cases hb
  | cons x xs ih =>
    cases h with
    | cons h1 h2 =>
      intro b hb
      rw [List.zip_cons_cons] at hb
      rcases List.mem_cons.mp hb with e | e
      · rw [e]; exact h1
      · exact ih h2 b e
theorem rpa_pairs {I : Hp} : ∀ {bs : List (V × D)}, (∀ b ∈ bs, Rp K I b.1 b.2) → RpA K I (bs.map (·.1)) (bs.map (·.2))
  | [], _ => .nil
  | b :: bs, h => .cons (h b (by simp)) (rpa_pairs fun b' hb => h b' (List.mem_cons_of_mem _ hb))
theorem RpA.dpAll {I : Hp} : ∀ {xs : List V} {ds : List D}, RpA K I xs ds → DpAll K I xs ds
  | _, _, .nil => .nil
  | _, _, .cons a b => .cons a.dp b.dpAll
theorem cf_sorted : CallF K (rSortD K) dSorted := by
  intro I H xs ds zs s p hz Q k
  cases p with
  | nil => cases hz
  | cons a b =>
    cases b with
    | cons _ _ => cases a <;> cases hz
    | nil =>
      cases a with
      | lst hp ra hl =>
        rename_i p us es
        have hz : (if _ then _ else none) = some zs := hz
        split at hz
        · rename_i hc
          cases hz
          refine ⟨_, us, es, rfl, SqL.of (s _ _ hp), (ra.mono s).dpAll, alikeB_of hc.1, sortable_of hc.2.1, fun d hd => of_decide_eq_true (List.all_eq_true.mp hc.2.2 d hd), fun p h0 => ?_⟩
          have hlen := ra.len
          have em : (us.zip es).map Prod.snd = es := List.map_snd_zip (by omega)
          have e2 : es.mergeSort (PySem.W.dataLe false id) = ((us.zip es).mergeSort (PySem.W.dataLe false Prod.snd)).map (·.2) := by
            have := List.map_mergeSort (r := PySem.W.dataLe false (Prod.snd : V × D → D)) (s := PySem.W.dataLe false (id : D → D)) (f := Prod.snd) (l := us.zip es) fun _ _ _ _ => rfl
            rw [em] at this
            exact this.symm
          refine k p _ _ h0 (same_new h0) upd_same ?_ ?_
          · rw [e2]
            exact rpa_pairs fun b hb => RpA.zip_map ra b ((List.mergeSort_perm _ _).mem_iff.mp hb)
          · rw [(List.mergeSort_perm _ _).length_eq]; exact hl
        · cases hz
      | _ => cases hz
end
end Pd

namespace K53
open PySem PySem.Spec L2 Pd
/-! ### the text by places -/
def top (i : Nat) : Stmt := PySem.Challenge.pw_plainserial_k53_faults_of_pages.main.body.getD i (.Pass ⟨0, 0, 0, 0⟩)
abbrev s_empty_page : Stmt := top 3
abbrev s_slots_in : Stmt := top 4
abbrev s_slot_of : Stmt := top 5
abbrev s_row_in : Stmt := top 6
abbrev s_rows_in : Stmt := top 7
abbrev s_laid : Stmt := top 8
abbrev s_first_free : Stmt := top 9
abbrev s_used_in : Stmt := top 10
abbrev s_room_in : Stmt := top 11
abbrev s_put_in : Stmt := top 12
abbrev s_taken_out : Stmt := top 13
abbrev s_page_fault : Stmt := top 14
abbrev s__law_state : Stmt := top 16
abbrev s__law_take : Stmt := top 17
abbrev s__law_laid : Stmt := top 18
abbrev s__law_row : Stmt := top 19
abbrev s__law_fault : Stmt := top 20
abbrev s_law : Stmt := top 21
structure Txt (K : PySem.W.Frag) (mg : Str → Option Value) : Prop where
  d_empty_page : Dfn K mg "empty_page" "empty_page" s_empty_page []
  d_slots_in : Dfn K mg "slots_in" "slots_in" s_slots_in ["page"]
  d_slot_of : Dfn K mg "slot_of" "slot_of" s_slot_of ["page", "slot"]
  d_row_in : Dfn K mg "row_in" "row_in" s_row_in ["page", "slot"]
  d_rows_in : Dfn K mg "rows_in" "rows_in" s_rows_in ["page"]
  d_laid : Dfn K mg "laid" "laid" s_laid ["rows", "slots"]
  d_first_free : Dfn K mg "first_free" "first_free" s_first_free ["page"]
  d_used_in : Dfn K mg "used_in" "used_in" s_used_in ["page"]
  d_room_in : Dfn K mg "room_in" "room_in" s_room_in ["page"]
  d_put_in : Dfn K mg "put_in" "put_in" s_put_in ["page", "row"]
  d_taken_out : Dfn K mg "taken_out" "taken_out" s_taken_out ["page", "slot"]
  d_page_fault : Dfn K mg "page_fault" "page_fault" s_page_fault ["page"]
  d__law_state : Dfn K mg "_law_state" "_law_state" s__law_state ["script"]
  d__law_take : Dfn K mg "_law_take" "_law_take" s__law_take ["state", "most"]
  d__law_laid : Dfn K mg "_law_laid" "_law_laid" s__law_laid ["rows", "slots"]
  d__law_row : Dfn K mg "_law_row" "_law_row" s__law_row ["state"]
  d__law_fault : Dfn K mg "_law_fault" "_law_fault" s__law_fault ["page"]
  c_AHEAD : Cst K mg "AHEAD" (.int 2)
  c_SIZE : Cst K mg "SIZE" (.int 256)
  z_abs : mg "abs" = none
  z_any : mg "any" = none
  z_enumerate : mg "enumerate" = none
  z_int : mg "int" = none
  z_len : mg "len" = none
  z_list : mg "list" = none
  z_max : mg "max" = none
  z_min : mg "min" = none
  z_range : mg "range" = none
  z_sorted : mg "sorted" = none
  z_sum : mg "sum" = none
section
variable {P : Program} {wd : World} {K : PySem.W.Frag} {mg : Str → Option Value} {base : Heap}
/-! #### empty_page -/
abbrev n_empty_page : List Str := []
theorem sc_empty_page : FnScope n_empty_page [] (defScope s_empty_page) := ⟨rfl, rfl, rfl, by decide +kernel, rfl, by decide +kernel, by decide +kernel⟩
def m_empty_page : MS Unit := (mRetF (mRep (mL (mLst (mCons (mC (.int 0)) mNil))) (mC (.int 256))))
def F_empty_page : List D → Option (List D) := runN 0 0 m_empty_page
theorem ok_empty_page (T : Txt K mg) : Def1 P wd K mg base "empty_page" [] 1 (spN K F_empty_page) := def_new T.d_empty_page sc_empty_page fun f cdv A outer s H E hr =>
    (db_one (ds_retF (df_rep (de_fresh (df_lst (da_cons de_int da_nil))) (de_cst T.c_SIZE))))
/-! #### slots_in -/
abbrev n_slots_in : List Str := ["page"]
theorem sc_slots_in : FnScope n_slots_in ["page"] (defScope s_slots_in) := ⟨rfl, rfl, rfl, by decide +kernel, rfl, by decide +kernel, by decide +kernel⟩
def m_slots_in : MS Unit := (mRet (mOp dIx (mVar 0) (mC (.int 0))))
def F_slots_in : List D → Option D := runP 1 1 m_slots_in
theorem ok_slots_in (T : Txt K mg) : Def1 P wd K mg base "slots_in" ["page"] 1 (spP K F_slots_in) := def_pure T.d_slots_in sc_slots_in fun f cdv A outer s H E hr =>
    (db_one (ds_ret (de_ix (de_var 0) de_int)))
/-! #### slot_of -/
abbrev n_slot_of : List Str := ["page", "slot", "at"]
theorem sc_slot_of : FnScope n_slot_of ["page", "slot"] (defScope s_slot_of) := ⟨rfl, rfl, rfl, by decide +kernel, rfl, by decide +kernel, by decide +kernel⟩
def m_slot_of : MS Unit := (mSeq (mSet 2 (mOp dAdd (mC (.int 2)) (mOp dMul (mC (.int 2)) (mVar 1))))
    (mRet (mTup (mCons (mOp dIx (mVar 0) (mVar 2)) (mCons (mOp dIx (mVar 0) (mOp dAdd (mVar 2) (mC (.int 1)))) mNil)))))
def F_slot_of : List D → Option D := runP 3 2 m_slot_of
theorem ok_slot_of (T : Txt K mg) : Def1 P wd K mg base "slot_of" ["page", "slot"] 1 (spP K F_slot_of) := def_pure T.d_slot_of sc_slot_of fun f cdv A outer s H E hr =>
    (db_cons (ds_set (i := 2) sc_slot_of.nd rfl (by first | exact Or.inl rfl | exact Or.inr rfl) (de_op op_addD od_addD (de_cst T.c_AHEAD) (de_op op_mul od_mul de_int (de_var 1))))
    (db_one (ds_ret (de_tup (da_cons (de_ix (de_var 0) (de_var 2)) (da_cons (de_ix (de_var 0) (de_op op_addD od_addD (de_var 2) de_int)) da_nil))))))
/-! #### row_in -/
abbrev n_row_in : List Str := ["page", "slot", "begin", "length"]
theorem sc_row_in : FnScope n_row_in ["page", "slot"] (defScope s_row_in) := ⟨rfl, rfl, rfl, by decide +kernel, rfl, by decide +kernel, by decide +kernel⟩
def m_row_in : MS Unit := (mSeq (mIfS (mNot (mChainT dLeI dLtI (mC (.int 0)) (mVar 1) (mCall F_slots_in (mCons (mVar 0) mNil))))
    (mRet (mC .none))
    mSkip)
    (mSeq (mAsg (bTup 2 (bCons (bName 2) (bCons (bName 3) bNil))) (mCall F_slot_of (mCons (mVar 0) (mCons (mVar 1) mNil))))
    (mRet (mIf (mOpT dGtI (mVar 3) (mC (.int 0))) (mL (mCallF dListOf (mCons (mL (mSlL (mVar 0) (mPart (mVar 2)) (mPart (mOp dAdd (mVar 2) (mVar 3))))) mNil))) (mC .none)))))
def F_row_in : List D → Option D := runP 4 2 m_row_in
theorem ok_row_in (T : Txt K mg) : Def1 P wd K mg base "row_in" ["page", "slot"] 2 (spP K F_row_in) := def_pure T.d_row_in sc_row_in fun f cdv A outer s H E hr =>
    (db_cons (ds_if (dt_not (dt_chain op_le od_leI op_lt od_ltI de_int (de_var 1) (call_P (ok_slots_in T) (hr.mono (by decide)) rfl (da_cons (de_var 0) da_nil))))
    (db_one (ds_ret de_non))
    db_nil)
    (db_cons (ds_asg (call_P (ok_slot_of T) (hr.mono (by decide)) rfl (da_cons (de_var 0) (da_cons (de_var 1) da_nil))) (dg_tup rfl (dgs_cons (dg_name (i := 2) sc_row_in.nd rfl (by first | exact Or.inl rfl | exact Or.inr rfl)) (dgs_cons (dg_name (i := 3) sc_row_in.nd rfl (by first | exact Or.inl rfl | exact Or.inr rfl)) dgs_nil))))
    (db_one (ds_ret (de_if (dt_cmp op_gt od_gtI (de_var 3) de_int (nomark _)) (de_fresh (df_callTy call_list_of cf_list rfl T.z_list (by decide +kernel) (da_cons (de_fresh (df_slice (de_var 0) (do_some (de_var 2)) (do_some (de_op op_addD od_addD (de_var 2) (de_var 3))))) da_nil))) de_non)))))
/-! #### rows_in -/
abbrev n_rows_in : List Str := ["page", "found", "slot", "row"]
theorem sc_rows_in : FnScope n_rows_in ["page"] (defScope s_rows_in) := ⟨rfl, rfl, rfl, by decide +kernel, rfl, by decide +kernel, by decide +kernel⟩
def lb_rows_in_1 : MS Unit := (mSeq (mSet 3 (mCall F_row_in (mCons (mVar 0) (mCons (mVar 2) mNil))))
    (mIfS (mOpT dIsNot (mVar 3) (mC .none))
    (mApp 1 (mTup (mCons (mVar 2) (mCons (mVar 3) mNil))))
    mSkip))
def m_rows_in : MS Unit := (mSeq (mSetF 1 (mLst mNil))
    (mSeq (mFor (mRng1 (mCons (mCall F_slots_in (mCons (mVar 0) mNil)) mNil)) (bName 2) lb_rows_in_1)
    (mRetOw 1)))
def F_rows_in : List D → Option D := runP 4 1 m_rows_in
theorem ok_rows_in (T : Txt K mg) : Def1 P wd K mg base "rows_in" ["page"] 3 (spP K F_rows_in) := def_pure T.d_rows_in sc_rows_in fun f cdv A outer s H E hr =>
    (db_cons (ds_setF (i := 1) sc_rows_in.nd rfl (by first | exact Or.inl rfl | exact Or.inr rfl) (df_lst da_nil))
    (db_cons (ds_for PassesOwn.never rfl (di_range1 rfl T.z_range (da_cons (call_P (ok_slots_in T) (hr.mono (by decide)) rfl (da_cons (de_var 0) da_nil)) da_nil)) (dg_name (i := 2) sc_rows_in.nd rfl (by first | exact Or.inl rfl | exact Or.inr rfl))
    (db_cons (ds_set (i := 3) sc_rows_in.nd rfl (by first | exact Or.inl rfl | exact Or.inr rfl) (call_P (ok_row_in T) (hr.mono (by decide)) rfl (da_cons (de_var 0) (da_cons (de_var 2) da_nil))))
    (db_one (ds_if (dt_cmp op_notN od_isNot (de_var 3) de_non (nomark _))
    (db_one (ds_append 1 (de_tup (da_cons (de_var 2) (da_cons (de_var 3) da_nil)))))
    db_nil))))
    (db_one (ds_retOw 1))))
/-! #### laid -/
abbrev n_laid : List Str := ["rows", "slots", "page", "low", "slot", "row"]
theorem sc_laid : FnScope n_laid ["rows", "slots"] (defScope s_laid) := ⟨rfl, rfl, rfl, by decide +kernel, rfl, by decide +kernel, by decide +kernel⟩
def lb_laid_1 : MS Unit := (mSeq (mSet 3 (mOp dSub (mVar 3) (mCall dLen (mCons (mVar 5) mNil))))
    (mSeq (mSetIx 2 (mOp dAdd (mC (.int 2)) (mOp dMul (mC (.int 2)) (mVar 4))) (mVar 3))
    (mSeq (mSetIx 2 (mOp dAdd (mOp dAdd (mC (.int 2)) (mOp dMul (mC (.int 2)) (mVar 4))) (mC (.int 1))) (mCall dLen (mCons (mVar 5) mNil)))
    (mSetSl 2 (mPart (mVar 3)) (mPart (mOp dAdd (mVar 3) (mCall dLen (mCons (mVar 5) mNil)))) (mVar 5)))))
def m_laid : MS Unit := (mSeq (mSetF 2 (mCallF F_empty_page mNil))
    (mSeq (mSetIx 2 (mC (.int 0)) (mVar 1))
    (mSeq (mSet 3 (mC (.int 256)))
    (mSeq (mFor (mItL (mVar 0)) (bTup 2 (bCons (bName 4) (bCons (bName 5) bNil))) lb_laid_1)
    (mSeq (mSetIx 2 (mC (.int 1)) (mOp dSub (mC (.int 256)) (mVar 3)))
    (mRetOw 2))))))
def F_laid : List D → Option D := runP 6 2 m_laid
theorem ok_laid (T : Txt K mg) : Def1 P wd K mg base "laid" ["rows", "slots"] 2 (spP K F_laid) := def_pure T.d_laid sc_laid fun f cdv A outer s H E hr =>
    (db_cons (ds_setF (i := 2) sc_laid.nd rfl (by first | exact Or.inl rfl | exact Or.inr rfl) (call_N0 (ok_empty_page T) (hr.mono (by decide)) rfl))
    (db_cons (ds_setIx 2 de_int (de_var 1))
    (db_cons (ds_set (i := 3) sc_laid.nd rfl (by first | exact Or.inl rfl | exact Or.inr rfl) (de_cst T.c_SIZE))
    (db_cons (ds_for PassesOwn.never rfl (di_list (de_var 0)) (dg_tup rfl (dgs_cons (dg_name (i := 4) sc_laid.nd rfl (by first | exact Or.inl rfl | exact Or.inr rfl)) (dgs_cons (dg_name (i := 5) sc_laid.nd rfl (by first | exact Or.inl rfl | exact Or.inr rfl)) dgs_nil)))
    (db_cons (ds_set (i := 3) sc_laid.nd rfl (by first | exact Or.inl rfl | exact Or.inr rfl) (de_op op_sub od_sub (de_var 3) (de_callB call_len cd_len rfl T.z_len (by decide +kernel) (da_cons (de_var 5) da_nil))))
    (db_cons (ds_setIx 2 (de_op op_addD od_addD (de_cst T.c_AHEAD) (de_op op_mul od_mul de_int (de_var 4))) (de_var 3))
    (db_cons (ds_setIx 2 (de_op op_addD od_addD (de_op op_addD od_addD (de_cst T.c_AHEAD) (de_op op_mul od_mul de_int (de_var 4))) de_int) (de_callB call_len cd_len rfl T.z_len (by decide +kernel) (da_cons (de_var 5) da_nil)))
    (db_one (ds_setSl 2 (de_var 5) (do_some (de_var 3)) (do_some (de_op op_addD od_addD (de_var 3) (de_callB call_len cd_len rfl T.z_len (by decide +kernel) (da_cons (de_var 5) da_nil))))))))))
    (db_cons (ds_setIx 2 de_int (de_op op_sub od_sub (de_cst T.c_SIZE) (de_var 3)))
    (db_one (ds_retOw 2)))))))
/-! #### first_free -/
abbrev n_first_free : List Str := ["page", "slot"]
theorem sc_first_free : FnScope n_first_free ["page"] (defScope s_first_free) := ⟨rfl, rfl, rfl, by decide +kernel, rfl, by decide +kernel, by decide +kernel⟩
def lb_first_free_1 : MS Unit := (mIfS (mOpT dEq (mOp dIx (mCall F_slot_of (mCons (mVar 0) (mCons (mVar 1) mNil))) (mC (.int 1))) (mC (.int 0)))
    (mRet (mVar 1))
    mSkip)
def m_first_free : MS Unit := (mSeq (mFor (mRng1 (mCons (mCall F_slots_in (mCons (mVar 0) mNil)) mNil)) (bName 1) lb_first_free_1)
    (mRet (mCall F_slots_in (mCons (mVar 0) mNil))))
def F_first_free : List D → Option D := runP 2 1 m_first_free
theorem ok_first_free (T : Txt K mg) : Def1 P wd K mg base "first_free" ["page"] 2 (spP K F_first_free) := def_pure T.d_first_free sc_first_free fun f cdv A outer s H E hr =>
    (db_cons (ds_for PassesOwn.never rfl (di_range1 rfl T.z_range (da_cons (call_P (ok_slots_in T) (hr.mono (by decide)) rfl (da_cons (de_var 0) da_nil)) da_nil)) (dg_name (i := 1) sc_first_free.nd rfl (by first | exact Or.inl rfl | exact Or.inr rfl))
    (db_one (ds_if (dt_cmp (op_eqD (hu64 hr)) od_eq (de_ix (call_P (ok_slot_of T) (hr.mono (by decide)) rfl (da_cons (de_var 0) (da_cons (de_var 1) da_nil))) de_int) de_int (nomark _))
    (db_one (ds_ret (de_var 1)))
    db_nil)))
    (db_one (ds_ret (call_P (ok_slots_in T) (hr.mono (by decide)) rfl (da_cons (de_var 0) da_nil)))))
/-! #### used_in -/
abbrev n_used_in : List Str := ["page"]
theorem sc_used_in : FnScope n_used_in ["page"] (defScope s_used_in) := ⟨rfl, rfl, rfl, by decide +kernel, rfl, by decide +kernel, by decide +kernel⟩
def m_used_in : MS Unit := (mRet (mOp dIx (mVar 0) (mC (.int 1))))
def F_used_in : List D → Option D := runP 1 1 m_used_in
theorem ok_used_in (T : Txt K mg) : Def1 P wd K mg base "used_in" ["page"] 1 (spP K F_used_in) := def_pure T.d_used_in sc_used_in fun f cdv A outer s H E hr =>
    (db_one (ds_ret (de_ix (de_var 0) de_int)))
/-! #### room_in -/
abbrev n_room_in : List Str := ["page", "slot", "slots"]
theorem sc_room_in : FnScope n_room_in ["page"] (defScope s_room_in) := ⟨rfl, rfl, rfl, by decide +kernel, rfl, by decide +kernel, by decide +kernel⟩
def m_room_in : MS Unit := (mSeq (mSet 1 (mCall F_first_free (mCons (mVar 0) mNil)))
    (mSeq (mSet 2 (mCall dMax2 (mCons (mCall F_slots_in (mCons (mVar 0) mNil)) (mCons (mOp dAdd (mVar 1) (mC (.int 1))) mNil))))
    (mRet (mCall dMax2 (mCons (mC (.int 0)) (mCons (mCall dMin2 (mCons (mC (.int 255)) (mCons (mOp dSub (mOp dSub (mOp dSub (mC (.int 256)) (mC (.int 2))) (mOp dMul (mC (.int 2)) (mVar 2))) (mCall F_used_in (mCons (mVar 0) mNil))) mNil))) mNil))))))
def F_room_in : List D → Option D := runP 3 1 m_room_in
theorem ok_room_in (T : Txt K mg) : Def1 P wd K mg base "room_in" ["page"] 3 (spP K F_room_in) := def_pure T.d_room_in sc_room_in fun f cdv A outer s H E hr =>
    (db_cons (ds_set (i := 1) sc_room_in.nd rfl (by first | exact Or.inl rfl | exact Or.inr rfl) (call_P (ok_first_free T) (hr.mono (by decide)) rfl (da_cons (de_var 0) da_nil)))
    (db_cons (ds_set (i := 2) sc_room_in.nd rfl (by first | exact Or.inl rfl | exact Or.inr rfl) (de_callB (call_max2 rfl) cd_max2 rfl T.z_max (by decide +kernel) (da_cons (call_P (ok_slots_in T) (hr.mono (by decide)) rfl (da_cons (de_var 0) da_nil)) (da_cons (de_op op_addD od_addD (de_var 1) de_int) da_nil))))
    (db_one (ds_ret (de_callB (call_max2 rfl) cd_max2 rfl T.z_max (by decide +kernel) (da_cons de_int (da_cons (de_callB (call_min2 rfl) cd_min2 rfl T.z_min (by decide +kernel) (da_cons de_int (da_cons (de_op op_sub od_sub (de_op op_sub od_sub (de_op op_sub od_sub (de_cst T.c_SIZE) (de_cst T.c_AHEAD)) (de_op op_mul od_mul de_int (de_var 2))) (call_P (ok_used_in T) (hr.mono (by decide)) rfl (da_cons (de_var 0) da_nil))) da_nil))) da_nil)))))))
/-! #### put_in -/
abbrev n_put_in : List Str := ["page", "row", "slot", "rows"]
theorem sc_put_in : FnScope n_put_in ["page", "row"] (defScope s_put_in) := ⟨rfl, rfl, rfl, by decide +kernel, rfl, by decide +kernel, by decide +kernel⟩
def m_put_in : MS Unit := (mSeq (mIfS (mNot (mChainT dLeI dLeI (mC (.int 1)) (mCall dLen (mCons (mVar 1) mNil)) (mCall F_room_in (mCons (mVar 0) mNil))))
    (mRet (mC .none))
    mSkip)
    (mSeq (mSet 2 (mCall F_first_free (mCons (mVar 0) mNil)))
    (mSeq (mSet 3 (mL (mCallF dSorted (mCons (mL (mCat (mCall F_rows_in (mCons (mVar 0) mNil)) (mL (mLst (mCons (mTup (mCons (mVar 2) (mCons (mL (mCallF dListOf (mCons (mVar 1) mNil))) mNil))) mNil))))) mNil))))
    (mRet (mTup (mCons (mCall F_laid (mCons (mVar 3) (mCons (mCall dMax2 (mCons (mCall F_slots_in (mCons (mVar 0) mNil)) (mCons (mOp dAdd (mVar 2) (mC (.int 1))) mNil))) mNil))) (mCons (mVar 2) mNil)))))))
def F_put_in : List D → Option D := runP 4 2 m_put_in
theorem ok_put_in (T : Txt K mg) : Def1 P wd K mg base "put_in" ["page", "row"] 4 (spP K F_put_in) := def_pure T.d_put_in sc_put_in fun f cdv A outer s H E hr =>
    (db_cons (ds_if (dt_not (dt_chain op_le od_leI op_le od_leI de_int (de_callB call_len cd_len rfl T.z_len (by decide +kernel) (da_cons (de_var 1) da_nil)) (call_P (ok_room_in T) (hr.mono (by decide)) rfl (da_cons (de_var 0) da_nil))))
    (db_one (ds_ret de_non))
    db_nil)
    (db_cons (ds_set (i := 2) sc_put_in.nd rfl (by first | exact Or.inl rfl | exact Or.inr rfl) (call_P (ok_first_free T) (hr.mono (by decide)) rfl (da_cons (de_var 0) da_nil)))
    (db_cons (ds_set (i := 3) sc_put_in.nd rfl (by first | exact Or.inl rfl | exact Or.inr rfl) (de_fresh (df_callB (cr_sortD (hu65 hr)) cf_sorted rfl T.z_sorted (by decide +kernel) (da_cons (de_fresh (df_cat (call_P (ok_rows_in T) (hr.mono (by decide)) rfl (da_cons (de_var 0) da_nil)) (de_fresh (df_lst (da_cons (de_tup (da_cons (de_var 2) (da_cons (de_fresh (df_callTy call_list_of cf_list rfl T.z_list (by decide +kernel) (da_cons (de_var 1) da_nil))) da_nil))) da_nil))))) da_nil))))
    (db_one (ds_ret (de_tup (da_cons (call_P (ok_laid T) (hr.mono (by decide)) rfl (da_cons (de_var 3) (da_cons (de_callB (call_max2 rfl) cd_max2 rfl T.z_max (by decide +kernel) (da_cons (call_P (ok_slots_in T) (hr.mono (by decide)) rfl (da_cons (de_var 0) da_nil)) (da_cons (de_op op_addD od_addD (de_var 2) de_int) da_nil))) da_nil))) (da_cons (de_var 2) da_nil))))))))
/-! #### taken_out -/
abbrev n_taken_out : List Str := ["page", "slot", "rows", "pair"]
theorem sc_taken_out : FnScope n_taken_out ["page", "slot"] (defScope s_taken_out) := ⟨rfl, rfl, rfl, by decide +kernel, rfl, by decide +kernel, by decide +kernel⟩
def m_taken_out : MS Unit := (mSeq (mIfS (mOpT dIs (mCall F_row_in (mCons (mVar 0) (mCons (mVar 1) mNil))) (mC .none))
    (mRet (mC .none))
    mSkip)
    (mSeq (mThen (mSetF 2 (mComp (mItL (mCall F_rows_in (mCons (mVar 0) mNil))) [3] (bName 3) (mOpT dNe (mOp dIx (mVar 3) (mC (.int 0))) (mVar 1)) (mVar 3))) 2)
    (mRet (mCall F_laid (mCons (mVar 2) (mCons (mIf (mTru (mVar 2)) (mOp dAdd (mOp dIx (mOp dIx (mVar 2) (mUn dNeg (mC (.int 1)))) (mC (.int 0))) (mC (.int 1))) (mC (.int 0))) mNil))))))
def F_taken_out : List D → Option D := runP 4 2 m_taken_out
theorem ok_taken_out (T : Txt K mg) : Def1 P wd K mg base "taken_out" ["page", "slot"] 4 (spP K F_taken_out) := def_pure T.d_taken_out sc_taken_out fun f cdv A outer s H E hr =>
    (db_cons (ds_if (dt_cmp op_isN od_is (call_P (ok_row_in T) (hr.mono (by decide)) rfl (da_cons (de_var 0) (da_cons (de_var 1) da_nil))) de_non (nomark _))
    (db_one (ds_ret de_non))
    db_nil)
    (db_cons (ds_then 2 (ds_setLc (own := [("pair", 3)]) rfl sc_taken_out.nd rfl rfl (sw_true rfl rfl rfl (by decide +kernel)) (di_list (call_P (ok_rows_in T) (hr.mono (by decide)) rfl (da_cons (de_var 0) da_nil))) (blkOk_by (N := n_taken_out) (sc := defScope s_taken_out) (by decide +kernel)) (fun _ _ _ _ _ => (dg_name (i := 3) sc_taken_out.nd rfl (by first | exact Or.inl rfl | exact Or.inr rfl))) (fun _ _ _ _ _ => (dts_one (dt_cmp (op_neD (hu64 hr)) od_ne (de_ix (de_var 3) de_int) (de_var 1) (nomark _)))) (fun _ _ _ _ _ => (de_var 3))))
    (db_one (ds_ret (call_P (ok_laid T) (hr.mono (by decide)) rfl (da_cons (de_var 2) (da_cons (de_if (dt_tru (de_var 2)) (de_op op_addD od_addD (de_ix (de_ix (de_var 2) (de_un un_neg ud_neg de_int)) de_int) de_int) de_int) da_nil)))))))
/-! #### page_fault -/
abbrev n_page_fault : List Str := ["page", "at", "byte", "slots", "low", "slot", "begin", "length"]
theorem sc_page_fault : FnScope n_page_fault ["page"] (defScope s_page_fault) := ⟨rfl, rfl, rfl, by decide +kernel, rfl, by decide +kernel, by decide +kernel⟩
def lb_page_fault_1 : MS Unit := (mIfS (mNot (mChainT dLeI dLtI (mC (.int 0)) (mVar 2) (mC (.int 256))))
    (mRet (mTup (mCons (mC (.str "byte")) (mCons (mVar 1) mNil))))
    mSkip)
def lb_page_fault_2 : MS Unit := (mSeq (mAsg (bTup 2 (bCons (bName 6) (bCons (bName 7) bNil))) (mCall F_slot_of (mCons (mVar 0) (mCons (mVar 5) mNil))))
    (mIfS (mOpT dEq (mVar 7) (mC (.int 0)))
    (mIfS (mOpT dNe (mVar 6) (mC (.int 0)))
    (mRet (mTup (mCons (mC (.str "slot")) (mCons (mVar 5) mNil))))
    mSkip)
    (mSeq (mSet 4 (mOp dSub (mVar 4) (mVar 7)))
    (mIfS (mOpT dNe (mVar 6) (mVar 4))
    (mRet (mTup (mCons (mC (.str "slot")) (mCons (mVar 5) mNil))))
    mSkip))))
def m_page_fault : MS Unit := (mSeq (mIfS (mOpT dNe (mCall dLen (mCons (mVar 0) mNil)) (mC (.int 256)))
    (mRet (mTup (mCons (mC (.str "size")) mNil)))
    mSkip)
    (mSeq (mFor (mEnum (mCons (mVar 0) mNil)) (bTup 2 (bCons (bName 1) (bCons (bName 2) bNil))) lb_page_fault_1)
    (mSeq (mSet 3 (mOp dIx (mVar 0) (mC (.int 0))))
    (mSeq (mIfS (mOpT dGtI (mOp dAdd (mOp dAdd (mC (.int 2)) (mOp dMul (mC (.int 2)) (mVar 3))) (mOp dIx (mVar 0) (mC (.int 1)))) (mC (.int 256)))
    (mRet (mTup (mCons (mC (.str "slots")) mNil)))
    mSkip)
    (mSeq (mSet 4 (mC (.int 256)))
    (mSeq (mFor (mRng1 (mCons (mVar 3) mNil)) (bName 5) lb_page_fault_2)
    (mSeq (mIfS (mOpT dNe (mOp dIx (mVar 0) (mC (.int 1))) (mOp dSub (mC (.int 256)) (mVar 4)))
    (mRet (mTup (mCons (mC (.str "used")) mNil)))
    mSkip)
    (mSeq (mIfS (mAnd (mOpT dGtI (mVar 3) (mC (.int 0))) (mOpT dEq (mOp dIx (mCall F_slot_of (mCons (mVar 0) (mCons (mOp dSub (mVar 3) (mC (.int 1))) mNil))) (mC (.int 1))) (mC (.int 0))))
    (mRet (mTup (mCons (mC (.str "last")) mNil)))
    mSkip)
    (mSeq (mIfS (mTru (mCall dAny (mCons (mL (mComp (mItL (mL (mSlL (mVar 0) (mPart (mOp dAdd (mC (.int 2)) (mOp dMul (mC (.int 2)) (mVar 3)))) (mPart (mVar 4))))) [2] (bName 2) mYes (mOp dNe (mVar 2) (mC (.int 0))))) mNil)))
    (mRet (mTup (mCons (mC (.str "rest")) mNil)))
    mSkip)
    (mRet (mC .none)))))))))))
def F_page_fault : List D → Option D := runP 8 1 m_page_fault
theorem ok_page_fault (T : Txt K mg) : Def1 P wd K mg base "page_fault" ["page"] 2 (spP K F_page_fault) := def_pure T.d_page_fault sc_page_fault fun f cdv A outer s H E hr =>
    (db_cons (ds_if (dt_cmp (op_neD (hu64 hr)) od_ne (de_callB call_len cd_len rfl T.z_len (by decide +kernel) (da_cons (de_var 0) da_nil)) (de_cst T.c_SIZE) (nomark _))
    (db_one (ds_ret (de_tup (da_cons de_str da_nil))))
    db_nil)
    (db_cons (ds_for PassesOwn.never rfl (di_enum rfl T.z_enumerate (da_cons (de_var 0) da_nil)) (dg_tup rfl (dgs_cons (dg_name (i := 1) sc_page_fault.nd rfl (by first | exact Or.inl rfl | exact Or.inr rfl)) (dgs_cons (dg_name (i := 2) sc_page_fault.nd rfl (by first | exact Or.inl rfl | exact Or.inr rfl)) dgs_nil)))
    (db_one (ds_if (dt_not (dt_chain op_le od_leI op_lt od_ltI de_int (de_var 2) de_int))
    (db_one (ds_ret (de_tup (da_cons de_str (da_cons (de_var 1) da_nil)))))
    db_nil)))
    (db_cons (ds_set (i := 3) sc_page_fault.nd rfl (by first | exact Or.inl rfl | exact Or.inr rfl) (de_ix (de_var 0) de_int))
    (db_cons (ds_if (dt_cmp op_gt od_gtI (de_op op_addD od_addD (de_op op_addD od_addD (de_cst T.c_AHEAD) (de_op op_mul od_mul de_int (de_var 3))) (de_ix (de_var 0) de_int)) (de_cst T.c_SIZE) (nomark _))
    (db_one (ds_ret (de_tup (da_cons de_str da_nil))))
    db_nil)
    (db_cons (ds_set (i := 4) sc_page_fault.nd rfl (by first | exact Or.inl rfl | exact Or.inr rfl) (de_cst T.c_SIZE))
    (db_cons (ds_for PassesOwn.never rfl (di_range1 rfl T.z_range (da_cons (de_var 3) da_nil)) (dg_name (i := 5) sc_page_fault.nd rfl (by first | exact Or.inl rfl | exact Or.inr rfl))
    (db_cons (ds_asg (call_P (ok_slot_of T) (hr.mono (by decide)) rfl (da_cons (de_var 0) (da_cons (de_var 5) da_nil))) (dg_tup rfl (dgs_cons (dg_name (i := 6) sc_page_fault.nd rfl (by first | exact Or.inl rfl | exact Or.inr rfl)) (dgs_cons (dg_name (i := 7) sc_page_fault.nd rfl (by first | exact Or.inl rfl | exact Or.inr rfl)) dgs_nil))))
    (db_one (ds_if (dt_cmp (op_eqD (hu64 hr)) od_eq (de_var 7) de_int (nomark _))
    (db_one (ds_if (dt_cmp (op_neD (hu64 hr)) od_ne (de_var 6) de_int (nomark _))
    (db_one (ds_ret (de_tup (da_cons de_str (da_cons (de_var 5) da_nil)))))
    db_nil))
    (db_cons (ds_set (i := 4) sc_page_fault.nd rfl (by first | exact Or.inl rfl | exact Or.inr rfl) (de_op op_sub od_sub (de_var 4) (de_var 7)))
    (db_one (ds_if (dt_cmp (op_neD (hu64 hr)) od_ne (de_var 6) (de_var 4) (nomark _))
    (db_one (ds_ret (de_tup (da_cons de_str (da_cons (de_var 5) da_nil)))))
    db_nil)))))))
    (db_cons (ds_if (dt_cmp (op_neD (hu64 hr)) od_ne (de_ix (de_var 0) de_int) (de_op op_sub od_sub (de_cst T.c_SIZE) (de_var 4)) (nomark _))
    (db_one (ds_ret (de_tup (da_cons de_str da_nil))))
    db_nil)
    (db_cons (ds_if (PW.pt (dw_and (dt_cmp op_gt od_gtI (de_var 3) de_int (nomark _)) (dw_and1 (dt_cmp (op_eqD (hu64 hr)) od_eq (de_ix (call_P (ok_slot_of T) (hr.mono (by decide)) rfl (da_cons (de_var 0) (da_cons (de_op op_sub od_sub (de_var 3) de_int) da_nil))) de_int) de_int (nomark _)))))
    (db_one (ds_ret (de_tup (da_cons de_str da_nil))))
    db_nil)
    (db_cons (ds_if (dt_tru (de_callB (cr_any rfl) cd_any rfl T.z_any (by decide +kernel) (da_cons (de_fresh (df_comp (own := [("byte", 2)]) rfl sc_page_fault.nd (di_list (de_fresh (df_slice (de_var 0) (do_some (de_op op_addD od_addD (de_cst T.c_AHEAD) (de_op op_mul od_mul de_int (de_var 3)))) (do_some (de_var 4))))) (blkOk_by (N := n_page_fault) (sc := defScope s_page_fault) (by decide +kernel)) (fun _ _ _ _ _ => (dg_name (i := 2) sc_page_fault.nd rfl (by first | exact Or.inl rfl | exact Or.inr rfl))) (fun _ _ _ _ _ => dts_nil) (fun _ _ _ _ _ => (de_cmp (op_neD (hu64 hr)) od_ne (de_var 2) de_int (nomark _))))) da_nil)))
    (db_one (ds_ret (de_tup (da_cons de_str da_nil))))
    db_nil)
    (db_one (ds_ret de_non)))))))))))
/-! #### the list of draws -/
abbrev n__law_state : List Str := ["script", "cells", "cell"]
theorem sc__law_state : FnScope n__law_state ["script"] (defScope s__law_state) := ⟨rfl, rfl, rfl, by decide +kernel, rfl, by decide +kernel, by decide +kernel⟩
theorem ok__law_state (T : Txt K mg) : Def1 P wd K mg base "_law_state" ["script"] 1 (spState K) := by
  obtain ⟨f, fd, F, hm, hB⟩ := T.d__law_state.ex
  refine ⟨f, fd, F.ok sc__law_state (fun vs H Q E h => ?_) (fun cdv A outer s H vs Q E hr h => ?_), hm, F.kp, hB⟩
  · obtain ⟨a, ns, rfl, _⟩ := h
    rfl
  · obtain ⟨a, ns, rfl, hS, hl, kk⟩ := h
    refine ⟨_, pss_cons (ps_setLc (i := 1) (own := [("cell", 2)]) rfl sc__law_state.nd rfl rfl (sw_true rfl rfl rfl (by decide +kernel)) (pi_list (pe_slice sl_list (pv 0) po_none (po_some pe_int))) (blkOk_by (N := n__law_state) (sc := defScope s__law_state) (by decide +kernel))
        (fun _ _ _ _ _ => pg_name (i := 2) sc__law_state.nd rfl (by first | exact Or.inl rfl | exact Or.inr rfl)) (fun _ _ _ _ _ => pts_nil) (fun _ _ _ _ _ => pe_callB call_abs (by rfl) T.z_abs (by decide +kernel) (pa_cons (pv 2) pa_nil)))
      (pss_cons (ps_if (pt_cmpR op_eq (pe_callB call_len_seq (by rfl) T.z_len PySem.boot_len (pa_cons (pv 1) pa_nil)) pe_int (nomark _))
        (pss_one (ps_set (i := 1) sc__law_state.nd rfl (.inl rfl) (pe_lst (pa_cons pe_int pa_nil)))) pss_nil)
      (pss_one (ps_ret (pe_lst (pa_cons pe_int (pa_cons (pv 1) pa_nil)))))), ?_⟩
    obtain ⟨ms, em, hml⟩ := cut_ints ns none (some 63)
    refine ⟨_, rfl, _, rfl, a, _, rfl, hS, fun p hp => ?_⟩
    rw [em]
    refine ⟨p, rfl, ⟨_, SqL.of upd_same⟩, fun D hD => ?_⟩
    have npD : p ≠ D := fun z => by rw [← z, upd_same] at hD; cases hD
    have hD0 : H D = none := by rw [upd_ne npD.symm] at hD; exact hD
    refine lc_list (K := K) (a := p) (xs := ms.map V.int) (fun i H2 => ∃ cs : List Int, cs.length = i ∧ H2 D = some (.lst (cs.map V.int)) ∧ H2 p = some (.lst (ms.map V.int)) ∧ ∀ b, b ≠ p → b ≠ D → H2 b = H b)
      ⟨[], rfl, upd_same, by rw [upd_ne npD, upd_same], fun b h1 h2 => by rw [upd_ne h2, upd_ne h1]⟩ (fun i H2 _ ⟨cs, _, _, h2, _⟩ => SqL.of h2) ?_ ?_
    · rintro i x H2 hx ⟨cs, hc, h1, h2, h3⟩
      have hil : i < (ms.map V.int).length := (List.getElem?_eq_some_iff.mp hx).1
      rw [List.length_map] at hil
      rw [List.getElem?_map, List.getElem?_eq_getElem hil] at hx
      cases hx
      refine ⟨rfl, _, rfl, _, rfl, _, h1, ?_, cs ++ [if ms[i] < 0 then -ms[i] else ms[i]], ?_, ?_, ?_, fun b g1 g2 => ?_⟩
      · rw [List.length_map]; have : (63 : Nat) < sizeLine := by decide
        omega
      · rw [List.length_append, hc]; rfl
      · rw [upd_same, List.map_append]; rfl
      · rw [upd_ne npD]; exact h2
      · rw [upd_ne g2]; exact h3 b g1 g2
    · rintro H2 ⟨cs, hc, h1, h2, h3⟩
      rw [List.length_map] at hc
      have nD : H2 D ≠ none := by rw [h1]; simp
      have fin : ∀ (c : Addr) (cs : List Int) (H3 : Hp) (q : Addr), H c = none → 0 < cs.length → cs.length ≤ 63 → H3 c = some (.lst (cs.map V.int)) → H3 q = none → (∀ b, b ≠ p → b ≠ D → b ≠ c → H3 b = H b) → H3 p ≠ none → H3 D ≠ none →
          Q (.ref q) (upd H3 q (.lst [.int 0, .ref c])) := fun c cs H3 q hc0 k1 k2 k3 k4 k5 k6 k7 => by
        have q1 : q ≠ p := fun z => k6 (z ▸ k4)
        have q2 : q ≠ D := fun z => k7 (z ▸ k4)
        have q3 : q ≠ c := fun z => by rw [z, k3] at k4; cases k4
        refine kk ⟨q, c, 0, cs⟩ _ ((k5 q q1 q2 q3).symm.trans k4) hc0 ⟨q3, upd_same, by show upd H3 q _ c = _; rw [upd_ne q3.symm]; exact k3, k1, k2⟩ fun b o e => ?_
        have b1 : b ≠ p := fun z => by rw [z, hp] at e; cases e
        have b2 : b ≠ D := fun z => by rw [z, hD0] at e; cases e
        have b3 : b ≠ c := fun z => by rw [z, hc0] at e; cases e
        have b4 : b ≠ q := fun z => by rw [z, ← k5 q q1 q2 q3, k4] at e; cases e
        rw [upd_ne b4, k5 b b1 b2 b3]; exact e
      refine ⟨_, rfl, _, _, rfl, .inl (SqL.of h1), rfl, _, rfl, ?_⟩
      rw [dec_int]
      by_cases hz : cs.length = 0
      · refine iteT' ?_ ?_
        · rw [List.length_map, hz]; rfl
        · refine ⟨(by show 1 ≤ sizeLine; decide), fun r hr0 => ⟨_, rfl, (by show 2 ≤ sizeLine; decide), fun q hq => ?_⟩⟩
          have hrp : r ≠ p := fun z => by rw [z, h2] at hr0; cases hr0
          have hrD : r ≠ D := fun z => by rw [z, h1] at hr0; cases hr0
          refine fin r [0] _ q ((h3 r hrp hrD).symm.trans hr0) (by decide) (by decide) upd_same hq (fun b b1 b2 b3 => by rw [upd_ne b3]; exact h3 b b1 b2) ?_ ?_
          · rw [upd_ne hrp.symm, h2]; simp
          · rw [upd_ne hrD.symm, h1]; simp
      · refine iteF' ?_ ?_
        · rw [List.length_map]; exact beq_false_of_ne (by omega)
        · refine ⟨_, rfl, (by show 2 ≤ sizeLine; decide), fun q hq => fin D cs H2 q hD0 (by omega) (by omega) h1 hq (fun b b1 b2 _ => h3 b b1 b2) (by rw [h2]; simp) nD⟩

/-! #### the draws -/
abbrev n__law_take : List Str := ["state", "most", "cells", "at", "cell", "mixed"]
theorem sc__law_take : FnScope n__law_take ["state", "most"] (defScope s__law_take) := ⟨rfl, rfl, rfl, by decide +kernel, rfl, by decide +kernel, by decide +kernel⟩
theorem ok__law_take (T : Txt K mg) : Def1 P wd K mg base "_law_take" ["state", "most"] 1 (spG K drA drawA) := by
  obtain ⟨f, fd, F, hm, hB⟩ := T.d__law_take.ex
  refine ⟨f, fd, F.ok sc__law_take (fun vs H Q E h => ?_) (fun cdv A outer s H vs Q E hr h => ?_), hm, F.kp, hB⟩
  · obtain ⟨I, g, as, d, g', _, _, _, ra, e, _⟩ := h
    obtain ⟨most, rfl, _⟩ := drawA_some e
    exact ra.len
  · obtain ⟨I, g, as, d, g', sI, ok, fI, ra, e, kk⟩ := h
    obtain ⟨most, rfl, h0, h1, rfl, rfl⟩ := drawA_some e
    obtain ⟨ne, hs, hc, hl, hl63⟩ := id ok
    obtain ⟨v0, v1, rfl, rfl, rfl⟩ : ∃ v0 v1, vs = [v0, v1] ∧ v0 = .ref g.s ∧ v1 = .int most := by
      cases ra with
      | cons a b => cases b with
        | cons b c => cases c; cases b; exact ⟨_, _, rfl, a, rfl⟩
    obtain ⟨j, ej, hj⟩ := fmod_ix (n := g.n) hl
    have hjl : j < (g.cells.map V.int).length := by rw [List.length_map]; exact hj
    have hcell : (g.cells.map V.int)[j]? = some (.int (g.cells.getD j 0)) := by
      rw [List.getElem?_map, List.getD_eq_getElem?_getD, List.getElem?_eq_getElem hj]; rfl
    have hat : atI (g.cells.map V.int) (g.n.fmod (g.cells.length : Int)) = some (.int (g.cells.getD j 0)) := by rw [ej]; exact atI_nat hcell
    have hix : ixN (g.cells.map V.int).length (g.n.fmod (g.cells.length : Int)) = some j := by
      rw [ej]
      unfold ixN
      rw [if_pos (by omega), if_pos (by omega)]; simp
    have hlen : ((g.cells.map V.int).length : Int) = (g.cells.length : Int) := by rw [List.length_map]
    refine ⟨_, pss_cons (ps_set (i := 2) sc__law_take.nd rfl (.inl rfl) (pe_ix ix_list (pv 0) pe_int (fun _ _ => rfl)))
      (pss_cons (ps_set (i := 3) sc__law_take.nd rfl (.inl rfl) (pe_op op_modN (pe_ix ix_list (pv 0) pe_int (fun _ _ => rfl)) (pe_callB call_len_seq (by rfl) T.z_len PySem.boot_len (pa_cons (pv 2) pa_nil))))
      (pss_cons (ps_set (i := 4) sc__law_take.nd rfl (.inl rfl) (pe_ix ix_list (pv 2) (pv 3) (fun _ _ => rfl)))
      (pss_cons (ps_if (pt_cmpR op_ge (pv 4) pe_int (nomark _))
        (pss_cons (ps_asg (pe_op op_fdivN (pv 4) (pv 1)) (pg_sub (pv 2) (pv 3) set_list)) (pss_one (ps_ret (pe_op op_modN (pv 4) (pv 1))))) pss_nil)
      (pss_cons (ps_asg (pe_op op_add (pe_ix ix_list (pv 0) pe_int (fun _ _ => rfl)) pe_int) (pg_sub (pv 0) pe_int set_list))
      (pss_cons (ps_set (i := 5) sc__law_take.nd rfl (.inl rfl) (pe_op op_modN (pe_callTy call_int1 (by rfl) T.z_int (by decide +kernel) (pa_cons (pe_op op_add (pe_op op_mul (pv 4) pe_int) (pe_op op_mul (pe_ix ix_list (pv 0) pe_int (fun _ _ => rfl)) pe_int)) pa_nil)) pe_int))
      (pss_cons (ps_set (i := 5) sc__law_take.nd rfl (.inl rfl) (pe_op op_modN (pe_callTy call_int1 (by rfl) T.z_int (by decide +kernel) (pa_cons (pe_op op_add (pe_op op_mul (pv 5) pe_int) (pe_op op_mul (pe_ix ix_list (pv 0) pe_int (fun _ _ => rfl)) pe_int)) pa_nil)) pe_int))
      (pss_one (ps_ret (pe_op op_modN (pe_op op_fdivN (pv 5) pe_int) (pv 1)))))))))), ?_⟩
    refine ⟨_, rfl, _, _, _, _, rfl, rfl, SqL.of hs, rfl, ?_⟩
    refine ⟨_, rfl, _, _, _, _, rfl, rfl, SqL.of hs, rfl, _, rfl, _, _, rfl, .inl (SqL.of hc), _, _, rfl, rfl, by rw [hlen]; omega, ?_⟩
    rw [hlen]
    refine ⟨_, rfl, _, rfl, _, _, _, _, rfl, rfl, SqL.of hc, hat, ?_⟩
    refine ⟨_, rfl, _, _, rfl, rfl, _, rfl, ?_⟩
    have etk : ∀ c : Int, c = g.cells.getD j 0 → g.cells.getD (g.n.fmod (g.cells.length : Int)).toNat 0 = c := fun c hc => by rw [ej, Int.toNat_natCast, hc]
    by_cases hbig : (1000000000000000000 : Int) ≤ g.cells.getD j 0
    · rw [decide_eq_true hbig]
      refine iteT ?_
      refine ⟨_, rfl, _, rfl, _, _, rfl, rfl, ⟨by omega, by omega⟩, _, rfl, _, rfl, _, _, _, _, rfl, rfl, hc, hix, ?_⟩
      refine ⟨_, rfl, _, rfl, _, _, rfl, rfl, by omega, ?_⟩
      have et : g.take most = ((g.cells.getD j 0).fmod most, { g with cells := g.cells.set j ((g.cells.getD j 0).fdiv most) }) := by
        unfold Dr.take
        simp only [etk _ rfl]
        rw [if_neg (by omega), ej, Int.toNat_natCast]
      rw [et] at kk
      have e1 : (g.cells.map V.int).set j (.int ((g.cells.getD j 0).fdiv most)) = (g.cells.set j ((g.cells.getD j 0).fdiv most)).map V.int := by rw [List.map_set]
      refine kk _ I _ (dr_gst sI ok rfl rfl ⟨ne, by rw [upd_ne ne]; exact hs, by rw [upd_same, e1], by rw [List.length_set]; exact hl, by rw [List.length_set]; exact hl63⟩ fI fun a h1 h2 => upd_ne h2) (.int _)
    · rw [decide_eq_false hbig]
      refine iteF ?_
      refine ⟨_, rfl, _, _, _, _, rfl, rfl, SqL.of hs, rfl, _, _, rfl, rfl, _, rfl, _, _, _, _, rfl, rfl, hs, rfl, ?_⟩
      have hs2 : (upd H g.s (HO.lst [.int (g.n + 1), .ref g.c])) g.s = some (.lst [.int (g.n + 1), .ref g.c]) := upd_same
      refine ⟨_, rfl, _, _, rfl, rfl, .inr ⟨by decide, by decide⟩, _, rfl, _, _, _, _, rfl, rfl, SqL.of hs2, rfl, _, _, rfl, rfl, .inr ⟨by decide, by decide⟩, _, _, rfl, rfl, .inl ⟨_, rfl, _, _, rfl, rfl, (by show (2147483647:Int) ≠ 0; decide), ?_⟩⟩
      refine ⟨_, rfl, _, _, rfl, rfl, .inr ⟨by decide, by decide⟩, _, rfl, _, _, _, _, rfl, rfl, SqL.of hs2, rfl, _, _, rfl, rfl, .inr ⟨by decide, by decide⟩, _, _, rfl, rfl, .inl ⟨_, rfl, _, _, rfl, rfl, (by show (1000000007:Int) ≠ 0; decide), ?_⟩⟩
      refine ⟨_, rfl, _, _, rfl, rfl, ⟨by decide, by decide⟩, _, rfl, _, _, rfl, rfl, by omega, ?_⟩
      have et : g.take most = (((((((g.cells.getD j 0) * 48271 + (g.n + 1) * 69621).fmod 2147483647) * 16807 + (g.n + 1) * 7919).fmod 1000000007).fdiv 7).fmod most, { g with n := g.n + 1 }) := by
        unfold Dr.take
        simp only [etk _ rfl]
        rw [if_pos (by omega)]
      rw [et] at kk
      refine kk _ I _ (dr_gst sI ok rfl rfl ⟨ne, upd_same, by rw [upd_ne ne.symm]; exact hc, hl, hl63⟩ fI fun a h1 h2 => upd_ne h1) (.int _)

/-! #### _law_laid -/
abbrev n__law_laid : List Str := ["rows", "slots", "page", "low", "slot", "row", "k"]
theorem sc__law_laid : FnScope n__law_laid ["rows", "slots"] (defScope s__law_laid) := ⟨rfl, rfl, rfl, by decide +kernel, rfl, by decide +kernel, by decide +kernel⟩
def lb__law_laid_1 : MS Unit := (mSetIx 2 (mOp dAdd (mVar 3) (mVar 6)) (mOp dIx (mVar 5) (mVar 6)))
def lb__law_laid_2 : MS Unit := (mSeq (mSet 3 (mOp dSub (mVar 3) (mCall dLen (mCons (mVar 5) mNil))))
    (mSeq (mAsg (bTup 2 (bCons (bSub 2 (mOp dAdd (mC (.int 2)) (mOp dMul (mC (.int 2)) (mVar 4)))) (bCons (bSub 2 (mOp dAdd (mC (.int 3)) (mOp dMul (mC (.int 2)) (mVar 4)))) bNil))) (mTup (mCons (mVar 3) (mCons (mCall dLen (mCons (mVar 5) mNil)) mNil))))
    (mFor (mRng1 (mCons (mCall dLen (mCons (mVar 5) mNil)) mNil)) (bName 6) lb__law_laid_1)))
def m__law_laid : MS Unit := (mSeq (mSetF 2 (mRep (mL (mLst (mCons (mC (.int 0)) mNil))) (mC (.int 256))))
    (mSeq (mAsg (bTup 2 (bCons (bSub 2 (mC (.int 0))) (bCons (bName 3) bNil))) (mTup (mCons (mVar 1) (mCons (mC (.int 256)) mNil))))
    (mSeq (mFor (mItL (mVar 0)) (bTup 2 (bCons (bName 4) (bCons (bName 5) bNil))) lb__law_laid_2)
    (mSeq (mSetIx 2 (mC (.int 1)) (mOp dSub (mC (.int 256)) (mVar 3)))
    (mRetOw 2)))))
def F__law_laid : List D → Option D := runP 7 2 m__law_laid
theorem ok__law_laid (T : Txt K mg) : Def1 P wd K mg base "_law_laid" ["rows", "slots"] 1 (spP K F__law_laid) := def_pure T.d__law_laid sc__law_laid fun f cdv A outer s H E hr =>
    (db_cons (ds_setF (i := 2) sc__law_laid.nd rfl (by first | exact Or.inl rfl | exact Or.inr rfl) (df_rep (de_fresh (df_lst (da_cons de_int da_nil))) de_int))
    (db_cons (ds_asg (de_tup (da_cons (de_var 1) (da_cons de_int da_nil))) (dg_tup rfl (dgs_cons (dg_sub 2 de_int) (dgs_cons (dg_name (i := 3) sc__law_laid.nd rfl (by first | exact Or.inl rfl | exact Or.inr rfl)) dgs_nil))))
    (db_cons (ds_for PassesOwn.never rfl (di_list (de_var 0)) (dg_tup rfl (dgs_cons (dg_name (i := 4) sc__law_laid.nd rfl (by first | exact Or.inl rfl | exact Or.inr rfl)) (dgs_cons (dg_name (i := 5) sc__law_laid.nd rfl (by first | exact Or.inl rfl | exact Or.inr rfl)) dgs_nil)))
    (db_cons (ds_set (i := 3) sc__law_laid.nd rfl (by first | exact Or.inl rfl | exact Or.inr rfl) (de_op op_sub od_sub (de_var 3) (de_callB call_len cd_len rfl T.z_len (by decide +kernel) (da_cons (de_var 5) da_nil))))
    (db_cons (ds_asg (de_tup (da_cons (de_var 3) (da_cons (de_callB call_len cd_len rfl T.z_len (by decide +kernel) (da_cons (de_var 5) da_nil)) da_nil))) (dg_tup rfl (dgs_cons (dg_sub 2 (de_op op_addD od_addD de_int (de_op op_mul od_mul de_int (de_var 4)))) (dgs_cons (dg_sub 2 (de_op op_addD od_addD de_int (de_op op_mul od_mul de_int (de_var 4)))) dgs_nil))))
    (db_one (ds_for PassesOwn.never rfl (di_range1 rfl T.z_range (da_cons (de_callB call_len cd_len rfl T.z_len (by decide +kernel) (da_cons (de_var 5) da_nil)) da_nil)) (dg_name (i := 6) sc__law_laid.nd rfl (by first | exact Or.inl rfl | exact Or.inr rfl))
    (db_one (ds_setIx 2 (de_op op_addD od_addD (de_var 3) (de_var 6)) (de_ix (de_var 5) (de_var 6)))))))))
    (db_cons (ds_setIx 2 de_int (de_op op_sub od_sub de_int (de_var 3)))
    (db_one (ds_retOw 2))))))
/-! #### _law_row -/
abbrev n__law_row : List Str := ["state", "size", "k"]
theorem sc__law_row : FnScope n__law_row ["state"] (defScope s__law_row) := ⟨rfl, rfl, rfl, by decide +kernel, rfl, by decide +kernel, by decide +kernel⟩
def m__law_row : MS Dr := (mSeq (mSet 1 (mOp dAdd (mOp dIx (mL (mLst (mCons (mC (.int 1)) (mCons (mC (.int 3)) (mCons (mC (.int 20)) (mCons (mC (.int 60)) (mCons (mC (.int 120)) (mCons (mC (.int 253)) mNil)))))))) (mCallG drawA (gConsS 0 (gCons (mC (.int 6)) gNil)))) (mCallG drawA (gConsS 0 (gCons (mC (.int 3)) gNil)))))
    (mRetF (mComp (mRng1 (mCons (mVar 1) mNil)) [2] (bName 2) mYes (mOp dMod (mOp dAdd (mCallG drawA (gConsS 0 (gCons (mC (.int 256)) gNil))) (mOp dMul (mC (.int 7)) (mVar 2))) (mC (.int 256))))))
def F__law_row : List SV → Dr → Option (D × Dr) := runG 3 1 m__law_row
theorem ok__law_row (T : Txt K mg) : Def1 P wd K mg base "_law_row" ["state"] 2 (spG K drA F__law_row) := def_ghost T.d__law_row sc__law_row fun f cdv A outer s H E hr =>
    (db_cons (ds_set (i := 1) sc__law_row.nd rfl (by first | exact Or.inl rfl | exact Or.inr rfl) (de_op op_addD od_addD (de_ix (de_fresh (df_lst (da_cons de_int (da_cons de_int (da_cons de_int (da_cons de_int (da_cons de_int (da_cons de_int da_nil)))))))) (call_G (ok__law_take T) (hr.mono (by decide)) rfl (dg_st (i := 0) (dg_cons de_int dg_nil)))) (call_G (ok__law_take T) (hr.mono (by decide)) rfl (dg_st (i := 0) (dg_cons de_int dg_nil)))))
    (db_one (ds_retF (df_comp (own := [("k", 2)]) rfl sc__law_row.nd (di_range1 rfl T.z_range (da_cons (de_var 1) da_nil)) (blkOk_by (N := n__law_row) (sc := defScope s__law_row) (by decide +kernel)) (fun _ _ _ _ _ => (dg_name (i := 2) sc__law_row.nd rfl (by first | exact Or.inl rfl | exact Or.inr rfl))) (fun _ _ _ _ _ => dts_nil) (fun _ _ _ _ _ => (de_op op_modN od_mod (de_op op_addD od_addD (call_G (ok__law_take T) (hr.mono (by decide)) rfl (dg_st (i := 0) (dg_cons de_int dg_nil))) (de_op op_mul od_mul de_int (de_var 2))) de_int))))))
/-! #### _law_fault -/
abbrev n__law_fault : List Str := ["page", "wrong", "k", "slots", "low", "slot", "begin", "length", "byte"]
theorem sc__law_fault : FnScope n__law_fault ["page"] (defScope s__law_fault) := ⟨rfl, rfl, rfl, by decide +kernel, rfl, by decide +kernel, by decide +kernel⟩
def lb__law_fault_1 : MS Unit := (mSeq (mPar 6 7 (mCons (mOp dIx (mVar 0) (mOp dAdd (mC (.int 2)) (mOp dMul (mC (.int 2)) (mVar 5)))) (mCons (mOp dIx (mVar 0) (mOp dAdd (mC (.int 3)) (mOp dMul (mC (.int 2)) (mVar 5)))) mNil)))
    (mSeq (mSet 4 (mOp dSub (mVar 4) (mVar 7)))
    (mIfS (mOpT dNe (mVar 6) (mIf (mOpT dGtI (mVar 7) (mC (.int 0))) (mVar 4) (mC (.int 0))))
    (mRet (mTup (mCons (mC (.str "slot")) (mCons (mVar 5) mNil))))
    mSkip)))
def m__law_fault : MS Unit := (mSeq (mIfS (mOpT dNe (mCall dLen (mCons (mVar 0) mNil)) (mC (.int 256)))
    (mRet (mTup (mCons (mC (.str "size")) mNil)))
    mSkip)
    (mSeq (mThen (mSetF 1 (mComp (mRng1 (mCons (mC (.int 256)) mNil)) [2] (bName 2) (mNot (mChainT dLeI dLtI (mC (.int 0)) (mOp dIx (mVar 0) (mVar 2)) (mC (.int 256)))) (mVar 2))) 1)
    (mSeq (mIfS (mOpT dGtI (mCall dLen (mCons (mVar 1) mNil)) (mC (.int 0)))
    (mRet (mTup (mCons (mC (.str "byte")) (mCons (mOp dIx (mVar 1) (mC (.int 0))) mNil))))
    mSkip)
    (mSeq (mPar 3 4 (mCons (mOp dIx (mVar 0) (mC (.int 0))) (mCons (mC (.int 256)) mNil)))
    (mSeq (mIfS (mOpT dGtI (mOp dAdd (mOp dAdd (mC (.int 2)) (mOp dMul (mC (.int 2)) (mVar 3))) (mOp dIx (mVar 0) (mC (.int 1)))) (mC (.int 256)))
    (mRet (mTup (mCons (mC (.str "slots")) mNil)))
    mSkip)
    (mSeq (mFor (mRng1 (mCons (mVar 3) mNil)) (bName 5) lb__law_fault_1)
    (mSeq (mIfS (mOpT dNe (mOp dIx (mVar 0) (mC (.int 1))) (mOp dSub (mC (.int 256)) (mVar 4)))
    (mRet (mTup (mCons (mC (.str "used")) mNil)))
    mSkip)
    (mSeq (mIfS (mAnd (mOpT dGtI (mVar 3) (mC (.int 0))) (mOpT dEq (mOp dIx (mVar 0) (mOp dAdd (mC (.int 1)) (mOp dMul (mC (.int 2)) (mVar 3)))) (mC (.int 0))))
    (mRet (mTup (mCons (mC (.str "last")) mNil)))
    mSkip)
    (mRet (mIf (mOpT dGtI (mCall dLen (mCons (mL (mComp (mItL (mL (mSlL (mVar 0) (mPart (mOp dAdd (mC (.int 2)) (mOp dMul (mC (.int 2)) (mVar 3)))) (mPart (mVar 4))))) [8] (bName 8) (mOpT dNe (mVar 8) (mC (.int 0))) (mVar 8))) mNil)) (mC (.int 0))) (mTup (mCons (mC (.str "rest")) mNil)) (mC .none)))))))))))
def F__law_fault : List D → Option D := runP 9 1 m__law_fault
theorem ok__law_fault (T : Txt K mg) : Def1 P wd K mg base "_law_fault" ["page"] 1 (spP K F__law_fault) := def_pure T.d__law_fault sc__law_fault fun f cdv A outer s H E hr =>
    (db_cons (ds_if (dt_cmp (op_neD (hu64 hr)) od_ne (de_callB call_len cd_len rfl T.z_len (by decide +kernel) (da_cons (de_var 0) da_nil)) de_int (nomark _))
    (db_one (ds_ret (de_tup (da_cons de_str da_nil))))
    db_nil)
    (db_cons (ds_then 1 (ds_setLc (own := [("k", 2)]) rfl sc__law_fault.nd rfl rfl (sw_true rfl rfl rfl (by decide +kernel)) (di_range1 rfl T.z_range (da_cons de_int da_nil)) (blkOk_by (N := n__law_fault) (sc := defScope s__law_fault) (by decide +kernel)) (fun _ _ _ _ _ => (dg_name (i := 2) sc__law_fault.nd rfl (by first | exact Or.inl rfl | exact Or.inr rfl))) (fun _ _ _ _ _ => (dts_one (dt_not (dt_chain op_le od_leI op_lt od_ltI de_int (de_ix (de_var 0) (de_var 2)) de_int)))) (fun _ _ _ _ _ => (de_var 2))))
    (db_cons (ds_if (dt_cmp op_gt od_gtI (de_callB call_len cd_len rfl T.z_len (by decide +kernel) (da_cons (de_var 1) da_nil)) de_int (nomark _))
    (db_one (ds_ret (de_tup (da_cons de_str (da_cons (de_ix (de_var 1) de_int) da_nil)))))
    db_nil)
    (db_cons (ds_par (i := 3) (j := 4) rfl sc__law_fault.nd rfl rfl (by decide) rfl rfl (da_cons (de_ix (de_var 0) de_int) (da_cons de_int da_nil)) (by rfl))
    (db_cons (ds_if (dt_cmp op_gt od_gtI (de_op op_addD od_addD (de_op op_addD od_addD de_int (de_op op_mul od_mul de_int (de_var 3))) (de_ix (de_var 0) de_int)) de_int (nomark _))
    (db_one (ds_ret (de_tup (da_cons de_str da_nil))))
    db_nil)
    (db_cons (ds_for PassesOwn.never rfl (di_range1 rfl T.z_range (da_cons (de_var 3) da_nil)) (dg_name (i := 5) sc__law_fault.nd rfl (by first | exact Or.inl rfl | exact Or.inr rfl))
    (db_cons (ds_par (i := 6) (j := 7) rfl sc__law_fault.nd rfl rfl (by decide) rfl rfl (da_cons (de_ix (de_var 0) (de_op op_addD od_addD de_int (de_op op_mul od_mul de_int (de_var 5)))) (da_cons (de_ix (de_var 0) (de_op op_addD od_addD de_int (de_op op_mul od_mul de_int (de_var 5)))) da_nil)) (by rfl))
    (db_cons (ds_set (i := 4) sc__law_fault.nd rfl (by first | exact Or.inl rfl | exact Or.inr rfl) (de_op op_sub od_sub (de_var 4) (de_var 7)))
    (db_one (ds_if (dt_cmp (op_neD (hu64 hr)) od_ne (de_var 6) (de_if (dt_cmp op_gt od_gtI (de_var 7) de_int (nomark _)) (de_var 4) de_int) (nomark _))
    (db_one (ds_ret (de_tup (da_cons de_str (da_cons (de_var 5) da_nil)))))
    db_nil)))))
    (db_cons (ds_if (dt_cmp (op_neD (hu64 hr)) od_ne (de_ix (de_var 0) de_int) (de_op op_sub od_sub de_int (de_var 4)) (nomark _))
    (db_one (ds_ret (de_tup (da_cons de_str da_nil))))
    db_nil)
    (db_cons (ds_if (PW.pt (dw_and (dt_cmp op_gt od_gtI (de_var 3) de_int (nomark _)) (dw_and1 (dt_cmp (op_eqD (hu64 hr)) od_eq (de_ix (de_var 0) (de_op op_addD od_addD de_int (de_op op_mul od_mul de_int (de_var 3)))) de_int (nomark _)))))
    (db_one (ds_ret (de_tup (da_cons de_str da_nil))))
    db_nil)
    (db_one (ds_ret (de_if (dt_cmp op_gt od_gtI (de_callB call_len cd_len rfl T.z_len (by decide +kernel) (da_cons (de_fresh (df_comp (own := [("byte", 8)]) rfl sc__law_fault.nd (di_list (de_fresh (df_slice (de_var 0) (do_some (de_op op_addD od_addD de_int (de_op op_mul od_mul de_int (de_var 3)))) (do_some (de_var 4))))) (blkOk_by (N := n__law_fault) (sc := defScope s__law_fault) (by decide +kernel)) (fun _ _ _ _ _ => (dg_name (i := 8) sc__law_fault.nd rfl (by first | exact Or.inl rfl | exact Or.inr rfl))) (fun _ _ _ _ _ => (dts_one (dt_cmp (op_neD (hu64 hr)) od_ne (de_var 8) de_int (nomark _)))) (fun _ _ _ _ _ => (de_var 8)))) da_nil)) de_int (nomark _)) (de_tup (da_cons de_str da_nil)) de_non)))))))))))
/-! #### law -/
abbrev n_law : List Str := ["script", "state", "rows", "slot", "row", "at", "other", "page", "made", "own", "turn", "bent", "spot", "kind"]
theorem sc_law : FnScope n_law ["script"] (defScope s_law) := ⟨rfl, rfl, rfl, by decide +kernel, rfl, by decide +kernel, by decide +kernel⟩
def lb_law_1 : MS Dr := (mSeq (mSet 4 (mL (mSlL (mCallG F__law_row (gConsS 1 gNil)) mNo (mPart (mC (.int 70))))))
    (mIfS (mAnd (mLendT [2, 11] (mOpT dLtI (mOp dAdd (mOp dAdd (mCall dSum (mCons (mL (mComp (mItL (mVar 2)) [5, 6] (bTup 2 (bCons (bName 5) (bCons (bName 6) bNil))) mYes (mOp dAdd (mCall dLen (mCons (mVar 6) mNil)) (mC (.int 2))))) mNil)) (mCall dLen (mCons (mVar 4) mNil))) (mOp dMul (mC (.int 2)) (mVar 3))) (mC (.int 230)))) (mOpT dGtI (mCallG drawA (gConsS 1 (gCons (mC (.int 4)) gNil))) (mC (.int 0))))
    (mApp 2 (mTup (mCons (mVar 3) (mCons (mVar 4) mNil))))
    mSkip))
def lb_law_2 : MS Dr := (mSeq (mThen (mSetF 9 (mComp (mItL (mVar 2)) [5, 4] (bTup 2 (bCons (bName 5) (bCons (bName 4) bNil))) (mOpT dEq (mVar 5) (mVar 3)) (mVar 4))) 9)
    (mSet 8 (mOp dIx (mCall F_put_in (mCons (mVar 8) (mCons (mIf (mOpT dGtI (mCall dLen (mCons (mVar 9) mNil)) (mC (.int 0))) (mOp dIx (mVar 9) (mC (.int 0))) (mL (mLst (mCons (mC (.int 9)) mNil)))) mNil))) (mC (.int 0)))))
def lb_law_3 : MS Dr := (mSet 8 (mIf (mOpT (dInF true) (mVar 3) (mL (mComp (mItL (mVar 2)) [5, 4] (bTup 2 (bCons (bName 5) (bCons (bName 4) bNil))) mYes (mVar 5)))) (mCall F_taken_out (mCons (mVar 8) (mCons (mVar 3) mNil))) (mVar 8)))
def lb_law_4 : MS Dr := (mSeq (mSetF 11 (mCallF dListOf (mCons (mVar 7) mNil)))
    (mSeq (mSet 12 (mOp dIx (mL (mLst (mCons (mC (.int 0)) (mCons (mC (.int 1)) (mCons (mC (.int 2)) (mCons (mC (.int 3)) (mCons (mC (.int 4)) (mCons (mC (.int 5)) (mCons (mCallG drawA (gConsS 1 (gCons (mC (.int 256)) gNil))) mNil))))))))) (mCallG drawA (gConsS 1 (gCons (mC (.int 7)) gNil)))))
    (mSeq (mSet 13 (mCallG drawA (gConsS 1 (gCons (mC (.int 6)) gNil))))
    (mSeq (mIfS (mOpT dEq (mVar 13) (mC (.int 0)))
    (mSetIx 11 (mVar 12) (mOp dMod (mOp dAdd (mIxOw 11 (mVar 12)) (mC (.int 1))) (mC (.int 256))))
    (mIfS (mOpT dEq (mVar 13) (mC (.int 1)))
    (mSetIx 11 (mVar 12) (mOp dMod (mOp dAdd (mIxOw 11 (mVar 12)) (mC (.int 255))) (mC (.int 256))))
    (mIfS (mOpT dEq (mVar 13) (mC (.int 2)))
    (mSetIx 11 (mVar 12) (mOp dIx (mL (mLst (mCons (mC (.int 256)) (mCons (mOp dSub (mC (.int 0)) (mC (.int 1))) (mCons (mC (.int 255)) (mCons (mC (.int 0)) mNil)))))) (mCallG drawA (gConsS 1 (gCons (mC (.int 4)) gNil)))))
    (mIfS (mOpT dEq (mVar 13) (mC (.int 3)))
    (mSetF 11 (mIf (mOpT dEq (mCallG drawA (gConsS 1 (gCons (mC (.int 2)) gNil))) (mC (.int 0))) (mSlOw 11 (mPart (mC (.int 1))) mNo) (mCatOw 11 (mL (mLst (mCons (mC (.int 0)) mNil))))))
    (mIfS (mOpT dEq (mVar 13) (mC (.int 4)))
    (mSetIx 11 (mC (.int 0)) (mOp dAdd (mIxOw 11 (mC (.int 0))) (mC (.int 1))))
    (mSetIx 11 (mOp dAdd (mC (.int 2)) (mCallG drawA (gConsS 1 (gCons (mC (.int 12)) gNil)))) (mCallG drawA (gConsS 1 (gCons (mC (.int 256)) gNil)))))))))
    (mIfS (mLendT [11] (mOpT dNe (mCall F_page_fault (mCons (mVar 11) mNil)) (mCall F__law_fault (mCons (mVar 11) mNil))))
    (mRet (mC (.bool false)))
    mSkip)))))
def m_law : MS Dr := (mSeq (mSetF 2 (mLst mNil))
    (mSeq (mFor (mRng1 (mCons (mCallG drawA (gConsS 1 (gCons (mC (.int 7)) gNil))) mNil)) (bName 3) lb_law_1)
    (mSeq (mFrz 2 (mSet 7 (mCall F__law_laid (mCons (mVar 2) (mCons (mIf (mOpT dGtI (mCall dLen (mCons (mVar 2) mNil)) (mC (.int 0))) (mOp dAdd (mOp dIx (mOp dIx (mVar 2) (mUn dNeg (mC (.int 1)))) (mC (.int 0))) (mC (.int 1))) (mC (.int 0))) mNil)))))
    (mSeq (mIfS (mOr (mOpT dIsNot (mCall F_page_fault (mCons (mVar 7) mNil)) (mC .none)) (mOr (mOpT dIsNot (mCall F__law_fault (mCons (mVar 7) mNil)) (mC .none)) (mOpT dIsNot (mCall F_page_fault (mCons (mL (mCallF F_empty_page mNil)) mNil)) (mC .none))))
    (mRet (mC (.bool false)))
    mSkip)
    (mSeq (mSet 8 (mL (mCallF F_empty_page mNil)))
    (mSeq (mFor (mRng1 (mCons (mIf (mOpT dGtI (mCall dLen (mCons (mVar 2) mNil)) (mC (.int 0))) (mOp dAdd (mOp dIx (mOp dIx (mVar 2) (mUn dNeg (mC (.int 1)))) (mC (.int 0))) (mC (.int 1))) (mC (.int 0))) mNil)) (bName 3) lb_law_2)
    (mSeq (mFor (mRng1 (mCons (mIf (mOpT dGtI (mCall dLen (mCons (mVar 2) mNil)) (mC (.int 0))) (mOp dAdd (mOp dIx (mOp dIx (mVar 2) (mUn dNeg (mC (.int 1)))) (mC (.int 0))) (mC (.int 1))) (mC (.int 0))) mNil)) (bName 3) lb_law_3)
    (mSeq (mIfS (mOpT dNe (mVar 8) (mVar 7))
    (mRet (mC (.bool false)))
    mSkip)
    (mSeq (mFor (mRng1 (mCons (mC (.int 12)) mNil)) (bName 10) lb_law_4)
    (mRet (mC (.bool true))))))))))))
theorem body_law (T : Txt K mg) (f : Addr) (cdv : Value) (A : Around) (outer : List PySem.Env) (s : Shared) (H : Hp) (E : XK) (hr : Room 4 (A.deeper (PyProof.Rows.envOfC "law" (defScope s_law) s.heap.objs.size f cdv))) :
    PSs (cxOf CX0 P wd K mg base n_law "law" (defScope s_law) f cdv A outer s H E).nox ((defBody s_law).drop 1) (tS K drA m_law) :=
    (db_cons (ds_setF (i := 2) sc_law.nd rfl (by first | exact Or.inl rfl | exact Or.inr rfl) (df_lst da_nil))
    (db_cons (ds_for PassesOwn.never rfl (di_range1 rfl T.z_range (da_cons (call_G (ok__law_take T) (hr.mono (by decide)) rfl (dg_st (i := 1) (dg_cons de_int dg_nil))) da_nil)) (dg_name (i := 3) sc_law.nd rfl (by first | exact Or.inl rfl | exact Or.inr rfl))
    (db_cons (ds_set (i := 4) sc_law.nd rfl (by first | exact Or.inl rfl | exact Or.inr rfl) (de_fresh (df_slice (call_G (ok__law_row T) (hr.mono (by decide)) rfl (dg_st (i := 1) dg_nil)) do_none (do_some de_int))))
    (db_one (ds_if (PW.pt (dw_and (dt_lend [2, 11] (dt_cmp op_lt od_ltI (de_op op_addD od_addD (de_op op_addD od_addD (de_callB (cr_sum rfl) cd_sum rfl T.z_sum (by decide +kernel) (da_cons (de_fresh (df_comp (own := [("at", 5), ("other", 6)]) rfl sc_law.nd (di_list (de_var 2)) (blkOk_by (N := n_law) (sc := defScope s_law) (by decide +kernel)) (fun _ _ _ _ _ => (dg_tup rfl (dgs_cons (dg_name (i := 5) sc_law.nd rfl (by first | exact Or.inl rfl | exact Or.inr rfl)) (dgs_cons (dg_name (i := 6) sc_law.nd rfl (by first | exact Or.inl rfl | exact Or.inr rfl)) dgs_nil)))) (fun _ _ _ _ _ => dts_nil) (fun _ _ _ _ _ => (de_op op_addD od_addD (de_callB call_len cd_len rfl T.z_len (by decide +kernel) (da_cons (de_var 6) da_nil)) de_int)))) da_nil)) (de_callB call_len cd_len rfl T.z_len (by decide +kernel) (da_cons (de_var 4) da_nil))) (de_op op_mul od_mul de_int (de_var 3))) de_int (nomark _))) (dw_and1 (dt_cmp op_gt od_gtI (call_G (ok__law_take T) (hr.mono (by decide)) rfl (dg_st (i := 1) (dg_cons de_int dg_nil))) de_int (nomark _)))))
    (db_one (ds_append 2 (de_tup (da_cons (de_var 3) (da_cons (de_var 4) da_nil)))))
    db_nil))))
    (db_cons (ds_frz 2 (ds_set (i := 7) sc_law.nd rfl (by first | exact Or.inl rfl | exact Or.inr rfl) (call_P (ok__law_laid T) (hr.mono (by decide)) rfl (da_cons (de_var 2) (da_cons (de_if (dt_cmp op_gt od_gtI (de_callB call_len cd_len rfl T.z_len (by decide +kernel) (da_cons (de_var 2) da_nil)) de_int (nomark _)) (de_op op_addD od_addD (de_ix (de_ix (de_var 2) (de_un un_neg ud_neg de_int)) de_int) de_int) de_int) da_nil)))))
    (db_cons (ds_if (PW.pt (dw_or (dt_cmp op_notN od_isNot (call_P (ok_page_fault T) (hr.mono (by decide)) rfl (da_cons (de_var 7) da_nil)) de_non (nomark _)) (dw_or (dt_cmp op_notN od_isNot (call_P (ok__law_fault T) (hr.mono (by decide)) rfl (da_cons (de_var 7) da_nil)) de_non (nomark _)) (dw_or1 (dt_cmp op_notN od_isNot (call_P (ok_page_fault T) (hr.mono (by decide)) rfl (da_cons (de_fresh (call_N0 (ok_empty_page T) (hr.mono (by decide)) rfl)) da_nil)) de_non (nomark _))))))
    (db_one (ds_ret de_bl))
    db_nil)
    (db_cons (ds_set (i := 8) sc_law.nd rfl (by first | exact Or.inl rfl | exact Or.inr rfl) (de_fresh (call_N0 (ok_empty_page T) (hr.mono (by decide)) rfl)))
    (db_cons (ds_for PassesOwn.never rfl (di_range1 rfl T.z_range (da_cons (de_if (dt_cmp op_gt od_gtI (de_callB call_len cd_len rfl T.z_len (by decide +kernel) (da_cons (de_var 2) da_nil)) de_int (nomark _)) (de_op op_addD od_addD (de_ix (de_ix (de_var 2) (de_un un_neg ud_neg de_int)) de_int) de_int) de_int) da_nil)) (dg_name (i := 3) sc_law.nd rfl (by first | exact Or.inl rfl | exact Or.inr rfl))
    (db_cons (ds_then 9 (ds_setLc (own := [("at", 5), ("row", 4)]) rfl sc_law.nd rfl rfl (sw_true rfl rfl rfl (by decide +kernel)) (di_list (de_var 2)) (blkOk_by (N := n_law) (sc := defScope s_law) (by decide +kernel)) (fun _ _ _ _ _ => (dg_tup rfl (dgs_cons (dg_name (i := 5) sc_law.nd rfl (by first | exact Or.inl rfl | exact Or.inr rfl)) (dgs_cons (dg_name (i := 4) sc_law.nd rfl (by first | exact Or.inl rfl | exact Or.inr rfl)) dgs_nil)))) (fun _ _ _ _ _ => (dts_one (dt_cmp (op_eqD (hu64 hr)) od_eq (de_var 5) (de_var 3) (nomark _)))) (fun _ _ _ _ _ => (de_var 4))))
    (db_one (ds_set (i := 8) sc_law.nd rfl (by first | exact Or.inl rfl | exact Or.inr rfl) (de_ix (call_P (ok_put_in T) (hr.mono (by decide)) rfl (da_cons (de_var 8) (da_cons (de_if (dt_cmp op_gt od_gtI (de_callB call_len cd_len rfl T.z_len (by decide +kernel) (da_cons (de_var 9) da_nil)) de_int (nomark _)) (de_ix (de_var 9) de_int) (de_fresh (df_lst (da_cons de_int da_nil)))) da_nil))) de_int)))))
    (db_cons (ds_for PassesOwn.never rfl (di_range1 rfl T.z_range (da_cons (de_if (dt_cmp op_gt od_gtI (de_callB call_len cd_len rfl T.z_len (by decide +kernel) (da_cons (de_var 2) da_nil)) de_int (nomark _)) (de_op op_addD od_addD (de_ix (de_ix (de_var 2) (de_un un_neg ud_neg de_int)) de_int) de_int) de_int) da_nil)) (dg_name (i := 3) sc_law.nd rfl (by first | exact Or.inl rfl | exact Or.inr rfl))
    (db_one (ds_set (i := 8) sc_law.nd rfl (by first | exact Or.inl rfl | exact Or.inr rfl) (de_if (dt_cmp op_notIn_seq (od_inF true) (de_var 3) (de_fresh (df_comp (own := [("at", 5), ("row", 4)]) rfl sc_law.nd (di_list (de_var 2)) (blkOk_by (N := n_law) (sc := defScope s_law) (by decide +kernel)) (fun _ _ _ _ _ => (dg_tup rfl (dgs_cons (dg_name (i := 5) sc_law.nd rfl (by first | exact Or.inl rfl | exact Or.inr rfl)) (dgs_cons (dg_name (i := 4) sc_law.nd rfl (by first | exact Or.inl rfl | exact Or.inr rfl)) dgs_nil)))) (fun _ _ _ _ _ => dts_nil) (fun _ _ _ _ _ => (de_var 5)))) (by rfl)) (call_P (ok_taken_out T) (hr.mono (by decide)) rfl (da_cons (de_var 8) (da_cons (de_var 3) da_nil))) (de_var 8)))))
    (db_cons (ds_if (dt_cmp (op_neD (hu64 hr)) od_ne (de_var 8) (de_var 7) (nomark _))
    (db_one (ds_ret de_bl))
    db_nil)
    (db_cons (ds_for PassesOwn.never rfl (di_range1 rfl T.z_range (da_cons de_int da_nil)) (dg_name (i := 10) sc_law.nd rfl (by first | exact Or.inl rfl | exact Or.inr rfl))
    (db_cons (ds_setF (i := 11) sc_law.nd rfl (by first | exact Or.inl rfl | exact Or.inr rfl) (df_callTy call_list_of cf_list rfl T.z_list (by decide +kernel) (da_cons (de_var 7) da_nil)))
    (db_cons (ds_set (i := 12) sc_law.nd rfl (by first | exact Or.inl rfl | exact Or.inr rfl) (de_ix (de_fresh (df_lst (da_cons de_int (da_cons de_int (da_cons de_int (da_cons de_int (da_cons de_int (da_cons de_int (da_cons (call_G (ok__law_take T) (hr.mono (by decide)) rfl (dg_st (i := 1) (dg_cons de_int dg_nil))) da_nil))))))))) (call_G (ok__law_take T) (hr.mono (by decide)) rfl (dg_st (i := 1) (dg_cons de_int dg_nil)))))
    (db_cons (ds_set (i := 13) sc_law.nd rfl (by first | exact Or.inl rfl | exact Or.inr rfl) (call_G (ok__law_take T) (hr.mono (by decide)) rfl (dg_st (i := 1) (dg_cons de_int dg_nil))))
    (db_cons (ds_if (dt_cmp (op_eqD (hu64 hr)) od_eq (de_var 13) de_int (nomark _))
    (db_one (ds_setIx 11 (de_var 12) (de_op op_modN od_mod (de_op op_addD od_addD (de_ixOw 11 (de_var 12)) de_int) de_int)))
    (db_one (ds_if (dt_cmp (op_eqD (hu64 hr)) od_eq (de_var 13) de_int (nomark _))
    (db_one (ds_setIx 11 (de_var 12) (de_op op_modN od_mod (de_op op_addD od_addD (de_ixOw 11 (de_var 12)) de_int) de_int)))
    (db_one (ds_if (dt_cmp (op_eqD (hu64 hr)) od_eq (de_var 13) de_int (nomark _))
    (db_one (ds_setIx 11 (de_var 12) (de_ix (de_fresh (df_lst (da_cons de_int (da_cons (de_op op_sub od_sub de_int de_int) (da_cons de_int (da_cons de_int da_nil)))))) (call_G (ok__law_take T) (hr.mono (by decide)) rfl (dg_st (i := 1) (dg_cons de_int dg_nil))))))
    (db_one (ds_if (dt_cmp (op_eqD (hu64 hr)) od_eq (de_var 13) de_int (nomark _))
    (db_one (ds_setF (i := 11) sc_law.nd rfl (by first | exact Or.inl rfl | exact Or.inr rfl) (df_if (dt_cmp (op_eqD (hu64 hr)) od_eq (call_G (ok__law_take T) (hr.mono (by decide)) rfl (dg_st (i := 1) (dg_cons de_int dg_nil))) de_int (nomark _)) (df_sliceOw 11 (do_some de_int) do_none) (df_catOw 11 (de_fresh (df_lst (da_cons de_int da_nil)))))))
    (db_one (ds_if (dt_cmp (op_eqD (hu64 hr)) od_eq (de_var 13) de_int (nomark _))
    (db_one (ds_setIx 11 de_int (de_op op_addD od_addD (de_ixOw 11 de_int) de_int)))
    (db_one (ds_setIx 11 (de_op op_addD od_addD de_int (call_G (ok__law_take T) (hr.mono (by decide)) rfl (dg_st (i := 1) (dg_cons de_int dg_nil)))) (call_G (ok__law_take T) (hr.mono (by decide)) rfl (dg_st (i := 1) (dg_cons de_int dg_nil))))))))))))))
    (db_one (ds_if (dt_lend [11] (dt_cmp (op_neD (hu64 hr)) od_ne (call_P (ok_page_fault T) (hr.mono (by decide)) rfl (da_cons (de_var 11) da_nil)) (call_P (ok__law_fault T) (hr.mono (by decide)) rfl (da_cons (de_var 11) da_nil)) (nomark _)))
    (db_one (ds_ret de_bl))
    db_nil)))))))
    (db_one (ds_ret de_bl)))))))))))
end
end K53

namespace K53
open PySem Pd
/-! the faults of a page, as a function -/
def bad (xs : List Int) (k : Nat) : Bool := !(decide (0 ≤ xs.getD k 0) && decide (xs.getD k 0 < 256))
def scan (xs : List Int) : Nat → Nat → Int → Int ⊕ Nat
  | 0, _, low => .inl low
  | n + 1, k, low => if xs.getD (3 + 2 * k) 0 = 0 then (if xs.getD (2 + 2 * k) 0 = 0 then scan xs n (k + 1) low else .inr k) else if xs.getD (2 + 2 * k) 0 = low - xs.getD (3 + 2 * k) 0 then scan xs n (k + 1) (low - xs.getD (3 + 2 * k) 0) else .inr k
def rest (xs : List Int) (a b : Int) : List D := cut (xs.map .int) (some a) (some b)
def nz : D → Bool
  | .int i => !(i == 0)
  | _ => true
def fault (xs : List Int) : D :=
  if xs.length ≠ 256 then .tuple [.str "size"] else
  match (List.range 256).filter (bad xs) with
  | k :: _ => .tuple [.str "byte", .int (k : Int)]
  | [] => if 2 + 2 * xs.getD 0 0 + xs.getD 1 0 > 256 then .tuple [.str "slots"] else
    match scan xs (xs.getD 0 0).toNat 0 256 with
    | .inr k => .tuple [.str "slot", .int (k : Int)]
    | .inl low => if xs.getD 1 0 ≠ 256 - low then .tuple [.str "used"] else
      if 0 < xs.getD 0 0 ∧ xs.getD (1 + 2 * (xs.getD 0 0).toNat) 0 = 0 then .tuple [.str "last"] else
      if (rest xs (2 + 2 * xs.getD 0 0) low).any nz = true then .tuple [.str "rest"] else .none
theorem get_of {xs : List Int} {k : Nat} (h : k < xs.length) : xs[k]? = some (xs.getD k 0) := by
  rw [List.getD_eq_getElem?_getD, List.getElem?_eq_getElem h]; rfl
theorem bad_range {xs : List Int} {k : Nat} (h : bad xs k = false) : 0 ≤ xs.getD k 0 ∧ xs.getD k 0 < 256 := by
  unfold bad at h
  simpa using h
theorem getix {G : Type} {env : Pd.Env} {g g1 : G} {xs : List Int} {m : ME G} {k : Nat} {i : Nat} {z : Int} (he : env.at i = .sh (iL xs)) (hm : m env g = some (.int z, g1)) (hz : z = (k : Int)) (hk : k < xs.length) : mOp dIx (mVar i) m env g = some (.int (xs.getD k 0), g1) := by
  subst hz
  exact op_e (var_e he) hm (iL_get (get_of hk))
theorem slot_of_e {xs : List Int} {k : Nat} (h : 3 + 2 * k < xs.length) : F_slot_of [iL xs, .int (k : Int)] = some (.tuple [.int (xs.getD (2 + 2 * k) 0), .int (xs.getD (3 + 2 * k) 0)]) := by
  refine runP_re (N := 3) (n := 2) (m := m_slot_of) (ds := [iL xs, .int (k : Int)]) (u := ()) (seq_nx (set_e (op_e (z := .int (2 + 2 * (k : Int))) rfl (op_e rfl rfl (mul_l (by decide))) rfl)) (ret_e (tup_e (cons_e (getix (k := 2 + 2 * k) rfl rfl ?_ (by omega)) (cons_e (getix (k := 3 + 2 * k) rfl (op_e rfl rfl rfl) ?_ h) nil_e)))))
  · omega
  · omega
/-! #### page_fault -/
abbrev PF (xs : List Int) (a b s l c d e : SV) : Pd.Env := [.sh (iL xs), a, b, s, l, c, d, e]
theorem pf_bytes {xs : List Int} {s l c d e : SV} : ∀ {n k : Nat} {a b : SV}, xs.length = k + n → b.notOw = true → match (List.range' k n).filter (bad xs) with
    | [] => ∃ a' b', b'.notOw = true ∧ loopL (bTup 2 (bCons (bName 1) (bCons (bName 2) bNil))) lb_page_fault_1 (enm k ((xs.drop k).map .int)) (PF xs a b s l c d e) () = some (Ct.nx, PF xs a' b' s l c d e, ())
    | j :: _ => ∃ a' b', loopL (bTup 2 (bCons (bName 1) (bCons (bName 2) bNil))) lb_page_fault_1 (enm k ((xs.drop k).map .int)) (PF xs a b s l c d e) () = some (Ct.re (.tuple [.str "byte", .int (j : Int)]), PF xs a' b' s l c d e, ())
  | 0, k, a, b, h, hb => by
    rw [List.drop_of_length_le (by omega)]
    exact ⟨a, b, hb, rfl⟩
  | n + 1, k, a, b, h, _ => by
    have hk : k < xs.length := by omega
    rw [List.drop_eq_getElem_cons hk, List.map_cons, List.range'_succ]
    have e0 : xs[k] = xs.getD k 0 := by rw [List.getD_eq_getElem?_getD, List.getElem?_eq_getElem hk]; rfl
    rw [e0]
    simp only [enm]
    have t : ∀ r : Bool, bad xs k = r → (mNot (mChainT dLeI dLtI (mC (.int 0)) (mVar 2) (mC (.int 256)))) (PF xs (.sh (.int (k : Int))) (.sh (.int (xs.getD k 0))) s l c d e) () = some (r, ()) := fun r hr => by
      subst hr
      unfold bad
      refine not_e ?_
      by_cases h1 : 0 ≤ xs.getD k 0
      · by_cases h2 : xs.getD k 0 < 256
        · rw [decide_eq_true h1, decide_eq_true h2]; exact chain_t rfl rfl (le_t h1) rfl (lt_t h2)
        · rw [decide_eq_true h1, decide_eq_false h2]; exact chain_t rfl rfl (le_t h1) rfl (lt_f h2)
      · rw [decide_eq_false h1]; exact chain_f rfl rfl (le_f h1)
    cases hb : bad xs k with
    | true =>
      rw [List.filter_cons_of_pos hb]
      exact ⟨_, _, loop_re rfl (if_t (t _ hb) (ret_e (tup_e (cons_e rfl (cons_e rfl nil_e)))))⟩
    | false =>
      rw [List.filter_cons_of_neg (by rw [hb]; decide)]
      have ih := pf_bytes (xs := xs) (s := s) (l := l) (c := c) (d := d) (e := e) (n := n) (k := k + 1) (a := .sh (.int (k : Int))) (b := .sh (.int (xs.getD k 0))) (by omega) rfl
      split at ih
      · obtain ⟨a', b', hb', ih⟩ := ih
        exact ⟨a', b', hb', loop_nx rfl (if_no (t _ hb)) ih⟩
      · obtain ⟨a', b', ih⟩ := ih
        exact ⟨a', b', loop_nx rfl (if_no (t _ hb)) ih⟩
theorem pf_scan {xs : List Int} {a b : SV} {sl : Int} : ∀ {n k : Nat} {low : Int} {c d e : SV}, 1 + 2 * (k + n) < xs.length → match scan xs n k low with
    | .inl low' => ∃ c' d' e', loopL (bName 5) lb_page_fault_2 (rng (k : Int) n) (PF xs a b (.sh (.int sl)) (.sh (.int low)) c d e) () = some (Ct.nx, PF xs a b (.sh (.int sl)) (.sh (.int low')) c' d' e', ())
    | .inr j => ∃ e', loopL (bName 5) lb_page_fault_2 (rng (k : Int) n) (PF xs a b (.sh (.int sl)) (.sh (.int low)) c d e) () = some (Ct.re (.tuple [.str "slot", .int (j : Int)]), e', ())
  | 0, k, low, c, d, e, h => ⟨c, d, e, rfl⟩
  | n + 1, k, low, c, d, e, h => by
    rw [rng_succ, show ((k : Int) + 1) = ((k + 1 : Nat) : Int) from rfl]
    have sc : (mAsg (bTup 2 (bCons (bName 6) (bCons (bName 7) bNil))) (mCall F_slot_of (mCons (mVar 0) (mCons (mVar 5) mNil)))) (PF xs a b (.sh (.int sl)) (.sh (.int low)) (.sh (.int (k : Int))) d e) () = some (.nx, PF xs a b (.sh (.int sl)) (.sh (.int low)) (.sh (.int (k : Int))) (.sh (.int (xs.getD (2 + 2 * k) 0))) (.sh (.int (xs.getD (3 + 2 * k) 0))), ()) :=
      asg_e (call_e (cons_e rfl (cons_e rfl nil_e)) (slot_of_e (by omega))) rfl
    unfold scan
    by_cases hl : xs.getD (3 + 2 * k) 0 = 0
    · rw [if_pos hl]
      by_cases hb : xs.getD (2 + 2 * k) 0 = 0
      · rw [if_pos hb]
        have ih := pf_scan (xs := xs) (a := a) (b := b) (sl := sl) (n := n) (k := k + 1) (low := low) (c := .sh (.int (k : Int))) (d := .sh (.int (xs.getD (2 + 2 * k) 0))) (e := .sh (.int (xs.getD (3 + 2 * k) 0))) (by omega)
        have st := seq_nx (m2 := (mIfS (mOpT dEq (mVar 7) (mC (.int 0))) (mIfS (mOpT dNe (mVar 6) (mC (.int 0))) (mRet (mTup (mCons (mC (.str "slot")) (mCons (mVar 5) mNil)))) mSkip) (mSeq (mSet 4 (mOp dSub (mVar 4) (mVar 7))) (mIfS (mOpT dNe (mVar 6) (mVar 4)) (mRet (mTup (mCons (mC (.str "slot")) (mCons (mVar 5) mNil)))) mSkip)))) sc (if_t (opT_e rfl rfl (eq_it hl)) (if_no (opT_e rfl rfl (neq_f hb))))
        split at ih
        · obtain ⟨c', d', e', ih⟩ := ih
          exact ⟨c', d', e', loop_nx rfl st ih⟩
        · obtain ⟨e', ih⟩ := ih
          exact ⟨e', loop_nx rfl st ih⟩
      · rw [if_neg hb]
        exact ⟨_, loop_re rfl (seq_nx sc (if_t (opT_e rfl rfl (eq_it hl)) (if_t (opT_e rfl rfl (neq_t hb)) (ret_e (tup_e (cons_e rfl (cons_e rfl nil_e)))))))⟩
    · rw [if_neg hl]
      by_cases hb : xs.getD (2 + 2 * k) 0 = low - xs.getD (3 + 2 * k) 0
      · rw [if_pos hb]
        have ih := pf_scan (xs := xs) (a := a) (b := b) (sl := sl) (n := n) (k := k + 1) (low := low - xs.getD (3 + 2 * k) 0) (c := .sh (.int (k : Int))) (d := .sh (.int (xs.getD (2 + 2 * k) 0))) (e := .sh (.int (xs.getD (3 + 2 * k) 0))) (by omega)
        have st := seq_nx (m2 := (mIfS (mOpT dEq (mVar 7) (mC (.int 0))) (mIfS (mOpT dNe (mVar 6) (mC (.int 0))) (mRet (mTup (mCons (mC (.str "slot")) (mCons (mVar 5) mNil)))) mSkip) (mSeq (mSet 4 (mOp dSub (mVar 4) (mVar 7))) (mIfS (mOpT dNe (mVar 6) (mVar 4)) (mRet (mTup (mCons (mC (.str "slot")) (mCons (mVar 5) mNil)))) mSkip)))) sc (if_f (opT_e rfl rfl (eq_if hl)) (seq_nx (set_e (op_e rfl rfl rfl)) (if_no (opT_e rfl rfl (neq_f hb)))))
        split at ih
        · obtain ⟨c', d', e', ih⟩ := ih
          exact ⟨c', d', e', loop_nx rfl st ih⟩
        · obtain ⟨e', ih⟩ := ih
          exact ⟨e', loop_nx rfl st ih⟩
      · rw [if_neg hb]
        exact ⟨_, loop_re rfl (seq_nx sc (if_f (opT_e rfl rfl (eq_if hl)) (seq_nx (set_e (op_e rfl rfl rfl)) (if_t (opT_e rfl rfl (neq_t hb)) (ret_e (tup_e (cons_e rfl (cons_e rfl nil_e))))))))⟩
theorem page_fault_e (xs : List Int) (hL : xs.length ≤ 1000) : F_page_fault [iL xs] = some (fault xs) := by
  unfold fault
  by_cases hl : xs.length ≠ 256
  · rw [if_pos hl]
    exact runP_re (N := 8) (n := 1) (m := m_page_fault) (seq_re (if_t (opT_e (call_e (cons_e rfl nil_e) iL_len) rfl (neq_t (by omega))) (ret_e (tup_e (cons_e rfl nil_e)))))
  · rw [if_neg hl]
    have hl : xs.length = 256 := by omega
    have s0 : mIfS (mOpT dNe (mCall dLen (mCons (mVar 0) mNil)) (mC (.int 256))) (mRet (mTup (mCons (mC (.str "size")) mNil))) mSkip (startE 8 ([iL xs].map .sh)) () = some (.nx, PF xs .un .un .un .un .un .un .un, ()) :=
      if_no (opT_e (call_e (cons_e rfl nil_e) iL_len) rfl (neq_f (by omega)))
    have f1 := pf_bytes (xs := xs) (s := .un) (l := .un) (c := .un) (d := .un) (e := .un) (n := 256) (k := 0) (a := .un) (b := .un) (by omega) rfl
    rw [List.range_eq_range']
    have hb0 : ∀ k, k < 256 → (List.range' 0 256).filter (bad xs) = [] → bad xs k = false := fun k hk h => by
      have := List.filter_eq_nil_iff.mp h k (by rw [List.mem_range'_1]; omega)
      simpa using this
    split
    · rename_i j t e
      rw [e] at f1
      obtain ⟨a, b, f1⟩ := f1
      exact runP_re (N := 8) (n := 1) (m := m_page_fault) (seq_nx s0 (seq_re (for_e (enum_e (cons_e rfl nil_e)) f1)))
    · rename_i e
      rw [e] at f1
      obtain ⟨a, b, hbo, f1⟩ := f1
      have b0 := bad_range (hb0 0 (by omega) e)
      have b1 := bad_range (hb0 1 (by omega) e)
      have x0 : ∀ env : Pd.Env, env.at 0 = .sh (iL xs) → mOp dIx (mVar 0) (mC (.int 0)) env () = some (.int (xs.getD 0 0), ()) := fun env he => getix (k := 0) he rfl rfl (by omega)
      have x1 : ∀ env : Pd.Env, env.at 0 = .sh (iL xs) → mOp dIx (mVar 0) (mC (.int 1)) env () = some (.int (xs.getD 1 0), ()) := fun env he => getix (k := 1) he rfl rfl (by omega)
      by_cases h1 : 2 + 2 * xs.getD 0 0 + xs.getD 1 0 > 256
      · rw [if_pos h1]
        exact runP_re (N := 8) (n := 1) (m := m_page_fault) (seq_nx s0 (seq_nx (for_e (enum_e (cons_e rfl nil_e)) f1) (seq_nx (set_e (x0 _ rfl)) (seq_re (if_t (opT_e (op_e (op_e rfl (op_e rfl rfl (mul_l (by decide))) rfl) (x1 _ rfl) rfl) rfl (gt_t h1)) (ret_e (tup_e (cons_e rfl nil_e))))))))
      · rw [if_neg h1]
        have f2 := pf_scan (xs := xs) (a := a) (b := b) (sl := xs.getD 0 0) (n := (xs.getD 0 0).toNat) (k := 0) (low := 256) (c := .un) (d := .un) (e := .un) (by omega)
        split
        · rename_i j e2
          rw [e2] at f2
          obtain ⟨e', f2⟩ := f2
          refine runP_Re (N := 8) (n := 1) (m := m_page_fault) (re_nx s0 (re_nx (for_e (enum_e (cons_e rfl nil_e)) f1) (re_nx (set_e (x0 _ rfl)) (re_nx (if_no (opT_e (op_e (op_e rfl (op_e rfl rfl (mul_l (by decide))) rfl) (x1 _ rfl) rfl) rfl (gt_f h1))) (re_nx (set_e rfl) (re_in ?_))))))
          exact re_e (for_e (rng1_e (cons_e rfl nil_e) (by omega)) f2)
        · rename_i low e2
          rw [e2] at f2
          obtain ⟨c', d', e', f2⟩ := f2
          refine runP_Re (N := 8) (n := 1) (m := m_page_fault) (re_nx s0 (re_nx (for_e (enum_e (cons_e rfl nil_e)) f1) (re_nx (set_e (x0 _ rfl)) (re_nx (if_no (opT_e (op_e (op_e rfl (op_e rfl rfl (mul_l (by decide))) rfl) (x1 _ rfl) rfl) rfl (gt_f h1))) (re_nx (set_e rfl) (re_nx (for_e (rng1_e (cons_e rfl nil_e) (by omega)) f2) ?_))))))
          by_cases h2 : xs.getD 1 0 ≠ 256 - low
          · rw [if_pos h2]
            exact re_in (re_ift (opT_e (x1 _ rfl) (op_e rfl rfl rfl) (neq_t h2)) (re_ret (tup_e (cons_e rfl nil_e))))
          · rw [if_neg h2]
            refine re_nx (if_no (opT_e (x1 _ rfl) (op_e rfl rfl rfl) (neq_f (by omega)))) ?_
            have so : 0 < xs.getD 0 0 → ∀ env : Pd.Env, env.at 0 = .sh (iL xs) → env.at 3 = .sh (.int (xs.getD 0 0)) → mOp dIx (mCall F_slot_of (mCons (mVar 0) (mCons (mOp dSub (mVar 3) (mC (.int 1))) mNil))) (mC (.int 1)) env () = some (.int (xs.getD (1 + 2 * (xs.getD 0 0).toNat) 0), ()) := fun h0 env e0 e3 => by
              have q := slot_of_e (xs := xs) (k := (xs.getD 0 0).toNat - 1) (by omega)
              have eq1 : ((((xs.getD 0 0).toNat - 1 : Nat)) : Int) = xs.getD 0 0 - 1 := by omega
              rw [eq1, show 3 + 2 * ((xs.getD 0 0).toNat - 1) = 1 + 2 * (xs.getD 0 0).toNat by omega] at q
              exact op_e (call_e (cons_e (var_e e0) (cons_e (op_e (var_e e3) rfl rfl) nil_e)) q) rfl rfl
            by_cases h3 : 0 < xs.getD 0 0 ∧ xs.getD (1 + 2 * (xs.getD 0 0).toNat) 0 = 0
            · rw [if_pos h3]
              exact re_in (re_ift (and_t (opT_e rfl rfl (gt_t h3.1)) (opT_e (so h3.1 _ rfl rfl) rfl (eq_it h3.2))) (re_ret (tup_e (cons_e rfl nil_e))))
            · rw [if_neg h3]
              have tf : mAnd (mOpT dGtI (mVar 3) (mC (.int 0))) (mOpT dEq (mOp dIx (mCall F_slot_of (mCons (mVar 0) (mCons (mOp dSub (mVar 3) (mC (.int 1))) mNil))) (mC (.int 1))) (mC (.int 0))) (PF xs a b (.sh (.int (xs.getD 0 0))) (.sh (.int low)) c' d' e') () = some (false, ()) := by
                by_cases h0 : 0 < xs.getD 0 0
                · exact and_t (opT_e rfl rfl (gt_t h0)) (opT_e (so h0 _ rfl rfl) rfl (eq_if fun z => h3 ⟨h0, z⟩))
                · exact and_f (opT_e rfl rfl (gt_f h0))
              refine re_nx (if_no tf) ?_
              obtain ⟨l, el⟩ : ∃ l : List Int, rest xs (2 + 2 * xs.getD 0 0) low = l.map .int := by
                unfold rest cut
                exact ⟨_, by rw [List.length_map, ← List.map_drop, ← List.map_take]⟩
              have ea : (rest xs (2 + 2 * xs.getD 0 0) low).any nz = l.any fun z => !(z == 0) := by
                rw [el, List.any_map]; rfl
              have ev : mTru (mCall dAny (mCons (mL (mComp (mItL (mL (mSlL (mVar 0) (mPart (mOp dAdd (mC (.int 2)) (mOp dMul (mC (.int 2)) (mVar 3)))) (mPart (mVar 4))))) [2] (bName 2) mYes (mOp dNe (mVar 2) (mC (.int 0))))) mNil)) (PF xs a b (.sh (.int (xs.getD 0 0))) (.sh (.int low)) c' d' e') () = some (l.any fun z => !(z == 0), ()) := by
                have el' : cut (xs.map PyData.int) (some (2 + 2 * xs.getD 0 0)) (some low) = l.map .int := el
                refine tru_e (call_e (cons_e (L_e (comp_e (itL_e (L_e (xs := l.map .int) ((slL_e (h := some low) (l := some (2 + 2 * xs.getD 0 0)) rfl (part_e (op_e rfl (op_e rfl rfl (mul_l (by decide))) rfl)) (part_e rfl)).trans ?_))) (by show (b.notOw && true) = true; rw [hbo]; rfl) (compL_mm .int (fun z => .bool (!(z == 0))) fun z _ => ⟨_, rfl, op_e rfl rfl (ne_int z 0)⟩))) nil_e) (any_e l _)) rfl
                rw [el']
              rw [ea]
              cases hr : l.any fun z => !(z == 0) with
              | true => rw [hr] at ev; exact re_in (re_ift ev (re_ret (tup_e (cons_e rfl nil_e))))
              | false => rw [hr] at ev; exact re_nx (if_no ev) (re_ret rfl)
/-! #### the law's own reading -/
abbrev LF (xs : List Int) (w a s l b c d e : SV) : Pd.Env := [.sh (iL xs), w, a, s, l, b, c, d, e]
theorem lf_scan {xs : List Int} {w a e : SV} {sl : Int} (hx : ∀ k, k < 256 → 0 ≤ xs.getD k 0) (hL : xs.length = 256) : ∀ {n k : Nat} {low : Int} {b c d : SV}, 1 + 2 * (k + n) < xs.length → match scan xs n k low with
    | .inl low' => ∃ b' c' d', loopL (bName 5) lb__law_fault_1 (rng (k : Int) n) (LF xs w a (.sh (.int sl)) (.sh (.int low)) b c d e) () = some (Ct.nx, LF xs w a (.sh (.int sl)) (.sh (.int low')) b' c' d' e, ())
    | .inr j => ∃ e', loopL (bName 5) lb__law_fault_1 (rng (k : Int) n) (LF xs w a (.sh (.int sl)) (.sh (.int low)) b c d e) () = some (Ct.re (.tuple [.str "slot", .int (j : Int)]), e', ())
  | 0, k, low, b, c, d, h => ⟨b, c, d, rfl⟩
  | n + 1, k, low, b, c, d, h => by
    rw [rng_succ, show ((k : Int) + 1) = ((k + 1 : Nat) : Int) from rfl]
    have hp := hx (3 + 2 * k) (by omega)
    have sc : (mPar 6 7 (mCons (mOp dIx (mVar 0) (mOp dAdd (mC (.int 2)) (mOp dMul (mC (.int 2)) (mVar 5)))) (mCons (mOp dIx (mVar 0) (mOp dAdd (mC (.int 3)) (mOp dMul (mC (.int 2)) (mVar 5)))) mNil))) (LF xs w a (.sh (.int sl)) (.sh (.int low)) (.sh (.int (k : Int))) c d e) () = some (.nx, LF xs w a (.sh (.int sl)) (.sh (.int low)) (.sh (.int (k : Int))) (.sh (.int (xs.getD (2 + 2 * k) 0))) (.sh (.int (xs.getD (3 + 2 * k) 0))) e, ()) :=
      par_e (cons_e (getix (k := 2 + 2 * k) rfl (op_e rfl (op_e rfl rfl (mul_l (by decide))) rfl) (by omega) (by omega)) (cons_e (getix (k := 3 + 2 * k) rfl (op_e rfl (op_e rfl rfl (mul_l (by decide))) rfl) (by omega) (by omega)) nil_e))
    have tst : ∀ z : Int, z = (if 0 < xs.getD (3 + 2 * k) 0 then low - xs.getD (3 + 2 * k) 0 else 0) → ∀ r, dNe (.int (xs.getD (2 + 2 * k) 0)) (.int z) = some (.bool r) → (mOpT dNe (mVar 6) (mIf (mOpT dGtI (mVar 7) (mC (.int 0))) (mVar 4) (mC (.int 0)))) (LF xs w a (.sh (.int sl)) (.sh (.int (low - xs.getD (3 + 2 * k) 0))) (.sh (.int (k : Int))) (.sh (.int (xs.getD (2 + 2 * k) 0))) (.sh (.int (xs.getD (3 + 2 * k) 0))) e) () = some (r, ()) := fun z hz r hr => by
      refine opT_e (y := .int z) rfl ?_ hr
      by_cases h0 : 0 < xs.getD (3 + 2 * k) 0
      · rw [if_pos h0] at hz; subst hz; exact mif_t (opT_e rfl rfl (gt_t h0)) rfl
      · rw [if_neg h0] at hz; subst hz; exact mif_f (opT_e rfl rfl (gt_f h0)) rfl
    have ih : ∀ low', match scan xs n (k + 1) low' with
      | .inl low'' => ∃ b' c' d', loopL (bName 5) lb__law_fault_1 (rng ((k + 1 : Nat) : Int) n) (LF xs w a (.sh (.int sl)) (.sh (.int low')) (.sh (.int (k : Int))) (.sh (.int (xs.getD (2 + 2 * k) 0))) (.sh (.int (xs.getD (3 + 2 * k) 0))) e) () = some (Ct.nx, LF xs w a (.sh (.int sl)) (.sh (.int low'')) b' c' d' e, ())
      | .inr j => ∃ e', loopL (bName 5) lb__law_fault_1 (rng ((k + 1 : Nat) : Int) n) (LF xs w a (.sh (.int sl)) (.sh (.int low')) (.sh (.int (k : Int))) (.sh (.int (xs.getD (2 + 2 * k) 0))) (.sh (.int (xs.getD (3 + 2 * k) 0))) e) () = some (Ct.re (.tuple [.str "slot", .int (j : Int)]), e', ()) := fun low' => lf_scan (xs := xs) (n := n) (k := k + 1) hx hL (by omega)
    have good : ∀ z : Int, z = (if 0 < xs.getD (3 + 2 * k) 0 then low - xs.getD (3 + 2 * k) 0 else 0) → xs.getD (2 + 2 * k) 0 = z → lb__law_fault_1 (LF xs w a (.sh (.int sl)) (.sh (.int low)) (.sh (.int (k : Int))) c d e) () = some (.nx, LF xs w a (.sh (.int sl)) (.sh (.int (low - xs.getD (3 + 2 * k) 0))) (.sh (.int (k : Int))) (.sh (.int (xs.getD (2 + 2 * k) 0))) (.sh (.int (xs.getD (3 + 2 * k) 0))) e, ()) := fun z hz hb =>
      seq_nx sc (seq_nx (set_e (op_e rfl rfl rfl)) (if_no (tst z hz false (neq_f hb))))
    have evil : ∀ z : Int, z = (if 0 < xs.getD (3 + 2 * k) 0 then low - xs.getD (3 + 2 * k) 0 else 0) → xs.getD (2 + 2 * k) 0 ≠ z → ∃ e', lb__law_fault_1 (LF xs w a (.sh (.int sl)) (.sh (.int low)) (.sh (.int (k : Int))) c d e) () = some (Ct.re (.tuple [.str "slot", .int (k : Int)]), e', ()) := fun z hz hb =>
      ⟨_, seq_nx sc (seq_nx (set_e (op_e rfl rfl rfl)) (if_t (tst z hz true (neq_t hb)) (ret_e (tup_e (cons_e rfl (cons_e rfl nil_e))))))⟩
    unfold scan
    by_cases hl : xs.getD (3 + 2 * k) 0 = 0
    · rw [if_pos hl]
      by_cases hb : xs.getD (2 + 2 * k) 0 = 0
      · rw [if_pos hb]
        have q := good 0 (by rw [if_neg (by omega)]) hb
        have i2 := ih low
        rw [show low - xs.getD (3 + 2 * k) 0 = low by omega] at q
        split at i2
        · obtain ⟨c', d', e', i2⟩ := i2
          exact ⟨c', d', e', loop_nx rfl q i2⟩
        · obtain ⟨e', i2⟩ := i2
          exact ⟨e', loop_nx rfl q i2⟩
      · rw [if_neg hb]
        obtain ⟨e', q⟩ := evil 0 (by rw [if_neg (by omega)]) hb
        exact ⟨e', loop_re rfl q⟩
    · rw [if_neg hl]
      by_cases hb : xs.getD (2 + 2 * k) 0 = low - xs.getD (3 + 2 * k) 0
      · rw [if_pos hb]
        have q := good _ rfl (by rw [if_pos (by omega)]; exact hb)
        have i2 := ih (low - xs.getD (3 + 2 * k) 0)
        split at i2
        · obtain ⟨c', d', e', i2⟩ := i2
          exact ⟨c', d', e', loop_nx rfl q i2⟩
        · obtain ⟨e', i2⟩ := i2
          exact ⟨e', loop_nx rfl q i2⟩
      · rw [if_neg hb]
        obtain ⟨e', q⟩ := evil _ rfl (by rw [if_pos (by omega)]; exact hb)
        exact ⟨e', loop_re rfl q⟩
end K53

namespace K53
open PySem Pd
theorem law_fault_e (xs : List Int) (hL : xs.length ≤ 1000) : F__law_fault [iL xs] = some (fault xs) := by
  unfold fault
  by_cases hl : xs.length ≠ 256
  · rw [if_pos hl]
    exact runP_re (N := 9) (n := 1) (m := m__law_fault) (seq_re (if_t (opT_e (call_e (cons_e rfl nil_e) iL_len) rfl (neq_t (by omega))) (ret_e (tup_e (cons_e rfl nil_e)))))
  · rw [if_neg hl]
    have hl : xs.length = 256 := by omega
    have s0 : mIfS (mOpT dNe (mCall dLen (mCons (mVar 0) mNil)) (mC (.int 256))) (mRet (mTup (mCons (mC (.str "size")) mNil))) mSkip (startE 9 ([iL xs].map .sh)) () = some (.nx, LF xs .un .un .un .un .un .un .un .un, ()) :=
      if_no (opT_e (call_e (cons_e rfl nil_e) iL_len) rfl (neq_f (by omega)))
    have hb0 : ∀ k, k < 256 → (List.range 256).filter (bad xs) = [] → bad xs k = false := fun k hk h => by
      have := List.filter_eq_nil_iff.mp h k (List.mem_range.mpr hk)
      simpa using this
    have t : ∀ k : Nat, k < 256 → (mNot (mChainT dLeI dLtI (mC (.int 0)) (mOp dIx (mVar 0) (mVar 2)) (mC (.int 256)))) (LF xs .un (.sh (.int (k : Int))) .un .un .un .un .un .un) () = some (bad xs k, ()) := fun k hk => by
      unfold bad
      refine not_e ?_
      have gx : mOp dIx (mVar 0) (mVar 2) (LF xs .un (.sh (.int (k : Int))) .un .un .un .un .un .un) () = some (.int (xs.getD k 0), ()) := getix (k := k) rfl rfl rfl (by omega)
      by_cases h1 : 0 ≤ xs.getD k 0
      · by_cases h2 : xs.getD k 0 < 256
        · rw [decide_eq_true h1, decide_eq_true h2]; exact chain_t rfl gx (le_t h1) rfl (lt_t h2)
        · rw [decide_eq_true h1, decide_eq_false h2]; exact chain_t rfl gx (le_t h1) rfl (lt_f h2)
      · rw [decide_eq_false h1]; exact chain_f rfl gx (le_f h1)
    have s1 : mThen (mSetF 1 (mComp (mRng1 (mCons (mC (.int 256)) mNil)) [2] (bName 2) (mNot (mChainT dLeI dLtI (mC (.int 0)) (mOp dIx (mVar 0) (mVar 2)) (mC (.int 256)))) (mVar 2))) 1 (LF xs .un .un .un .un .un .un .un .un) () =
        some (.nx, LF xs (.sh (.list (((List.range 256).filter (bad xs)).map fun k : Nat => PyData.int (k : Int)))) .un .un .un .un .un .un .un, ()) := by
      refine then_e (setF_e (comp_e (ds := (List.range 256).map fun k : Nat => PyData.int (k : Int)) ((rng1_e (cons_e rfl nil_e) (by decide)).trans (by rw [← rng0]; rfl)) rfl (compL_filter (fun k : Nat => .int (k : Int)) (fun k : Nat => .int (k : Int)) (bad xs) fun k hk => ⟨_, rfl, t k (List.mem_range.mp hk), rfl⟩)))
    split
    · rename_i j tl e
      rw [e] at s1
      refine runP_Re (N := 9) (n := 1) (m := m__law_fault) (re_nx s0 (re_nx s1 (re_in (re_ift (opT_e (call_e (cons_e rfl nil_e) len_e) rfl (gt_t ?_)) (re_ret (tup_e (cons_e rfl (cons_e (op_e rfl rfl (ix_nat (j := 0) rfl)) nil_e))))))))
      rw [List.length_map, List.length_cons]; omega
    · rename_i e
      rw [e] at s1
      have b0 := bad_range (hb0 0 (by omega) e)
      have b1 := bad_range (hb0 1 (by omega) e)
      have bx : ∀ k, k < 256 → 0 ≤ xs.getD k 0 := fun k hk => (bad_range (hb0 k hk e)).1
      have x0 : ∀ env : Pd.Env, env.at 0 = .sh (iL xs) → mOp dIx (mVar 0) (mC (.int 0)) env () = some (.int (xs.getD 0 0), ()) := fun env he => getix (k := 0) he rfl rfl (by omega)
      have x1 : ∀ env : Pd.Env, env.at 0 = .sh (iL xs) → mOp dIx (mVar 0) (mC (.int 1)) env () = some (.int (xs.getD 1 0), ()) := fun env he => getix (k := 1) he rfl rfl (by omega)
      have s2 : mIfS (mOpT dGtI (mCall dLen (mCons (mVar 1) mNil)) (mC (.int 0))) (mRet (mTup (mCons (mC (.str "byte")) (mCons (mOp dIx (mVar 1) (mC (.int 0))) mNil)))) mSkip (LF xs (.sh (.list [])) .un .un .un .un .un .un .un) () = some (.nx, LF xs (.sh (.list [])) .un .un .un .un .un .un .un, ()) :=
        if_no (opT_e (call_e (cons_e rfl nil_e) len_e) rfl (gt_f (by decide)))
      have s3 : mPar 3 4 (mCons (mOp dIx (mVar 0) (mC (.int 0))) (mCons (mC (.int 256)) mNil)) (LF xs (.sh (.list [])) .un .un .un .un .un .un .un) () = some (.nx, LF xs (.sh (.list [])) .un (.sh (.int (xs.getD 0 0))) (.sh (.int 256)) .un .un .un .un, ()) :=
        par_e (cons_e (x0 _ rfl) (cons_e rfl nil_e))
      by_cases h1 : 2 + 2 * xs.getD 0 0 + xs.getD 1 0 > 256
      · rw [if_pos h1]
        exact runP_Re (N := 9) (n := 1) (m := m__law_fault) (re_nx s0 (re_nx s1 (re_nx s2 (re_nx s3 (re_in (re_ift (opT_e (op_e (op_e rfl (op_e rfl rfl (mul_l (by decide))) rfl) (x1 _ rfl) rfl) rfl (gt_t h1)) (re_ret (tup_e (cons_e rfl nil_e)))))))))
      · rw [if_neg h1]
        have f2 := lf_scan (xs := xs) (w := .sh (.list [])) (a := .un) (e := .un) (sl := xs.getD 0 0) bx hl (n := (xs.getD 0 0).toNat) (k := 0) (low := 256) (b := .un) (c := .un) (d := .un) (by omega)
        split
        · rename_i j e2
          rw [e2] at f2
          obtain ⟨e', f2⟩ := f2
          refine runP_Re (N := 9) (n := 1) (m := m__law_fault) (re_nx s0 (re_nx s1 (re_nx s2 (re_nx s3 (re_nx (if_no (opT_e (op_e (op_e rfl (op_e rfl rfl (mul_l (by decide))) rfl) (x1 _ rfl) rfl) rfl (gt_f h1))) (re_in ?_))))))
          exact re_e (for_e (rng1_e (cons_e rfl nil_e) (by omega)) f2)
        · rename_i low e2
          rw [e2] at f2
          obtain ⟨b', c', d', f2⟩ := f2
          refine runP_Re (N := 9) (n := 1) (m := m__law_fault) (re_nx s0 (re_nx s1 (re_nx s2 (re_nx s3 (re_nx (if_no (opT_e (op_e (op_e rfl (op_e rfl rfl (mul_l (by decide))) rfl) (x1 _ rfl) rfl) rfl (gt_f h1))) (re_nx (for_e (rng1_e (cons_e rfl nil_e) (by omega)) f2) ?_))))))
          by_cases h2 : xs.getD 1 0 ≠ 256 - low
          · rw [if_pos h2]
            exact re_in (re_ift (opT_e (x1 _ rfl) (op_e rfl rfl rfl) (neq_t h2)) (re_ret (tup_e (cons_e rfl nil_e))))
          · rw [if_neg h2]
            refine re_nx (if_no (opT_e (x1 _ rfl) (op_e rfl rfl rfl) (neq_f (by omega)))) ?_
            have so : 0 < xs.getD 0 0 → ∀ env : Pd.Env, env.at 0 = .sh (iL xs) → env.at 3 = .sh (.int (xs.getD 0 0)) → mOp dIx (mVar 0) (mOp dAdd (mC (.int 1)) (mOp dMul (mC (.int 2)) (mVar 3))) env () = some (.int (xs.getD (1 + 2 * (xs.getD 0 0).toNat) 0), ()) := fun h0 env e0 e3 =>
              getix (k := 1 + 2 * (xs.getD 0 0).toNat) e0 (op_e rfl (op_e rfl (var_e e3) (mul_l (by decide))) rfl) (by omega) (by omega)
            by_cases h3 : 0 < xs.getD 0 0 ∧ xs.getD (1 + 2 * (xs.getD 0 0).toNat) 0 = 0
            · rw [if_pos h3]
              exact re_in (re_ift (and_t (opT_e rfl rfl (gt_t h3.1)) (opT_e (so h3.1 _ rfl rfl) rfl (eq_it h3.2))) (re_ret (tup_e (cons_e rfl nil_e))))
            · rw [if_neg h3]
              have tf : mAnd (mOpT dGtI (mVar 3) (mC (.int 0))) (mOpT dEq (mOp dIx (mVar 0) (mOp dAdd (mC (.int 1)) (mOp dMul (mC (.int 2)) (mVar 3)))) (mC (.int 0))) (LF xs (.sh (.list [])) .un (.sh (.int (xs.getD 0 0))) (.sh (.int low)) b' c' d' .un) () = some (false, ()) := by
                by_cases h0 : 0 < xs.getD 0 0
                · exact and_t (opT_e rfl rfl (gt_t h0)) (opT_e (so h0 _ rfl rfl) rfl (eq_if fun z => h3 ⟨h0, z⟩))
                · exact and_f (opT_e rfl rfl (gt_f h0))
              refine re_nx (if_no tf) ?_
              obtain ⟨l, el⟩ : ∃ l : List Int, rest xs (2 + 2 * xs.getD 0 0) low = l.map .int := by
                unfold rest cut
                exact ⟨_, by rw [List.length_map, ← List.map_drop, ← List.map_take]⟩
              have ea : (rest xs (2 + 2 * xs.getD 0 0) low).any nz = l.any fun z => !(z == 0) := by
                rw [el, List.any_map]; rfl
              have el' : cut (xs.map PyData.int) (some (2 + 2 * xs.getD 0 0)) (some low) = l.map .int := el
              have ev : mCall dLen (mCons (mL (mComp (mItL (mL (mSlL (mVar 0) (mPart (mOp dAdd (mC (.int 2)) (mOp dMul (mC (.int 2)) (mVar 3)))) (mPart (mVar 4))))) [8] (bName 8) (mOpT dNe (mVar 8) (mC (.int 0))) (mVar 8))) mNil) (LF xs (.sh (.list [])) .un (.sh (.int (xs.getD 0 0))) (.sh (.int low)) b' c' d' .un) () = some (.int ((l.filter fun z => !(z == 0)).length : Int), ()) := by
                refine call_e (cons_e (L_e (comp_e (itL_e (L_e (xs := l.map .int) ((slL_e (h := some low) (l := some (2 + 2 * xs.getD 0 0)) rfl (part_e (op_e rfl (op_e rfl rfl (mul_l (by decide))) rfl)) (part_e rfl)).trans ?_))) rfl (compL_filter .int .int (fun z => !(z == 0)) fun z _ => ⟨_, rfl, opT_e rfl rfl (ne_int z 0), rfl⟩))) nil_e) iL_len
                rw [el']
              rw [ea]
              cases hr : l.any fun z => !(z == 0) with
              | true =>
                obtain ⟨z, hz, hz2⟩ := List.any_eq_true.mp hr
                have : 0 < (l.filter fun z => !(z == 0)).length := List.length_pos_of_mem (List.mem_filter.mpr ⟨hz, hz2⟩)
                exact re_ret (mif_t (opT_e ev rfl (gt_t (by omega))) (tup_e (cons_e rfl nil_e)))
              | false =>
                have : (l.filter fun z => !(z == 0)) = [] := List.filter_eq_nil_iff.mpr fun z hz h => by
                  have := List.any_eq_false.mp hr z hz
                  exact this h
                rw [this] at ev
                exact re_ret (mif_f (opT_e ev rfl (gt_f (by decide))) rfl)
end K53

namespace K53
open PySem Pd
/-! the page of rows, in closed form -/
def tbl (f : Nat → Int × Int) : Nat → List Int
  | 0 => []
  | n + 1 => tbl f n ++ [(f n).1, (f n).2]
theorem tbl_len (f : Nat → Int × Int) : ∀ n, (tbl f n).length = 2 * n
  | 0 => rfl
  | n + 1 => by show (tbl f n ++ _).length = _; rw [List.length_append, tbl_len f n]; rfl
theorem tbl_get (f : Nat → Int × Int) : ∀ {n k : Nat}, k < n → (tbl f n)[2 * k]? = some (f k).1 ∧ (tbl f n)[2 * k + 1]? = some (f k).2
  | 0, k, h => absurd h (by omega)
  | n + 1, k, h => by
    show (tbl f n ++ _)[2 * k]? = _ ∧ (tbl f n ++ _)[2 * k + 1]? = _
    have hl := tbl_len f n
    by_cases e : k = n
    · subst e
      rw [List.getElem?_append_right (by omega), List.getElem?_append_right (by omega), hl, Nat.sub_self, show 2 * k + 1 - 2 * k = 1 by omega]
      exact ⟨rfl, rfl⟩
    · rw [List.getElem?_append_left (by omega), List.getElem?_append_left (by omega)]
      exact tbl_get f (by omega)
def upf (f : Nat → Int × Int) (k : Nat) (v : Int × Int) : Nat → Int × Int := fun j => if j = k then v else f j
theorem tbl_upf_out (f : Nat → Int × Int) {k : Nat} {v : Int × Int} : ∀ {n : Nat}, n ≤ k → tbl (upf f k v) n = tbl f n
  | 0, _ => rfl
  | n + 1, h => by
    show tbl (upf f k v) n ++ _ = tbl f n ++ _
    rw [tbl_upf_out f (by omega)]
    unfold upf
    rw [if_neg (by omega)]
theorem tbl_set (f : Nat → Int × Int) {k : Nat} {x y : Int} : ∀ {n : Nat}, k < n → ((tbl f n).set (2 * k) x).set (2 * k + 1) y = tbl (upf f k (x, y)) n
  | 0, h => absurd h (by omega)
  | n + 1, h => by
    show ((tbl f n ++ [(f n).1, (f n).2]).set (2 * k) x).set (2 * k + 1) y = tbl (upf f k (x, y)) n ++ [(upf f k (x, y) n).1, (upf f k (x, y) n).2]
    have hl := tbl_len f n
    by_cases e : k = n
    · subst e
      rw [List.set_append_right _ _ (by omega), List.set_append_right _ _ (by omega), hl, Nat.sub_self, show 2 * k + 1 - 2 * k = 1 by omega, tbl_upf_out f (Nat.le_refl _)]
      unfold upf
      rw [if_pos rfl]
      rfl
    · rw [List.set_append_left _ _ (by omega), List.set_append_left _ _ (by rw [List.length_set]; omega), tbl_set f (by omega)]
      unfold upf
      rw [if_neg (by omega)]
def pg (s u : Int) (n : Nat) (f : Nat → Int × Int) (d : List Int) : List Int := s :: u :: (tbl f n ++ (List.replicate (254 - 2 * n - d.length) 0 ++ d))
section
variable {s u : Int} {n : Nat} {f : Nat → Int × Int} {d : List Int}
theorem pg_len (h : 2 * n + d.length ≤ 254) : (pg s u n f d).length = 256 := by
  unfold pg
  rw [List.length_cons, List.length_cons, List.length_append, tbl_len, List.length_append, List.length_replicate]
  omega
theorem pg_ent {k : Nat} (h : k < n) : (pg s u n f d).getD (2 + 2 * k) 0 = (f k).1 ∧ (pg s u n f d).getD (3 + 2 * k) 0 = (f k).2 := by
  have e := tbl_get f h
  have hl := tbl_len f n
  unfold pg
  rw [List.getD_eq_getElem?_getD, List.getD_eq_getElem?_getD, show 2 + 2 * k = 2 * k + 1 + 1 by omega, show 3 + 2 * k = (2 * k + 1) + 1 + 1 by omega]
  rw [List.getElem?_cons_succ, List.getElem?_cons_succ, List.getElem?_cons_succ, List.getElem?_cons_succ, List.getElem?_append_left (by omega), List.getElem?_append_left (by omega), e.1, e.2]
  exact ⟨rfl, rfl⟩
theorem pg_set {k : Nat} {x y : Int} (h : k < n) : ((pg s u n f d).set (2 + 2 * k) x).set (3 + 2 * k) y = pg s u n (upf f k (x, y)) d := by
  have hl := tbl_len f n
  unfold pg
  rw [show 2 + 2 * k = 2 * k + 1 + 1 by omega, show 3 + 2 * k = (2 * k + 1) + 1 + 1 by omega, List.set_cons_succ, List.set_cons_succ, List.set_cons_succ, List.set_cons_succ, List.set_append_left _ _ (by omega), List.set_append_left _ _ (by rw [List.length_set]; omega), tbl_set f h]
theorem pg_drop {p e : List Int} (hd : d = p ++ e) (h : 2 * n + d.length ≤ 254) : (pg s u n f d).drop (256 - e.length) = e := by
  have hl := tbl_len f n
  have hd2 : d.length = p.length + e.length := by rw [hd, List.length_append]
  have : pg s u n f d = (s :: u :: (tbl f n ++ (List.replicate (254 - 2 * n - d.length) 0 ++ p))) ++ e := by
    unfold pg
    rw [hd]
    simp
  rw [this, List.drop_append_of_le_length]
  · rw [List.drop_of_length_le, List.nil_append]
    simp only [List.length_cons, List.length_append, hl, List.length_replicate]
    omega
  · simp only [List.length_cons, List.length_append, hl, List.length_replicate]
    omega
theorem pg_ins {r : List Int} (h : 2 * n + (r.length + d.length) ≤ 254) : (pg s u n f d).take (256 - (r ++ d).length) ++ r ++ (pg s u n f d).drop (256 - d.length) = pg s u n f (r ++ d) := by
  have hl := tbl_len f n
  have hrd : 256 - (r ++ d).length = 256 - d.length - r.length := by rw [List.length_append]; omega
  rw [hrd]
  have hd : (pg s u n f d).drop (256 - d.length) = d := pg_drop (p := []) (e := d) (List.nil_append d).symm (by omega)
  rw [hd]
  unfold pg
  rw [show (s :: u :: (tbl f n ++ (List.replicate (254 - 2 * n - d.length) 0 ++ d))) = (s :: u :: tbl f n) ++ (List.replicate (254 - 2 * n - d.length) 0 ++ d) by simp]
  rw [List.take_append, List.take_of_length_le (by simp only [List.length_cons, hl]; omega), List.take_append_of_le_length (by simp only [List.length_cons, hl, List.length_replicate]; omega), List.take_replicate]
  simp only [List.length_cons, hl, List.length_append]
  rw [show min (256 - d.length - r.length - (2 * n + 1 + 1)) (254 - 2 * n - d.length) = 254 - 2 * n - (r.length + d.length) by omega]
  simp
theorem pg_used {v : Int} : (pg s u n f d).set 1 v = pg s v n f d := rfl
theorem pg_rest (h : 2 * n + d.length ≤ 254) : rest (pg s u n f d) (2 + 2 * (n : Int)) (256 - (d.length : Int)) = (List.replicate (254 - 2 * n - d.length) 0).map .int := by
  have hl := tbl_len f n
  have hp := pg_len (s := s) (u := u) (f := f) h
  unfold rest
  rw [show (2 + 2 * (n : Int)) = ((2 + 2 * n : Nat) : Int) by omega, show (256 - (d.length : Int)) = ((256 - d.length : Nat) : Int) by omega, cut_mid _ _ _ (by rw [List.length_map, hp]; omega), ← List.map_drop, ← List.map_take]
  congr 1
  unfold pg
  rw [show 2 + 2 * n = 2 * n + 1 + 1 by omega, List.drop_succ_cons, List.drop_succ_cons, List.drop_append, List.drop_of_length_le (by omega), hl, Nat.sub_self, List.nil_append, List.drop_zero, List.take_append_of_le_length (by rw [List.length_replicate]; omega), List.take_of_length_le (by rw [List.length_replicate]; omega)]
end
/-! laying rows -/
def lay (d : List Int) (f : Nat → Int × Int) : List (Nat × List Int) → (Nat → Int × Int) × List Int
  | [] => (f, d)
  | (s, r) :: t => lay (r ++ d) (upf f s (((256 - (r ++ d).length : Nat) : Int), (r.length : Int))) t
def total : List (Nat × List Int) → Nat
  | [] => 0
  | (_, r) :: t => r.length + total t
theorem lay_len : ∀ {rows : List (Nat × List Int)} {d : List Int} {f : Nat → Int × Int}, (lay d f rows).2.length = total rows + d.length
  | [], d, f => by show d.length = 0 + d.length; omega
  | (s, r) :: t, d, f => by show (lay (r ++ d) _ t).2.length = r.length + total t + d.length; rw [lay_len, List.length_append]; omega
def pageOf (rows : List (Nat × List Int)) (n : Nat) : List Int := pg n (total rows) n (lay [] (fun _ => (0, 0)) rows).1 (lay [] (fun _ => (0, 0)) rows).2
def rowsD (rows : List (Nat × List Int)) : List D := rows.map fun p => .tuple [.int (p.1 : Int), iL p.2]
theorem zeros_pg (n : Nat) (h : 2 * n ≤ 254) : (List.replicate 256 (0 : Int)).set 0 (n : Int) = pg n 0 n (fun _ => (0, 0)) [] := by
  have ht : ∀ m, tbl (fun _ => (0, 0)) m = List.replicate (2 * m) (0 : Int) := fun m => by
    induction m with
    | zero => rfl
    | succ m ih =>
      show tbl _ m ++ [0, 0] = _
      rw [ih, show 2 * (m + 1) = 2 * m + 2 by omega, ← List.replicate_append_replicate]
      rfl
  unfold pg
  rw [ht]
  show (n : Int) :: (0 : Int) :: List.replicate 254 0 = _
  rw [List.append_nil, List.length_nil, List.replicate_append_replicate, show 2 * n + (254 - 2 * n - 0) = 254 by omega]
end K53

namespace K53
open PySem Pd
theorem setSl_iL {G : Type} {env : Pd.Env} {g g1 g2 g3 : G} {j : Nat} {lo hi : MO G} {me : ME G} {xs ys : List Int} {a c : Nat} (h : me env g = some (iL ys, g1)) (hl : lo env g1 = some (some (a : Int), g2)) (hh : hi env g2 = some (some (c : Int), g3)) (hj : env.at j = .ow (xs.map .int)) (hac : a ≤ c) (hc : c ≤ xs.length) (hz : xs.length + ys.length ≤ 1000) :
    mSetSl j lo hi me env g = some (.nx, env.set j (.ow ((xs.take a ++ ys ++ xs.drop c).map .int)), g3) := by
  unfold mSetSl
  rw [h]; dsimp only [bD]; rw [hl]; dsimp only [bD]; rw [hh]; dsimp only [bD]; rw [hj]
  dsimp only
  rw [if_pos ⟨by omega, by omega, by rw [List.length_map]; omega, by rw [List.length_map, List.length_map, line_val]; omega⟩, Int.toNat_natCast, Int.toNat_natCast, List.map_append, List.map_append, List.map_take, List.map_drop]
theorem bt_row {G : Type} {p : Nat × List Int} {a b : Nat} {env : Pd.Env} {g : G} : bTup 2 (bCons (bName a) (bCons (bName b) bNil)) (.tuple [.int (p.1 : Int), iL p.2]) env g = some ((env.set a (.sh (.int (p.1 : Int)))).set b (.sh (iL p.2)), g) := rfl
theorem laid_loop {n : Nat} {R S : SV} : ∀ {rows : List (Nat × List Int)} {d : List Int} {f : Nat → Int × Int} {a b : SV}, (∀ p ∈ rows, p.1 < n) → 2 * n + (total rows + d.length) ≤ 254 →
    ∃ a' b', loopL (bTup 2 (bCons (bName 4) (bCons (bName 5) bNil))) lb_laid_1 (rowsD rows) [R, S, .ow ((pg n 0 n f d).map .int), .sh (.int ((256 - d.length : Nat) : Int)), a, b] () =
      some (Ct.nx, [R, S, .ow ((pg n 0 n (lay d f rows).1 (lay d f rows).2).map .int), .sh (.int ((256 - (lay d f rows).2.length : Nat) : Int)), a', b'], ())
  | [], d, f, a, b, _, _ => ⟨a, b, rfl⟩
  | (s, r) :: t, d, f, a, b, hs, hz => by
    have hz' : 2 * n + (r.length + total t + d.length) ≤ 254 := hz
    have hsn : s < n := hs (s, r) (by simp)
    have hrd : (r ++ d).length = r.length + d.length := List.length_append
    obtain ⟨a', b', ih⟩ := laid_loop (n := n) (R := R) (S := S) (rows := t) (d := r ++ d) (f := upf f s (((256 - (r ++ d).length : Nat) : Int), (r.length : Int))) (a := .sh (.int (s : Int))) (b := .sh (iL r)) (fun p hp => hs p (by simp [hp])) (by omega)
    refine ⟨a', b', loop_nx rfl ?_ ih⟩
    have l1 := pg_len (s := n) (u := 0) (n := n) (f := f) (d := d) (by omega)
    have l2 : ((pg n 0 n f d).set (2 + 2 * s) ((256 - (r ++ d).length : Nat) : Int)).length = 256 := by rw [List.length_set]; exact l1
    refine seq_nx (set_e (op_e (z := .int ((256 - (r ++ d).length : Nat) : Int)) rfl (call_e (cons_e rfl nil_e) iL_len) ?_)) ?_
    · show some (PyData.int (((256 - d.length : Nat) : Int) - (r.length : Int))) = _
      congr 2; omega
    refine seq_nx (setIx_iL (xs := pg n 0 n f d) (k := 2 + 2 * s) rfl (op_e rfl (op_e rfl rfl (mul_l (by decide))) rfl) rfl (by omega)) ?_
    refine seq_nx (setIx_iL (xs := (pg n 0 n f d).set (2 + 2 * s) ((256 - (r ++ d).length : Nat) : Int)) (k := 3 + 2 * s) (call_e (cons_e rfl nil_e) iL_len) (op_e (op_e rfl (op_e rfl rfl (mul_l (by decide))) rfl) rfl ?_) rfl (by omega)) ?_
    · show some (PyData.int ((2 + 2 * (s : Int)) + 1)) = _
      congr 2; omega
    rw [pg_set hsn]
    have l3 := pg_len (s := n) (u := 0) (n := n) (f := upf f s (((256 - (r ++ d).length : Nat) : Int), (r.length : Int))) (d := d) (by omega)
    refine (setSl_iL (xs := pg n 0 n (upf f s (((256 - (r ++ d).length : Nat) : Int), (r.length : Int))) d) (ys := r) (a := 256 - (r ++ d).length) (c := 256 - d.length) rfl (part_e rfl) (part_e (op_e rfl (call_e (cons_e rfl nil_e) iL_len) ?_)) rfl (by omega) (by omega) (by omega)).trans ?_
    · show some (PyData.int (((256 - (r ++ d).length : Nat) : Int) + (r.length : Int))) = _
      congr 2; omega
    · rw [pg_ins (by omega)]
      rfl
theorem empty_e : F_empty_page [] = some ((List.replicate 256 (0 : Int)).map .int) := rfl
theorem laid_e {rows : List (Nat × List Int)} {n : Nat} (hs : ∀ p ∈ rows, p.1 < n) (hz : 2 * n + total rows ≤ 254) : F_laid [.list (rowsD rows), .int (n : Int)] = some (iL (pageOf rows n)) := by
  obtain ⟨a', b', h⟩ := laid_loop (n := n) (R := .sh (.list (rowsD rows))) (S := .sh (.int (n : Int))) (rows := rows) (d := []) (f := fun _ => (0, 0)) (a := .un) (b := .un) hs (by simpa using hz)
  have hl := lay_len (rows := rows) (d := []) (f := fun _ => (0, 0))
  have l1 := pg_len (s := n) (u := 0) (n := n) (f := (lay [] (fun _ => (0, 0)) rows).1) (d := (lay [] (fun _ => (0, 0)) rows).2) (by rw [hl]; simpa using hz)
  refine runP_Rl (N := 6) (n := 2) (m := m_laid) (ds := [.list (rowsD rows), .int (n : Int)]) (rl_nx (setF_e (callF_e nil_e empty_e)) (rl_nx (setIx_iL (xs := List.replicate 256 0) (k := 0) rfl rfl rfl (by rw [List.length_replicate]; decide)) ?_))
  rw [zeros_pg n (by omega)]
  refine rl_nx (set_e rfl) (rl_nx (for_e (itL_e rfl) h) (rl_nx (setIx_iL (xs := pg n 0 n (lay [] (fun _ => (0, 0)) rows).1 (lay [] (fun _ => (0, 0)) rows).2) (k := 1) (op_e rfl rfl rfl) rfl rfl (by omega)) (rl_retOw ?_)))
  rw [pg_used]
  have e : ((256 : Int) - ((256 - (lay [] (fun _ => (0, 0)) rows).2.length : Nat) : Int)) = (total rows : Int) := by rw [hl, List.length_nil]; omega
  rw [e]
  rfl
end K53

namespace K53
open PySem Pd
theorem splice {xs r : List Int} {lo j : Nat} (h : lo + r.length ≤ xs.length) (hj : j < r.length) : (xs.take lo ++ r.take j ++ xs.drop (lo + j)).set (lo + j) (r.getD j 0) = xs.take lo ++ r.take (j + 1) ++ xs.drop (lo + (j + 1)) := by
  have e1 : (xs.take lo ++ r.take j).length = lo + j := by rw [List.length_append, List.length_take, List.length_take]; omega
  rw [List.drop_eq_getElem_cons (show lo + j < xs.length by omega), List.set_append_right _ _ (by omega), e1, Nat.sub_self, List.set_cons_zero]
  have e2 : r.getD j 0 = r[j] := by rw [List.getD_eq_getElem?_getD, List.getElem?_eq_getElem hj]; rfl
  rw [e2, show r.take (j + 1) = r.take j ++ [r[j]] from List.take_succ_eq_append_getElem hj, show lo + (j + 1) = lo + j + 1 by omega]
  simp only [List.append_assoc, List.singleton_append, List.cons_append, List.nil_append]
theorem lput {xs r : List Int} {R S a : SV} {lo : Nat} {c : SV} (h : lo + r.length ≤ xs.length) (hx : xs.length ≤ 1000) : ∃ c', mFor (mRng1 (mCons (mCall dLen (mCons (mVar 5) mNil)) mNil)) (bName 6) lb__law_laid_1 [R, S, .ow (xs.map .int), .sh (.int (lo : Int)), a, .sh (iL r), c] () =
    some (.nx, [R, S, .ow ((xs.take lo ++ r ++ xs.drop (lo + r.length)).map .int), .sh (.int (lo : Int)), a, .sh (iL r), c'], ()) := by
  obtain ⟨e2, g2, q, c', rfl, _⟩ := loop_at (bt := bName 6) (mb := lb__law_laid_1) (fun j e (_ : Unit) => ∃ c', e = [R, S, .ow ((xs.take lo ++ r.take j ++ xs.drop (lo + j)).map .int), .sh (.int (lo : Int)), a, .sh (iL r), c'] ∧ True) (ds := rng 0 r.length) (k := 0)
    (env := [R, S, .ow (xs.map .int), .sh (.int (lo : Int)), a, .sh (iL r), c]) (g := ()) ⟨c, by rw [List.take_zero, List.append_nil, Nat.add_zero, List.take_append_drop], trivial⟩ (by
      rintro j d hd e g ⟨c', rfl, _⟩
      have hj : j < r.length := by
        have := (List.getElem?_eq_some_iff.mp hd).1
        rwa [rng_len] at this
      rw [rng_get hj] at hd
      cases hd
      rw [Nat.zero_add]
      refine ⟨_, rfl, _, (), .inl (setIx_iL (xs := xs.take lo ++ r.take j ++ xs.drop (lo + j)) (k := lo + j) (getix (k := j) rfl rfl (by omega) hj) (op_e rfl rfl ?_) rfl ?_), .sh (.int (0 + (j : Int))), ?_, trivial⟩
      · show some (PyData.int ((lo : Int) + (0 + (j : Int)))) = _
        congr 2; omega
      · rw [List.length_append, List.length_append, List.length_take, List.length_take, List.length_drop]; omega
      · rw [splice h hj]; rfl)
  rw [rng_len, Nat.zero_add, List.take_length] at q
  refine ⟨c', for_e (rng1_e (j := (r.length : Int)) (cons_e (call_e (cons_e rfl nil_e) iL_len) nil_e) (by omega)) ?_⟩
  cases g2
  exact q
theorem llaid_loop {n : Nat} {R S : SV} : ∀ {rows : List (Nat × List Int)} {d : List Int} {f : Nat → Int × Int} {a b c : SV}, (∀ p ∈ rows, p.1 < n) → 2 * n + (total rows + d.length) ≤ 254 →
    ∃ a' b' c', loopL (bTup 2 (bCons (bName 4) (bCons (bName 5) bNil))) lb__law_laid_2 (rowsD rows) [R, S, .ow ((pg n 0 n f d).map .int), .sh (.int ((256 - d.length : Nat) : Int)), a, b, c] () =
      some (Ct.nx, [R, S, .ow ((pg n 0 n (lay d f rows).1 (lay d f rows).2).map .int), .sh (.int ((256 - (lay d f rows).2.length : Nat) : Int)), a', b', c'], ())
  | [], d, f, a, b, c, _, _ => ⟨a, b, c, rfl⟩
  | (s, r) :: t, d, f, a, b, c, hs, hz => by
    have hz' : 2 * n + (r.length + total t + d.length) ≤ 254 := hz
    have hsn : s < n := hs (s, r) (by simp)
    have hrd : (r ++ d).length = r.length + d.length := List.length_append
    have l1 := pg_len (s := n) (u := 0) (n := n) (f := f) (d := d) (by omega)
    have l3 := pg_len (s := n) (u := 0) (n := n) (f := upf f s (((256 - (r ++ d).length : Nat) : Int), (r.length : Int))) (d := d) (by omega)
    obtain ⟨c1, hl⟩ := lput (xs := pg n 0 n (upf f s (((256 - (r ++ d).length : Nat) : Int), (r.length : Int))) d) (r := r) (R := R) (S := S) (a := .sh (.int (s : Int))) (lo := 256 - (r ++ d).length) (c := c) (by omega) (by omega)
    rw [show 256 - (r ++ d).length + r.length = 256 - d.length by omega, pg_ins (by omega)] at hl
    obtain ⟨a', b', c', ih⟩ := llaid_loop (n := n) (R := R) (S := S) (rows := t) (d := r ++ d) (f := upf f s (((256 - (r ++ d).length : Nat) : Int), (r.length : Int))) (a := .sh (.int (s : Int))) (b := .sh (iL r)) (c := c1) (fun p hp => hs p (by simp [hp])) (by omega)
    refine ⟨a', b', c', loop_nx rfl ?_ ih⟩
    refine seq_nx (set_e (op_e (z := .int ((256 - (r ++ d).length : Nat) : Int)) rfl (call_e (cons_e rfl nil_e) iL_len) ?_)) ?_
    · have ez : ((256 - d.length : Nat) : Int) - (r.length : Int) = ((256 - (r ++ d).length : Nat) : Int) := by omega
      exact congrArg (fun z => some (PyData.int z)) ez
    have ix : ∀ (k : Nat) (xs : List Int) (m : ME Unit) (v z : Int) (e : Pd.Env), e.at 2 = .ow (xs.map .int) → m e () = some (.int z, ()) → z = (k : Int) → k < xs.length → bSub 2 m (.int v) e () = some (e.set 2 (.ow ((xs.set k v).map .int)), ()) := fun k xs m v z e h1 h2 h3 h4 => by
      subst h3
      unfold bSub
      rw [h2]; dsimp only [bD]; rw [h1]; dsimp only
      rw [ixN_nat (by rw [List.length_map]; exact h4), List.map_set]
      rfl
    have q1 := ix (2 + 2 * s) (pg n 0 n f d) (mOp dAdd (mC (.int 2)) (mOp dMul (mC (.int 2)) (mVar 4))) ((256 - (r ++ d).length : Nat) : Int) (2 + 2 * (s : Int)) [R, S, .ow ((pg n 0 n f d).map .int), .sh (.int ((256 - (r ++ d).length : Nat) : Int)), .sh (.int (s : Int)), .sh (iL r), c] rfl (op_e rfl (op_e rfl rfl (mul_l (by decide))) rfl) (by omega) (by omega)
    have q2 := ix (3 + 2 * s) ((pg n 0 n f d).set (2 + 2 * s) ((256 - (r ++ d).length : Nat) : Int)) (mOp dAdd (mC (.int 3)) (mOp dMul (mC (.int 2)) (mVar 4))) (r.length : Int) (3 + 2 * (s : Int)) [R, S, .ow (((pg n 0 n f d).set (2 + 2 * s) ((256 - (r ++ d).length : Nat) : Int)).map .int), .sh (.int ((256 - (r ++ d).length : Nat) : Int)), .sh (.int (s : Int)), .sh (iL r), c] rfl (op_e rfl (op_e rfl rfl (mul_l (by decide))) rfl) (by omega) (by rw [List.length_set]; omega)
    rw [pg_set hsn] at q2
    exact seq_nx (asg_e (tup_e (cons_e rfl (cons_e (call_e (cons_e rfl nil_e) iL_len) nil_e))) (tup2_e q1 q2)) hl
theorem llaid_e {rows : List (Nat × List Int)} {n : Nat} (hs : ∀ p ∈ rows, p.1 < n) (hz : 2 * n + total rows ≤ 254) : F__law_laid [.list (rowsD rows), .int (n : Int)] = some (iL (pageOf rows n)) := by
  obtain ⟨a', b', c', h⟩ := llaid_loop (n := n) (R := .sh (.list (rowsD rows))) (S := .sh (.int (n : Int))) (rows := rows) (d := []) (f := fun _ => (0, 0)) (a := .un) (b := .un) (c := .un) hs (by simpa using hz)
  have hl := lay_len (rows := rows) (d := []) (f := fun _ => (0, 0))
  have l1 := pg_len (s := n) (u := 0) (n := n) (f := (lay [] (fun _ => (0, 0)) rows).1) (d := (lay [] (fun _ => (0, 0)) rows).2) (by rw [hl]; simpa using hz)
  refine runP_Rl (N := 7) (n := 2) (m := m__law_laid) (ds := [.list (rowsD rows), .int (n : Int)]) (rl_nx (setF_e (ds := (List.replicate 256 (0 : Int)).map .int) rfl) (rl_nx (asg_e (g1 := ()) (g2 := ()) (e1 := [.sh (.list (rowsD rows)), .sh (.int (n : Int)), .ow ((pg n 0 n (fun _ => (0, 0)) []).map .int), .sh (.int 256), .un, .un, .un]) (tup_e (cons_e rfl (cons_e rfl nil_e))) ?_) ?_))
  · rw [← zeros_pg n (by omega), List.map_set]
    rfl
  refine rl_nx (for_e (itL_e rfl) h) (rl_nx (setIx_iL (xs := pg n 0 n (lay [] (fun _ => (0, 0)) rows).1 (lay [] (fun _ => (0, 0)) rows).2) (k := 1) (op_e rfl rfl rfl) rfl rfl (by omega)) (rl_retOw ?_))
  rw [pg_used]
  have e : ((256 : Int) - ((256 - (lay [] (fun _ => (0, 0)) rows).2.length : Nat) : Int)) = (total rows : Int) := by rw [hl, List.length_nil]; omega
  rw [e]
  rfl
end K53

namespace K53
open PySem Pd
/-! reading the rows back -/
theorem lay_out : ∀ {rows : List (Nat × List Int)} {d : List Int} {f : Nat → Int × Int} {k : Nat}, (∀ p ∈ rows, p.1 ≠ k) → (lay d f rows).1 k = f k
  | [], d, f, k, _ => rfl
  | (s, r) :: t, d, f, k, h => by
    show (lay (r ++ d) _ t).1 k = _
    rw [lay_out fun p hp => h p (by simp [hp])]
    unfold upf
    rw [if_neg fun e => h (s, r) (by simp) e.symm]
theorem lay_suf : ∀ {rows : List (Nat × List Int)} {d : List Int} {f : Nat → Int × Int}, ∃ pre, (lay d f rows).2 = pre ++ d
  | [], d, f => ⟨[], rfl⟩
  | (s, r) :: t, d, f => by
    obtain ⟨pre, h⟩ := lay_suf (rows := t) (d := r ++ d) (f := upf f s (((256 - (r ++ d).length : Nat) : Int), (r.length : Int)))
    exact ⟨pre ++ r, by show (lay (r ++ d) _ t).2 = _; rw [h, List.append_assoc]⟩
def Srt (rows : List (Nat × List Int)) : Prop := rows.Pairwise fun a b => a.1 < b.1
theorem lay_mem : ∀ {rows : List (Nat × List Int)} {d : List Int} {f : Nat → Int × Int} {s : Nat} {r : List Int}, Srt rows → (s, r) ∈ rows → ∃ pre d0, (lay d f rows).2 = pre ++ (r ++ d0) ∧ (lay d f rows).1 s = (((256 - (r ++ d0).length : Nat) : Int), (r.length : Int))
  | [], d, f, s, r, _, h => nomatch h
  | (s', r') :: t, d, f, s, r, hs, h => by
    have hs' := List.pairwise_cons.mp hs
    rcases List.mem_cons.mp h with e | e
    · obtain ⟨e1, e2⟩ := Prod.mk.inj e
      subst e1; subst e2
      obtain ⟨pre, h1⟩ := lay_suf (rows := t) (d := r ++ d) (f := upf f s (((256 - (r ++ d).length : Nat) : Int), (r.length : Int)))
      refine ⟨pre, d, h1, ?_⟩
      show (lay (r ++ d) _ t).1 s = _
      rw [lay_out fun p hp => by have := hs'.1 p hp; omega]
      unfold upf
      rw [if_pos rfl]
    · exact lay_mem (rows := t) hs'.2 e
/-- rows that fit -/
structure Val (rows : List (Nat × List Int)) (n : Nat) : Prop where
  hs : ∀ p ∈ rows, p.1 < n
  hz : 2 * n + total rows ≤ 254
  srt : Srt rows
  ne : ∀ p ∈ rows, p.2 ≠ []
section
variable {rows : List (Nat × List Int)} {n : Nat} (V : Val rows n)
include V
theorem Val.dl : (lay [] (fun _ => (0, 0)) rows).2.length = total rows := by have := lay_len (rows := rows) (d := []) (f := fun _ => (0, 0)); simpa using this
theorem Val.len : (pageOf rows n).length = 256 := pg_len (by rw [V.dl]; exact V.hz)
theorem Val.at0 : (pageOf rows n).getD 0 0 = (n : Int) := rfl
theorem Val.at1 : (pageOf rows n).getD 1 0 = (total rows : Int) := rfl
theorem Val.slots : F_slots_in [iL (pageOf rows n)] = some (.int (n : Int)) := runP_re (N := 1) (n := 1) (m := m_slots_in) (ret_e (op_e rfl rfl (iL_get (j := 0) rfl)))
theorem Val.used : F_used_in [iL (pageOf rows n)] = some (.int (total rows : Int)) := runP_re (N := 1) (n := 1) (m := m_used_in) (ret_e (op_e rfl rfl (iL_get (j := 1) rfl)))
theorem Val.ent {k : Nat} (hk : k < n) : F_slot_of [iL (pageOf rows n), .int (k : Int)] = some (.tuple [.int ((lay [] (fun _ => (0, 0)) rows).1 k).1, .int ((lay [] (fun _ => (0, 0)) rows).1 k).2]) := by
  have e := pg_ent (s := n) (u := total rows) (n := n) (f := (lay [] (fun _ => (0, 0)) rows).1) (d := (lay [] (fun _ => (0, 0)) rows).2) hk
  have q := slot_of_e (xs := pageOf rows n) (k := k) (by have := V.len; have := V.hz; omega)
  unfold pageOf at q
  rw [e.1, e.2] at q
  exact q
theorem Val.row {s : Nat} {r : List Int} (h : (s, r) ∈ rows) : F_row_in [iL (pageOf rows n), .int (s : Int)] = some (iL r) := by
  have hsn := V.hs _ h
  have hrne := V.ne _ h
  obtain ⟨pre, d0, h1, h2⟩ := lay_mem (d := []) (f := fun _ => (0, 0)) V.srt h
  have he := V.ent hsn
  rw [h2] at he
  have hrl : 0 < r.length := List.length_pos_iff.mpr hrne
  have hd := V.dl
  have hz := V.hz
  have hdl : (pre ++ (r ++ d0)).length = total rows := by rw [← h1]; exact hd
  rw [List.length_append, List.length_append] at hdl
  have hrd : (r ++ d0).length = r.length + d0.length := List.length_append
  have sl : ((pageOf rows n).drop (256 - (r ++ d0).length)).take r.length = r := by
    have := pg_drop (s := n) (u := total rows) (n := n) (f := (lay [] (fun _ => (0, 0)) rows).1) (d := (lay [] (fun _ => (0, 0)) rows).2) (p := pre) (e := r ++ d0) h1 (by rw [hd]; omega)
    unfold pageOf
    rw [this, List.take_append_of_le_length (Nat.le_refl _), List.take_length]
  refine runP_re (N := 4) (n := 2) (m := m_row_in) (ds := [iL (pageOf rows n), .int (s : Int)]) (u := ()) (seq_nx (if_no (not_e (b := true) (chain_t rfl rfl (le_t (by omega)) (call_e (cons_e rfl nil_e) V.slots) (lt_t (by show (s : Int) < (n : Int); omega))))) (seq_nx (asg_e (call_e (cons_e rfl (cons_e rfl nil_e)) he) rfl)
    (ret_e (mif_t (opT_e rfl rfl (gt_t (by omega))) (L_e (callF_e (cons_e (L_e (xs := r.map .int) ((slL_e (l := some ((256 - (r ++ d0).length : Nat) : Int)) (h := some ((256 - (r ++ d0).length + r.length : Nat) : Int)) rfl (part_e rfl) (part_e (op_e rfl rfl rfl))).trans ?_)) nil_e) rfl))))))
  rw [cut_mid _ _ _ (by rw [List.length_map, V.len]; omega), ← List.map_drop, ← List.map_take, show 256 - (r ++ d0).length + r.length - (256 - (r ++ d0).length) = r.length by omega, sl]
theorem Val.noRow {k : Nat} (h : k < n) (hn : ∀ p ∈ rows, p.1 ≠ k) : F_row_in [iL (pageOf rows n), .int (k : Int)] = some .none := by
  have he := V.ent h
  rw [lay_out hn] at he
  exact runP_re (N := 4) (n := 2) (m := m_row_in) (ds := [iL (pageOf rows n), .int (k : Int)]) (u := ()) (seq_nx (if_no (not_e (b := true) (chain_t rfl rfl (le_t (by omega)) (call_e (cons_e rfl nil_e) V.slots) (lt_t (by show (k : Int) < (n : Int); omega))))) (seq_nx (asg_e (call_e (cons_e rfl (cons_e rfl nil_e)) he) rfl)
    (ret_e (mif_f (opT_e rfl rfl (gt_f (by decide))) rfl))))
theorem Val.rowsLoop : ∀ {m k : Nat} {t : List (Nat × List Int)} {acc : List D} {a b : SV}, k + m = n → (∀ p ∈ rows, k ≤ p.1 ↔ p ∈ t) → Srt t → (∀ p ∈ t, k ≤ p.1 ∧ p ∈ rows) → acc.length + m ≤ 1000 →
    ∃ a' b', loopL (bName 2) lb_rows_in_1 (rng (k : Int) m) [.sh (iL (pageOf rows n)), .ow acc, a, b] () = some (Ct.nx, [.sh (iL (pageOf rows n)), .ow (acc ++ rowsD t), a', b'], ())
  | 0, k, t, acc, a, b, hk, h1, hs, h2, hl => by
    have : t = [] := List.eq_nil_iff_forall_not_mem.mpr fun p hp => by
      have := V.hs p (h2 p hp).2
      have := (h2 p hp).1
      omega
    subst this
    exact ⟨a, b, by rw [show rowsD [] = [] from rfl, List.append_nil]; rfl⟩
  | m + 1, k, t, acc, a, b, hk, h1, hs, h2, hl => by
    rw [rng_succ, show ((k : Int) + 1) = ((k + 1 : Nat) : Int) from rfl]
    by_cases hex : ∃ r t', t = (k, r) :: t'
    · obtain ⟨r, t', rfl⟩ := hex
      have hs' := List.pairwise_cons.mp hs
      have hm : (k, r) ∈ rows := (h2 (k, r) (by simp)).2
      obtain ⟨a', b', ih⟩ := Val.rowsLoop (m := m) (k := k + 1) (t := t') (acc := acc ++ [.tuple [.int (k : Int), iL r]]) (a := .sh (.int (k : Int))) (b := .sh (iL r)) (by omega) (fun p hp => by
        constructor
        · intro hkp
          rcases List.mem_cons.mp ((h1 p hp).mp (by omega)) with e | e
          · rw [e] at hkp; exact absurd hkp (by show ¬ k + 1 ≤ k; omega)
          · exact e
        · intro hp'
          have := hs'.1 p hp'
          show k + 1 ≤ p.1
          have : k < p.1 := this
          omega) hs'.2 (fun p hp => ⟨by have : k < p.1 := hs'.1 p hp; omega, (h2 p (List.mem_cons_of_mem _ hp)).2⟩) (by rw [List.length_append, List.length_singleton]; omega)
      refine ⟨a', b', loop_nx rfl (seq_nx (set_e (call_e (cons_e rfl (cons_e rfl nil_e)) (V.row hm))) (if_t (opT_e rfl rfl rfl) (app_e (tup_e (cons_e rfl (cons_e rfl nil_e))) rfl (by rw [line_val]; omega)))) ?_⟩
      rw [show acc ++ rowsD ((k, r) :: t') = acc ++ [.tuple [.int (k : Int), iL r]] ++ rowsD t' by rw [List.append_assoc]; rfl]
      exact ih
    · have hno : ∀ p ∈ rows, p.1 ≠ k := fun p hp e => by
        have hpt := (h1 p hp).mp (by omega)
        cases t with
        | nil => cases hpt
        | cons q t' =>
          have hs' := List.pairwise_cons.mp hs
          have hq : q.1 = k := by
            rcases List.mem_cons.mp hpt with z | z
            · rw [← z]; exact e
            · have := hs'.1 p z
              have := (h2 q (by simp)).1
              omega
          exact hex ⟨q.2, t', by rw [← hq]⟩
      obtain ⟨a', b', ih⟩ := Val.rowsLoop (m := m) (k := k + 1) (t := t) (acc := acc) (a := .sh (.int (k : Int))) (b := .sh .none) (by omega) (fun p hp => by
        constructor
        · intro hkp; exact (h1 p hp).mp (by omega)
        · intro hp'
          have := (h2 p hp').1
          have := hno p hp
          omega) hs (fun p hp => ⟨by have := (h2 p hp).1; have := hno p (h2 p hp).2; omega, (h2 p hp).2⟩) (by omega)
      exact ⟨a', b', loop_nx rfl (seq_nx (set_e (call_e (cons_e rfl (cons_e rfl nil_e)) (V.noRow (by omega) hno))) (if_no (opT_e rfl rfl rfl))) ih⟩
theorem Val.rows_in : F_rows_in [iL (pageOf rows n)] = some (.list (rowsD rows)) := by
  have hz := V.hz
  obtain ⟨a', b', h⟩ := V.rowsLoop (m := n) (k := 0) (t := rows) (acc := []) (a := .un) (b := .un) (by omega) (fun p hp => ⟨fun _ => hp, fun _ => Nat.zero_le _⟩) V.srt (fun p hp => ⟨Nat.zero_le _, hp⟩) (by simp; omega)
  rw [List.nil_append] at h
  exact runP_Rl (N := 4) (n := 1) (m := m_rows_in) (rl_nx (setF_e (lst_e nil_e)) (rl_nx (for_e (rng1_e (j := (n : Int)) (cons_e (call_e (cons_e rfl nil_e) V.slots) nil_e) (by omega)) h) (rl_retOw rfl)))
end
end K53

namespace K53
open PySem Pd
theorem max2_e (i j : Int) : dMax2 [.int i, .int j] = some (.int (if j > i then j else i)) := rfl
theorem min2_e (i j : Int) : dMin2 [.int i, .int j] = some (.int (if j < i then j else i)) := rfl
section
variable {rows : List (Nat × List Int)} {n : Nat} (V : Val rows n)
include V
/-- every slot has its row -/
theorem Val.free (hf : ∀ k, k < n → ∃ r, (k, r) ∈ rows) : F_first_free [iL (pageOf rows n)] = some (.int (n : Int)) := by
  have hz := V.hz
  obtain ⟨e2, g2, h, a', rfl, _⟩ := loop_inv (bt := bName 1) (mb := lb_first_free_1) (fun e (_ : Unit) => ∃ a', e = [.sh (iL (pageOf rows n)), a'] ∧ True) (ds := rng 0 n) (env := [.sh (iL (pageOf rows n)), .un]) (g := ()) ⟨_, rfl, trivial⟩ (by
    rintro x hx e g ⟨a', rfl, _⟩
    obtain ⟨k, hk, rfl⟩ := rng_mem hx
    obtain ⟨r, hr⟩ := hf k hk
    obtain ⟨pre, d0, h1, h2⟩ := lay_mem (d := []) (f := fun _ => (0, 0)) V.srt hr
    have he := V.ent hk
    rw [h2] at he
    have hrl : 0 < r.length := List.length_pos_iff.mpr (V.ne _ hr)
    exact ⟨_, rfl, _, (), .inl (if_no (opT_e (op_e (call_e (cons_e rfl (cons_e rfl nil_e)) he) rfl rfl) rfl (eq_if (by omega)))), _, rfl, trivial⟩)
  exact runP_re (N := 2) (n := 1) (m := m_first_free) (ds := [iL (pageOf rows n)]) (u := g2) (seq_nx (for_e (rng1_e (j := (n : Int)) (cons_e (call_e (cons_e rfl nil_e) V.slots) nil_e) (by omega)) h) (ret_e (call_e (cons_e rfl nil_e) V.slots)))
theorem Val.room (hf : ∀ k, k < n → ∃ r, (k, r) ∈ rows) : ∃ z : Int, F_room_in [iL (pageOf rows n)] = some (.int z) ∧ ∀ l : Nat, l ≤ 255 → 2 * (n + 1) + total rows + l ≤ 254 → (l : Int) ≤ z := by
  have hz := V.hz
  refine ⟨_, runP_re (N := 3) (n := 1) (m := m_room_in) (ds := [iL (pageOf rows n)]) (u := ()) (seq_nx (set_e (call_e (cons_e rfl nil_e) (V.free hf))) (seq_nx (set_e (call_e (cons_e (call_e (cons_e rfl nil_e) V.slots) (cons_e (op_e rfl rfl rfl) nil_e)) (max2_e _ _)))
    (ret_e (call_e (cons_e rfl (cons_e (call_e (cons_e rfl (cons_e (op_e (op_e (op_e rfl rfl rfl) (op_e rfl rfl (mul_l (by decide))) rfl) (call_e (cons_e rfl nil_e) V.used) rfl) nil_e)) (min2_e _ _)) nil_e)) (max2_e _ _))))), fun l h1 h2 => ?_⟩
  have e : (if ((n : Int) + 1 > (n : Int)) then ((n : Int) + 1) else (n : Int)) = (n : Int) + 1 := by rw [if_pos (by omega)]
  rw [e]
  split <;> split <;> omega
end
theorem alike_row (p q : Nat × List Int) : PySem.W.alike (.tuple [.int (p.1 : Int), iL p.2]) (.tuple [.int (q.1 : Int), iL q.2]) = true := by
  rw [PySem.W.alike, PySem.W.alikeAll, PySem.W.alikeAll, PySem.W.alikeAll, PySem.W.alike, PySem.W.alike, alike_iL]
  rfl
theorem sorted_rows {t : List (Nat × List Int)} (h : Srt t) : dSorted [.list (rowsD t)] = some (rowsD t) := by
  unfold dSorted
  have h1 : alikeB (rowsD t) = true := by
    unfold alikeB
    refine List.all_eq_true.mpr fun d hd => List.all_eq_true.mpr fun d' hd' => ?_
    obtain ⟨p, _, rfl⟩ := List.mem_map.mp hd
    obtain ⟨q, _, rfl⟩ := List.mem_map.mp hd'
    exact alike_row p q
  have h2 : (rowsD t).all isTupNe = true := List.all_eq_true.mpr fun d hd => by
    obtain ⟨p, _, rfl⟩ := List.mem_map.mp hd
    rfl
  have h3 : ((rowsD t).all fun d => decide (d.depth ≤ 60)) = true := List.all_eq_true.mpr fun d hd => by
    obtain ⟨p, _, rfl⟩ := List.mem_map.mp hd
    refine decide_eq_true (Nat.le_trans (depth_tup (n := 1) fun x hx => ?_) (by decide))
    rcases List.mem_cons.mp hx with e | e
    · rw [e, PyData.depth]; decide
    · rcases List.mem_cons.mp e with e | e
      · rw [e]; exact depth_iL1 _
      · cases e
  dsimp only
  rw [if_pos ⟨h1, .inl h2, h3⟩, List.mergeSort_of_pairwise]
  refine List.pairwise_map.mpr (List.Pairwise.imp ?_ h)
  intro a b hab
  rw [PySem.W.dataLe_eq]
  show (!PySem.W.dataLt (.tuple [.int (b.1 : Int), iL b.2]) (.tuple [.int (a.1 : Int), iL a.2])) = true
  rw [PySem.W.dataLt_tuple, PySem.W.dataLt_all_no (by rw [PySem.W.alike]) (by rw [PyData.eqv]; exact beq_false_of_ne (by omega)), PySem.W.dataLt_int, decide_eq_false (by omega)]
  rfl
section
variable {rows : List (Nat × List Int)} {n : Nat} (V : Val rows n)
include V
theorem total_app : ∀ {a b : List (Nat × List Int)}, total (a ++ b) = total a + total b
  | [], b => by show total b = 0 + total b; omega
  | (s, r) :: a, b => by show r.length + total (a ++ b) = r.length + total a + total b; rw [total_app]; omega
end
theorem Val.add {rows : List (Nat × List Int)} {n : Nat} (V : Val rows n) {r : List Int} (hr : r ≠ []) (hz : 2 * (n + 1) + total rows + r.length ≤ 254) : Val (rows ++ [(n, r)]) (n + 1) where
  hs := fun p hp => by
    rcases List.mem_append.mp hp with e | e
    · have := V.hs p e; omega
    · rw [List.mem_singleton.mp e]; show n < n + 1; omega
  hz := by rw [total_app V]; show 2 * (n + 1) + (total rows + (r.length + 0)) ≤ 254; omega
  srt := List.pairwise_append.mpr ⟨V.srt, List.pairwise_singleton _ _, fun a ha b hb => by rw [List.mem_singleton.mp hb]; exact V.hs a ha⟩
  ne := fun p hp => by
    rcases List.mem_append.mp hp with e | e
    · exact V.ne p e
    · rw [List.mem_singleton.mp e]; exact hr
end K53

namespace K53
open PySem Pd
theorem Val.put {rows : List (Nat × List Int)} {n : Nat} (V : Val rows n) (hf : ∀ k, k < n → ∃ r, (k, r) ∈ rows) {r : List Int} (hr : r ≠ []) (hl : r.length ≤ 255) (hz : 2 * (n + 1) + total rows + r.length ≤ 254) :
    F_put_in [iL (pageOf rows n), iL r] = some (.tuple [iL (pageOf (rows ++ [(n, r)]) (n + 1)), .int (n : Int)]) := by
  obtain ⟨z, h1, h2⟩ := V.room hf
  have h3 := h2 r.length hl hz
  have hrl : 0 < r.length := List.length_pos_iff.mpr hr
  have V2 := V.add hr hz
  have e1 : rowsD rows ++ [PyData.tuple [.int (n : Int), iL r]] = rowsD (rows ++ [(n, r)]) := by unfold rowsD; rw [List.map_append]; rfl
  have hrc : (rowsD rows).length ≤ 254 := by
    have : ∀ t : List (Nat × List Int), (∀ p ∈ t, p.2 ≠ []) → t.length ≤ total t := fun t ht => by
      induction t with
      | nil => exact Nat.zero_le _
      | cons p t ih =>
        have := ih fun q hq => ht q (List.mem_cons_of_mem _ hq)
        have := List.length_pos_iff.mpr (ht p (by simp))
        show t.length + 1 ≤ p.2.length + total t
        omega
    have := this rows V.ne
    unfold rowsD
    rw [List.length_map]
    omega
  have lay2 : F_laid [.list (rowsD (rows ++ [(n, r)])), .int (if ((n : Int) + 1 > (n : Int)) then ((n : Int) + 1) else (n : Int))] = some (iL (pageOf (rows ++ [(n, r)]) (n + 1))) := by
    rw [if_pos (by omega)]
    exact laid_e V2.hs V2.hz
  have c1 : ∀ e : Pd.Env, e.at 0 = .sh (iL (pageOf rows n)) → e.at 1 = .sh (iL r) → e.at 2 = .sh (.int (n : Int)) → mL (mCallF dSorted (mCons (mL (mCat (mCall F_rows_in (mCons (mVar 0) mNil)) (mL (mLst (mCons (mTup (mCons (mVar 2) (mCons (mL (mCallF dListOf (mCons (mVar 1) mNil))) mNil))) mNil))))) mNil)) e () = some (.list (rowsD (rows ++ [(n, r)])), ()) := fun e e0 e1' e2 => by
    refine L_e (callF_e (xs := [.list (rowsD (rows ++ [(n, r)]))]) (cons_e (L_e ?_) nil_e) ?_)
    · refine (cat_e (xs := rowsD rows) (ys := [.tuple [.int (n : Int), iL r]]) (g1 := ()) (g2 := ()) ?_ (L_e (lst_e (cons_e (tup_e (cons_e (var_e e2) (cons_e (L_e (callF_e (cons_e (var_e e1') nil_e) rfl)) nil_e))) nil_e))) ?_).trans ?_
      · refine call_e (cons_e (var_e e0) nil_e) ?_
        exact V.rows_in
      · rw [List.length_singleton, line_val]; omega
      · rw [e1]
    · exact sorted_rows V2.srt
  have c2 : ∀ e : Pd.Env, e.at 0 = .sh (iL (pageOf rows n)) → e.at 2 = .sh (.int (n : Int)) → e.at 3 = .sh (.list (rowsD (rows ++ [(n, r)]))) → mCall F_laid (mCons (mVar 3) (mCons (mCall dMax2 (mCons (mCall F_slots_in (mCons (mVar 0) mNil)) (mCons (mOp dAdd (mVar 2) (mC (.int 1))) mNil))) mNil)) e () = some (iL (pageOf (rows ++ [(n, r)]) (n + 1)), ()) := fun e e0 e2 e3 => by
    refine call_e (cons_e (var_e e3) (cons_e (call_e (cons_e (call_e (cons_e (var_e e0) nil_e) ?_) (cons_e (op_e (var_e e2) rfl rfl) nil_e)) (max2_e (n : Int) ((n : Int) + 1))) nil_e)) ?_
    case refine_1 => exact V.slots
    exact lay2
  have c0 : ∀ e : Pd.Env, e.at 0 = .sh (iL (pageOf rows n)) → mCall F_room_in (mCons (mVar 0) mNil) e () = some (.int z, ()) := fun e e0 => by
    refine call_e (cons_e (var_e e0) nil_e) ?_
    exact h1
  have c3 : ∀ e : Pd.Env, e.at 0 = .sh (iL (pageOf rows n)) → mCall F_first_free (mCons (mVar 0) mNil) e () = some (.int (n : Int), ()) := fun e e0 => by
    refine call_e (cons_e (var_e e0) nil_e) ?_
    exact V.free hf
  exact runP_re (N := 4) (n := 2) (m := m_put_in) (ds := [iL (pageOf rows n), iL r]) (u := ()) (seq_nx (if_no (not_e (b := true) (chain_t rfl (call_e (cons_e rfl nil_e) iL_len) (le_t (by omega)) (c0 _ rfl) (le_t h3)))) (seq_nx (set_e (c3 _ rfl)) (seq_nx (set_e (c1 _ rfl rfl rfl)) (ret_e (tup_e (cons_e (c2 _ rfl rfl rfl) (cons_e rfl nil_e)))))))
end K53

namespace K53
open PySem Pd
theorem atI_last {α : Type} {xs : List α} {x : α} : L2.atI (xs ++ [x]) (-1) = some x := by
  unfold L2.atI L2.ixN
  rw [List.length_append, List.length_singleton, if_neg (by omega), if_pos (by omega)]
  show (xs ++ [x])[_]? = _
  rw [show ((-1 : Int) + ((xs.length + 1 : Nat) : Int)).toNat = xs.length by omega, List.getElem?_append_right (Nat.le_refl _), Nat.sub_self]
  rfl
theorem total_filter (p : Nat × List Int → Bool) : ∀ rows : List (Nat × List Int), total (rows.filter p) ≤ total rows
  | [] => Nat.le_refl _
  | (s, r) :: t => by
    have := total_filter p t
    rw [List.filter_cons]
    split
    · show r.length + total (t.filter p) ≤ r.length + total t; omega
    · show total (t.filter p) ≤ r.length + total t; omega
theorem Val.filter {rows : List (Nat × List Int)} {n : Nat} (V : Val rows n) (p : Nat × List Int → Bool) : Val (rows.filter p) n where
  hs := fun q hq => V.hs q (List.mem_filter.mp hq).1
  hz := by have := total_filter p rows; have := V.hz; omega
  srt := List.Pairwise.filter _ V.srt
  ne := fun q hq => V.ne q (List.mem_filter.mp hq).1
theorem Val.out {init : List (Nat × List Int)} {m : Nat} {rl : List Int} (V : Val (init ++ [(m, rl)]) (m + 1)) {k : Nat} (hk : k < m) {r : List Int} (hr : (k, r) ∈ init ++ [(m, rl)]) :
    F_taken_out [iL (pageOf (init ++ [(m, rl)]) (m + 1)), .int (k : Int)] = some (iL (pageOf ((init ++ [(m, rl)]).filter fun p => !(p.1 == k)) (m + 1))) := by
  have ef : (init ++ [(m, rl)]).filter (fun p => !(p.1 == k)) = init.filter (fun p => !(p.1 == k)) ++ [(m, rl)] := by
    rw [List.filter_append, List.filter_cons_of_pos (by simp; omega)]
    rfl
  have V2 := V.filter fun p => !(p.1 == k)
  have lay2 := laid_e V2.hs V2.hz
  have hrow : ∀ e : Pd.Env, e.at 0 = .sh (iL (pageOf (init ++ [(m, rl)]) (m + 1))) → e.at 1 = .sh (.int (k : Int)) → mCall F_row_in (mCons (mVar 0) (mCons (mVar 1) mNil)) e () = some (iL r, ()) := fun e e0 e1 => by
    refine call_e (cons_e (var_e e0) (cons_e (var_e e1) nil_e)) ?_
    exact V.row hr
  have hrows : ∀ e : Pd.Env, e.at 0 = .sh (iL (pageOf (init ++ [(m, rl)]) (m + 1))) → mCall F_rows_in (mCons (mVar 0) mNil) e () = some (.list (rowsD (init ++ [(m, rl)])), ()) := fun e e0 => by
    refine call_e (cons_e (var_e e0) nil_e) ?_
    exact V.rows_in
  have hlay : ∀ e : Pd.Env, e.at 2 = .sh (.list (rowsD ((init ++ [(m, rl)]).filter fun p => !(p.1 == k)))) → mCall F_laid (mCons (mVar 2) (mCons (mIf (mTru (mVar 2)) (mOp dAdd (mOp dIx (mOp dIx (mVar 2) (mUn dNeg (mC (.int 1)))) (mC (.int 0))) (mC (.int 1))) (mC (.int 0))) mNil)) e () = some (iL (pageOf ((init ++ [(m, rl)]).filter fun p => !(p.1 == k)) (m + 1)), ()) := fun e e2 => by
    have ed : rowsD ((init ++ [(m, rl)]).filter fun p => !(p.1 == k)) = rowsD (init.filter fun p => !(p.1 == k)) ++ [.tuple [.int (m : Int), iL rl]] := by rw [ef]; unfold rowsD; rw [List.map_append]; rfl
    have hx : mOp dIx (mVar 2) (mUn dNeg (mC (.int 1))) e () = some (.tuple [.int (m : Int), iL rl], ()) := op_e (var_e e2) (un_e (x := .int 1) (z := .int (-1)) rfl rfl) (by rw [ed]; exact atI_last)
    have ht : mTru (mVar 2) e () = some (true, ()) := tru_e (var_e e2) (by rw [ed]; show some (!(_ : List D).isEmpty) = _; simp)
    refine call_e (xs := [.list (rowsD ((init ++ [(m, rl)]).filter fun p => !(p.1 == k))), .int ((m + 1 : Nat) : Int)]) (cons_e (var_e e2) (cons_e (mif_t ht (op_e (op_e hx rfl rfl) rfl rfl)) nil_e)) ?_
    exact lay2
  refine runP_re (N := 4) (n := 2) (m := m_taken_out) (ds := [iL (pageOf (init ++ [(m, rl)]) (m + 1)), .int (k : Int)]) (u := ()) (seq_nx (if_no (opT_e (hrow _ rfl rfl) rfl rfl)) (seq_nx (then_e (setF_e (comp_e (itL_e (hrows _ rfl)) rfl (compL_filter (fun p : Nat × List Int => PyData.tuple [.int (p.1 : Int), iL p.2]) (fun p : Nat × List Int => PyData.tuple [.int (p.1 : Int), iL p.2]) (fun p : Nat × List Int => !(p.1 == k)) fun p hp => ⟨_, rfl, opT_e (op_e rfl rfl rfl) rfl ?_, rfl⟩)))) (ret_e (hlay _ rfl))))
  rw [ne_int]
  congr 3
  rw [Bool.eq_iff_iff]; simp; omega
end K53

namespace K53
open PySem Pd
theorem lay_at : ∀ {a : List (Nat × List Int)} {d : List Int} {f : Nat → Int × Int} {s : Nat} {r : List Int} {t : List (Nat × List Int)}, (∀ p ∈ t, p.1 ≠ s) → (lay d f (a ++ (s, r) :: t)).1 s = (((256 - (r.length + (total a + d.length)) : Nat) : Int), (r.length : Int))
  | [], d, f, s, r, t, h => by
    show (lay (r ++ d) _ t).1 s = _
    rw [lay_out h]
    unfold upf
    rw [if_pos rfl, List.length_append]
    show (((256 - (r.length + d.length) : Nat) : Int), (r.length : Int)) = (((256 - (r.length + (0 + d.length)) : Nat) : Int), (r.length : Int))
    rw [Nat.zero_add]
  | (s', r') :: a, d, f, s, r, t, h => by
    show (lay (r' ++ d) _ (a ++ (s, r) :: t)).1 s = _
    rw [lay_at h, List.length_append]
    show (((256 - (r.length + (total a + (r'.length + d.length))) : Nat) : Int), (r.length : Int)) = (((256 - (r.length + (r'.length + total a + d.length)) : Nat) : Int), (r.length : Int))
    rw [show total a + (r'.length + d.length) = r'.length + total a + d.length by omega]
theorem total_ap : ∀ {a b : List (Nat × List Int)}, total (a ++ b) = total a + total b
  | [], b => by show total b = 0 + total b; omega
  | (s, r) :: a, b => by show r.length + total (a ++ b) = r.length + total a + total b; rw [total_ap]; omega
/-- the reading of slots goes through -/
theorem Val.scan {rows : List (Nat × List Int)} {n : Nat} (V : Val rows n) : ∀ {m k : Nat} {a t : List (Nat × List Int)}, k + m = n → rows = a ++ t → (∀ p ∈ a, p.1 < k) → (∀ p ∈ t, k ≤ p.1) → scan (pageOf rows n) m k (((256 - total a : Nat) : Int)) = .inl ((256 - total rows : Nat) : Int)
  | 0, k, a, t, hk, e, ha, ht => by
    have : t = [] := List.eq_nil_iff_forall_not_mem.mpr fun p hp => by
      have := V.hs p (by rw [e]; exact List.mem_append_right _ hp)
      have := ht p hp
      omega
    rw [this, List.append_nil] at e
    rw [e]
    rfl
  | m + 1, k, a, t, hk, e, ha, ht => by
    have hz := V.hz
    have he := pg_ent (s := n) (u := total rows) (n := n) (f := (lay [] (fun _ => (0, 0)) rows).1) (d := (lay [] (fun _ => (0, 0)) rows).2) (k := k) (by omega)
    have h1 : (pageOf rows n).getD (2 + 2 * k) 0 = ((lay [] (fun _ => (0, 0)) rows).1 k).1 := he.1
    have h2 : (pageOf rows n).getD (3 + 2 * k) 0 = ((lay [] (fun _ => (0, 0)) rows).1 k).2 := he.2
    unfold K53.scan
    rw [h1, h2]
    by_cases hex : ∃ r t', t = (k, r) :: t'
    · obtain ⟨r, t', rfl⟩ := hex
      have hsr : Srt (a ++ (k, r) :: t') := by rw [← e]; exact V.srt
      have hst := List.pairwise_cons.mp (List.pairwise_append.mp hsr).2.1
      have hr : r ≠ [] := V.ne (k, r) (by rw [e]; simp)
      have hrl := List.length_pos_iff.mpr hr
      have hl : (lay [] (fun _ => (0, 0)) rows).1 k = (((256 - (r.length + (total a + 0)) : Nat) : Int), (r.length : Int)) := by
        rw [e]; exact lay_at fun p hp => by have : k < p.1 := hst.1 p hp; omega
      have ht2 : total rows = total a + (r.length + total t') := by rw [e, total_ap]; rfl
      rw [hl, if_neg (by show ¬ (r.length : Int) = 0; omega), if_pos (by show ((256 - (r.length + (total a + 0)) : Nat) : Int) = ((256 - total a : Nat) : Int) - (r.length : Int); omega)]
      have ih := Val.scan V (m := m) (k := k + 1) (a := a ++ [(k, r)]) (t := t') (by omega) (by rw [e]; simp) (fun p hp => by
        rcases List.mem_append.mp hp with z | z
        · have := ha p z; omega
        · rw [List.mem_singleton.mp z]; show k < k + 1; omega) (fun p hp => by have : k < p.1 := hst.1 p hp; omega)
      have et : total (a ++ [(k, r)]) = total a + r.length := by rw [total_ap]; show total a + (r.length + 0) = _; omega
      rw [et] at ih
      have ez : ((256 - total a : Nat) : Int) - (r.length : Int) = ((256 - (total a + r.length) : Nat) : Int) := by omega
      show K53.scan (pageOf rows n) m (k + 1) (((256 - total a : Nat) : Int) - (r.length : Int)) = _
      rw [ez]
      exact ih
    · have hno : ∀ p ∈ rows, p.1 ≠ k := fun p hp z => by
        rw [e] at hp
        rcases List.mem_append.mp hp with q | q
        · have := ha p q; omega
        · cases t with
          | nil => cases q
          | cons x t' =>
            have hsr : Srt (a ++ x :: t') := by rw [← e]; exact V.srt
            have hst := List.pairwise_cons.mp (List.pairwise_append.mp hsr).2.1
            have hx := ht x (by simp)
            rcases List.mem_cons.mp q with w | w
            · exact hex ⟨p.2, t', by rw [← w, ← z]⟩
            · have : x.1 < p.1 := hst.1 p w
              omega
      rw [lay_out hno, if_pos rfl, if_pos rfl]
      refine Val.scan V (m := m) (k := k + 1) (a := a) (t := t) (by omega) e (fun p hp => by have := ha p hp; omega) (fun p hp => by
        have := ht p hp
        have := hno p (by rw [e]; exact List.mem_append_right _ hp)
        omega)
end K53

namespace K53
open PySem Pd
def IsB (z : Int) : Prop := 0 ≤ z ∧ z < 256
theorem tbl_mem {f : Nat → Int × Int} : ∀ {n : Nat}, (∀ k, IsB (f k).1 ∧ IsB (f k).2) → ∀ z ∈ tbl f n, IsB z
  | 0, _, z, h => nomatch h
  | n + 1, hf, z, h => by
    rcases List.mem_append.mp h with e | e
    · exact tbl_mem hf z e
    · rcases List.mem_cons.mp e with e | e
      · rw [e]; exact (hf n).1
      · rw [List.mem_singleton.mp e]; exact (hf n).2
theorem lay_bytes : ∀ {rows : List (Nat × List Int)} {d : List Int} {f : Nat → Int × Int}, (∀ p ∈ rows, p.2 ≠ [] ∧ ∀ b ∈ p.2, IsB b) → (∀ b ∈ d, IsB b) → (∀ k, IsB (f k).1 ∧ IsB (f k).2) → total rows + d.length ≤ 254 →
    (∀ b ∈ (lay d f rows).2, IsB b) ∧ ∀ k, IsB ((lay d f rows).1 k).1 ∧ IsB ((lay d f rows).1 k).2
  | [], d, f, _, hd, hf, _ => ⟨hd, hf⟩
  | (s, r) :: t, d, f, hr, hd, hf, hz => by
    have h0 := hr (s, r) (by simp)
    have hrl := List.length_pos_iff.mpr h0.1
    have hz' : r.length + total t + d.length ≤ 254 := hz
    refine lay_bytes (rows := t) (fun p hp => hr p (by simp [hp])) (fun b hb => ?_) (fun k => ?_) (by rw [List.length_append]; omega)
    · rcases List.mem_append.mp hb with e | e
      · exact h0.2 b e
      · exact hd b e
    · unfold upf
      split
      · refine ⟨?_, ?_⟩
        · show 0 ≤ ((256 - (r ++ d).length : Nat) : Int) ∧ ((256 - (r ++ d).length : Nat) : Int) < 256
          have : 0 < r.length := hrl
          rw [List.length_append]; omega
        · show 0 ≤ (r.length : Int) ∧ (r.length : Int) < 256
          omega
      · exact hf k
theorem Val.faultless {rows : List (Nat × List Int)} {n : Nat} (V : Val rows n) (hb : ∀ p ∈ rows, ∀ b ∈ p.2, IsB b) (hl : n = 0 ∨ ∃ init rl, rows = init ++ [(n - 1, rl)]) : fault (pageOf rows n) = .none := by
  have hz := V.hz
  have LB := lay_bytes (rows := rows) (d := []) (f := fun _ => (0, 0)) (fun p hp => ⟨V.ne p hp, hb p hp⟩) (fun _ h => nomatch h) (fun k => ⟨⟨by decide, by decide⟩, ⟨by decide, by decide⟩⟩) (by simp; omega)
  have hall : ∀ z ∈ pageOf rows n, IsB z := fun z hz' => by
    unfold pageOf pg at hz'
    rcases List.mem_cons.mp hz' with e | e
    · rw [e]; exact ⟨by omega, by omega⟩
    rcases List.mem_cons.mp e with e | e
    · rw [e]; exact ⟨by omega, by omega⟩
    rcases List.mem_append.mp e with e | e
    · exact tbl_mem LB.2 z e
    rcases List.mem_append.mp e with e | e
    · rw [(List.mem_replicate.mp e).2]; exact ⟨by decide, by decide⟩
    · exact LB.1 z e
  have hbad : (List.range 256).filter (bad (pageOf rows n)) = [] := List.filter_eq_nil_iff.mpr fun k hk h => by
    have hk := List.mem_range.mp hk
    have hg : (pageOf rows n).getD k 0 ∈ pageOf rows n := by
      rw [List.getD_eq_getElem?_getD, List.getElem?_eq_getElem (by rw [V.len]; exact hk)]
      exact List.getElem_mem _
    have := hall _ hg
    unfold bad at h
    rw [decide_eq_true this.1, decide_eq_true this.2] at h
    cases h
  have hsc := V.scan (m := n) (k := 0) (a := []) (t := rows) (by omega) rfl (fun _ h => nomatch h) (fun _ _ => Nat.zero_le _)
  have hsc : K53.scan (pageOf rows n) n 0 256 = .inl ((256 - total rows : Nat) : Int) := hsc
  unfold fault
  rw [if_neg (by rw [V.len]; simp), hbad]
  dsimp only
  rw [V.at0, V.at1, if_neg (by omega), Int.toNat_natCast, hsc]
  dsimp only
  rw [if_neg (by omega)]
  have hlast : ¬ (0 < (n : Int) ∧ (pageOf rows n).getD (1 + 2 * n) 0 = 0) := fun ⟨h0, h1⟩ => by
    rcases hl with e | ⟨init, rl, e⟩
    · omega
    · have he := pg_ent (s := n) (u := total rows) (n := n) (f := (lay [] (fun _ => (0, 0)) rows).1) (d := (lay [] (fun _ => (0, 0)) rows).2) (k := n - 1) (by omega)
      have h2 : (pageOf rows n).getD (3 + 2 * (n - 1)) 0 = ((lay [] (fun _ => (0, 0)) rows).1 (n - 1)).2 := he.2
      rw [show 3 + 2 * (n - 1) = 1 + 2 * n by omega, h1, e, lay_at (t := []) (fun _ h => nomatch h)] at h2
      have hrl := List.length_pos_iff.mpr (V.ne (n - 1, rl) (by rw [e]; simp))
      have h2 : (0 : Int) = (rl.length : Int) := h2
      have hrl : 0 < rl.length := hrl
      omega
  rw [if_neg hlast]
  have hr := pg_rest (s := n) (u := total rows) (n := n) (f := (lay [] (fun _ => (0, 0)) rows).1) (d := (lay [] (fun _ => (0, 0)) rows).2) (by rw [V.dl]; exact hz)
  rw [V.dl] at hr
  rw [show ((256 - total rows : Nat) : Int) = 256 - (total rows : Int) by omega]
  have hr : rest (pageOf rows n) (2 + 2 * (n : Int)) (256 - (total rows : Int)) = _ := hr
  rw [hr, if_neg]
  intro h
  obtain ⟨x, hx, hx2⟩ := List.any_eq_true.mp h
  obtain ⟨z, hz3, rfl⟩ := List.mem_map.mp hx
  rw [(List.mem_replicate.mp hz3).2] at hx2
  cases hx2
end K53

namespace K53
open PySem Pd
theorem drawn (g : Dr) (i : Nat) {m : Int} (hm : 0 < m ∧ m < 1073741824) {e : Pd.Env} (he : e.at i = .st) : ∃ j g1, mCallG drawA (gConsS i (gCons (mC (.int m)) gNil)) e g = some (.int j, g1) ∧ 0 ≤ j ∧ j < m := by
  obtain ⟨j, g1, h1, h2⟩ := draw_ev g hm
  refine ⟨j, g1, ?_, h2⟩
  refine callG_e (as := [.st, .sh (.int m)]) (g1 := g) ?_ h1
  unfold gConsS
  rw [he]
  rfl
/-- a drawn row -/
theorem row_e (g : Dr) : ∃ (r : List Int) (g1 : Dr), F__law_row [.st] g = some (iL r, g1) ∧ r ≠ [] ∧ ∀ b ∈ r, IsB b := by
  obtain ⟨a, g1, e1, a0, a1⟩ := drawn g 0 (m := 6) (by decide) (e := startE 3 [.st]) rfl
  obtain ⟨b, g2, e2, b0, b1⟩ := drawn g1 0 (m := 3) (by decide) (e := startE 3 [.st]) rfl
  have hx : ∃ x, dIx (.list [.int 1, .int 3, .int 20, .int 60, .int 120, .int 253]) (.int a) = some (.int x) ∧ 1 ≤ x ∧ x ≤ 253 := by
    have : a = 0 ∨ a = 1 ∨ a = 2 ∨ a = 3 ∨ a = 4 ∨ a = 5 := by omega
    rcases this with rfl | rfl | rfl | rfl | rfl | rfl
    · exact ⟨1, rfl, by decide⟩
    · exact ⟨3, rfl, by decide⟩
    · exact ⟨20, rfl, by decide⟩
    · exact ⟨60, rfl, by decide⟩
    · exact ⟨120, rfl, by decide⟩
    · exact ⟨253, rfl, by decide⟩
  obtain ⟨x, hx, x0, x1⟩ := hx
  have hc := compL_ex (bt := bName 2) (me := mOp dMod (mOp dAdd (mCallG drawA (gConsS 0 (gCons (mC (.int 256)) gNil))) (mOp dMul (mC (.int 7)) (mVar 2))) (mC (.int 256))) (env := Pd.Env.wipe ((startE 3 [SV.st]).set 1 (.sh (.int (x + b)))) [2]) (fun d => ∃ z : Int, d = .int z ∧ IsB z) (ds := rng 0 (x + b).toNat) (g := g2) (fun d hd g => by
    obtain ⟨k, hk, rfl⟩ := rng_mem hd
    obtain ⟨j, g3, e3, j0, j1⟩ := drawn g 0 (m := 256) (by decide) (e := ((Pd.Env.wipe ((startE 3 [SV.st]).set 1 (.sh (.int (x + b)))) [2]).set 2 (.sh (.int (k : Int))))) rfl
    exact ⟨_, rfl, _, g3, op_e (op_e e3 (op_e rfl rfl (mul_l (by decide))) rfl) rfl (mod_e (by decide)), _, rfl, Int.fmod_nonneg_of_pos _ (by decide), Int.fmod_lt_of_pos _ (by decide)⟩)
  obtain ⟨xs, g3, e3, hl, hp⟩ := hc
  obtain ⟨r, rfl, hr⟩ := map_of hp
  rw [rng_len, List.length_map] at hl
  refine ⟨r, g3, runG_rl (seq_nx (set_e (op_e (op_e (L_e (lst_e (cons_e rfl (cons_e rfl (cons_e rfl (cons_e rfl (cons_e rfl (cons_e rfl nil_e)))))))) e1 hx) e2 rfl)) (retF_e (comp_e (rng1_e (cons_e rfl nil_e) (by omega)) rfl e3))), fun z => ?_, hr⟩
  rw [z] at hl
  simp at hl
  omega
end K53

namespace K53
open PySem Pd
structure ROk (R : List (Nat × List Int)) (k : Nat) : Prop where
  hs : ∀ p ∈ R, p.1 < k
  srt : Srt R
  ne : ∀ p ∈ R, p.2 ≠ []
  by_ : ∀ p ∈ R, ∀ b ∈ p.2, IsB b
  bud : ∀ init t r, R = init ++ [(t, r)] → total R + 2 * init.length + 2 * t < 230
abbrev E1 (R : List (Nat × List Int)) (a b : SV) : Pd.Env := [.un, .st, .ow (rowsD R), a, b, .un, .un, .un, .un, .un, .un, .un, .un, .un]
theorem sum_rows (R : List (Nat × List Int)) : (R.map fun p => (p.2.length : Int) + 2).sum = (total R : Int) + 2 * (R.length : Int) := by
  induction R with
  | nil => rfl
  | cons p R ih =>
    rw [List.map_cons, List.sum_cons, ih]
    show (p.2.length : Int) + 2 + _ = ((p.2.length + total R : Nat) : Int) + 2 * ((R.length + 1 : Nat) : Int)
    omega
theorem test_e {R : List (Nat × List Int)} {k : Nat} {r : List Int} {g : Dr} : mLendT [2, 11] (mOpT dLtI (mOp dAdd (mOp dAdd (mCall dSum (mCons (mL (mComp (mItL (mVar 2)) [5, 6] (bTup 2 (bCons (bName 5) (bCons (bName 6) bNil))) mYes (mOp dAdd (mCall dLen (mCons (mVar 6) mNil)) (mC (.int 2))))) mNil)) (mCall dLen (mCons (mVar 4) mNil))) (mOp dMul (mC (.int 2)) (mVar 3))) (mC (.int 230))) (E1 R (.sh (.int (k : Int))) (.sh (iL r))) g =
    some (decide ((total R : Int) + 2 * (R.length : Int) + (r.length : Int) + 2 * (k : Int) < 230), g) := by
  refine lendT_e rfl ?_
  refine opT_e (x := .int ((total R : Int) + 2 * (R.length : Int) + (r.length : Int) + 2 * (k : Int))) (op_e (op_e (call_e (cons_e (L_e (comp_e (itL_e rfl) rfl (compL_mm (fun p : Nat × List Int => .tuple [.int (p.1 : Int), iL p.2]) (fun p => .int ((p.2.length : Int) + 2)) fun p _ => ⟨_, rfl, op_e (call_e (cons_e rfl nil_e) iL_len) rfl rfl⟩))) nil_e) (sum_e R fun p => (p.2.length : Int) + 2)) (call_e (cons_e rfl nil_e) iL_len) rfl) (op_e rfl rfl (mul_l (by decide))) ?_) rfl rfl
  rw [sum_rows]
  rfl
theorem collect_e (g : Dr) {R : List (Nat × List Int)} {k : Nat} {b : SV} (ok : ROk R k) : ∃ R' b' g', lb_law_1 (E1 R (.sh (.int (k : Int))) b) g = some (.nx, E1 R' (.sh (.int (k : Int))) b', g') ∧ ROk R' (k + 1) ∧ b'.notOw = true := by
  obtain ⟨r0, g1, e1, hne, hb⟩ := row_e g
  have s1 : mSet 4 (mL (mSlL (mCallG F__law_row (gConsS 1 gNil)) mNo (mPart (mC (.int 70))))) (E1 R (.sh (.int (k : Int))) b) g = some (.nx, E1 R (.sh (.int (k : Int))) (.sh (iL (r0.take 70))), g1) := by
    have e2 : mCallG F__law_row (gConsS 1 gNil) (E1 R (.sh (.int (k : Int))) b) g = some (iL r0, g1) := callG_e (as := [.st]) (g1 := g) rfl e1
    refine set_e (L_e ((slL_e e2 rfl (part_e rfl)).trans ?_))
    show some (cut (r0.map PyData.int) none (some ((70 : Nat) : Int)), g1) = _
    rw [cut_to, List.map_take]
  have ok' : ROk R (k + 1) := ⟨fun p hp => by have := ok.hs p hp; omega, ok.srt, ok.ne, ok.by_, ok.bud⟩
  have t := test_e (R := R) (k := k) (r := r0.take 70) (g := g1)
  by_cases hbud : (total R : Int) + 2 * (R.length : Int) + ((r0.take 70).length : Int) + 2 * (k : Int) < 230
  · rw [decide_eq_true hbud] at t
    obtain ⟨j, g2, e3, j0, j1⟩ := drawn g1 1 (m := 4) (by decide) (e := E1 R (.sh (.int (k : Int))) (.sh (iL (r0.take 70)))) rfl
    by_cases hj : 0 < j
    · refine ⟨R ++ [(k, r0.take 70)], .sh (iL (r0.take 70)), g2, seq_nx s1 (if_t (and_t t (opT_e e3 rfl (gt_t hj))) ((app_e (tup_e (cons_e rfl (cons_e rfl nil_e))) rfl ?_).trans ?_)), ?_, rfl⟩
      · unfold rowsD
        rw [List.length_map, line_val]; omega
      · have : rowsD R ++ [PyData.tuple [.int (k : Int), iL (r0.take 70)]] = rowsD (R ++ [(k, r0.take 70)]) := by unfold rowsD; rw [List.map_append]; rfl
        rw [this]
        rfl
      · refine ⟨fun p hp => ?_, List.pairwise_append.mpr ⟨ok.srt, List.pairwise_singleton _ _, fun a ha b hb => ?_⟩, fun p hp => ?_, fun p hp => ?_, fun init t r h => ?_⟩
        · rcases List.mem_append.mp hp with e | e
          · have := ok.hs p e; omega
          · rw [List.mem_singleton.mp e]; show k < k + 1; omega
        · rw [List.mem_singleton.mp hb]; exact ok.hs a ha
        · rcases List.mem_append.mp hp with e | e
          · exact ok.ne p e
          · rw [List.mem_singleton.mp e]
            show r0.take 70 ≠ []
            intro z
            have h2 : (r0.take 70).length = 0 := by rw [z]; rfl
            rw [List.length_take] at h2
            have := List.length_pos_iff.mpr hne
            omega
        · rcases List.mem_append.mp hp with e | e
          · exact ok.by_ p e
          · rw [List.mem_singleton.mp e]
            exact fun b h => hb b (List.mem_of_mem_take h)
        · have h1 := List.append_inj' h rfl
          have h2 := (List.cons.inj h1.2).1
          rw [total_ap, ← h1.1, ← (Prod.mk.inj h2).1]
          show total R + ((r0.take 70).length + 0) + 2 * R.length + 2 * k < 230
          omega
    · exact ⟨R, _, g2, seq_nx s1 (if_f (and_t t (opT_e e3 rfl (gt_f hj))) rfl), ok', rfl⟩
  · rw [decide_eq_false hbud] at t
    exact ⟨R, _, g1, seq_nx s1 (if_f (and_f t) rfl), ok', rfl⟩
end K53

namespace K53
open PySem Pd
abbrev Row := Nat × List Int
/-! #### sorted rows -/
theorem srt_ext : ∀ {a b : List Row}, Srt a → Srt b → (∀ x, x ∈ a ↔ x ∈ b) → a = b
  | [], [], _, _, _ => rfl
  | [], y :: _, _, _, h => nomatch (h y).mpr (List.mem_cons_self ..)
  | x :: _, [], _, _, h => nomatch (h x).mp (List.mem_cons_self ..)
  | x :: a, y :: b, ha, hb, h => by
    have ha' := List.pairwise_cons.mp ha
    have hb' := List.pairwise_cons.mp hb
    have e : x = y := by
      rcases List.mem_cons.mp ((h x).mp (List.mem_cons_self ..)) with e | e
      · exact e
      · rcases List.mem_cons.mp ((h y).mpr (List.mem_cons_self ..)) with e2 | e2
        · exact e2.symm
        · have h1 := hb'.1 x e
          have h2 := ha'.1 y e2
          omega
    subst e
    rw [srt_ext ha'.2 hb'.2 fun z => ⟨fun hz => ?_, fun hz => ?_⟩]
    · rcases List.mem_cons.mp ((h z).mp (List.mem_cons_of_mem _ hz)) with e | e
      · subst e
        have := ha'.1 z hz
        omega
      · exact e
    · rcases List.mem_cons.mp ((h z).mpr (List.mem_cons_of_mem _ hz)) with e | e
      · subst e
        have := hb'.1 z hz
        omega
      · exact e
theorem srt_uni : ∀ {R : List Row} {x y : Row}, Srt R → x ∈ R → y ∈ R → x.1 = y.1 → x = y
  | [], _, _, _, h, _, _ => nomatch h
  | p :: R, x, y, s, hx, hy, e => by
    have s' := List.pairwise_cons.mp s
    rcases List.mem_cons.mp hx with ex | ex <;> rcases List.mem_cons.mp hy with ey | ey
    · rw [ex, ey]
    · subst ex
      have := s'.1 y ey
      omega
    · subst ey
      have := s'.1 x ex
      omega
    · exact srt_uni s'.2 ex ey e
/-! #### the rows with fillers -/
def own (R : List Row) (k : Nat) : List Row := R.filter fun p => (p.1 : Int) == (k : Int)
def rowAt (R : List Row) (k : Nat) : List Int := match own R k with | [] => [9] | p :: _ => p.2
def fl (R : List Row) (k : Nat) : List Row := (List.range k).map fun i => (i, rowAt R i)
theorem fl_succ (R : List Row) (k : Nat) : fl R (k + 1) = fl R k ++ [(k, rowAt R k)] := by
  unfold fl
  rw [List.range_succ, List.map_append]
  rfl
theorem own_mem {R : List Row} {k : Nat} {p : Row} : p ∈ own R k ↔ p ∈ R ∧ p.1 = k := by
  unfold own
  rw [List.mem_filter]
  simp only [beq_iff_eq]
  constructor
  · rintro ⟨a, b⟩; exact ⟨a, by omega⟩
  · rintro ⟨a, b⟩; exact ⟨a, by omega⟩
theorem rowAt_ne {R : List Row} (h : ∀ p ∈ R, p.2 ≠ []) (k : Nat) : rowAt R k ≠ [] := by
  unfold rowAt
  cases e : own R k with
  | nil => exact fun z => nomatch z
  | cons p t => exact h p (own_mem.mp (by rw [e]; exact List.mem_cons_self ..)).1
theorem rowAt_mem {R : List Row} (s : Srt R) {k : Nat} {r : List Int} (h : (k, r) ∈ R) : rowAt R k = r := by
  unfold rowAt
  have h1 : (k, r) ∈ own R k := own_mem.mpr ⟨h, rfl⟩
  cases e : own R k with
  | nil => rw [e] at h1; exact nomatch h1
  | cons p t =>
    have h2 := own_mem.mp (show p ∈ own R k by rw [e]; exact List.mem_cons_self ..)
    have := srt_uni s h2.1 h (by rw [h2.2])
    rw [this]
theorem total_memb : ∀ {R : List Row} {p : Row}, p ∈ R → p.2.length ≤ total R
  | q :: R, p, h => by
    rcases List.mem_cons.mp h with e | e
    · subst e; exact Nat.le_add_right _ _
    · exact Nat.le_trans (total_memb e) (Nat.le_add_left _ _)
theorem rowAt_len (R : List Row) (k : Nat) : (rowAt R k).length ≤ total (own R k) + 1 := by
  unfold rowAt
  cases e : own R k with
  | nil => exact Nat.le_refl _
  | cons p t =>
    show p.2.length ≤ p.2.length + total t + 1
    omega
theorem total_split (R : List Row) (k : Nat) : total (R.filter fun p => decide (p.1 < k + 1)) = total (R.filter fun p => decide (p.1 < k)) + total (own R k) := by
  unfold own
  induction R with
  | nil => rfl
  | cons p R ih =>
    rw [List.filter_cons, List.filter_cons, List.filter_cons]
    rcases Nat.lt_trichotomy p.1 k with h | h | h
    · rw [if_pos (decide_eq_true (by omega)), if_pos (decide_eq_true h), if_neg (by simp only [beq_iff_eq]; omega)]
      show p.2.length + total _ = p.2.length + total _ + _
      omega
    · rw [if_pos (decide_eq_true (by omega)), if_neg (by simp only [decide_eq_true_eq]; omega), if_pos (by simp only [beq_iff_eq]; omega)]
      show p.2.length + total _ = _ + (p.2.length + total _)
      omega
    · rw [if_neg (by simp only [decide_eq_true_eq]; omega), if_neg (by simp only [decide_eq_true_eq]; omega), if_neg (by simp only [beq_iff_eq]; omega)]
      exact ih
theorem total_fl (R : List Row) : ∀ k, total (fl R k) ≤ total (R.filter fun p => decide (p.1 < k)) + k
  | 0 => Nat.zero_le _
  | k + 1 => by
    rw [fl_succ, total_ap, total_split]
    have := total_fl R k
    have := rowAt_len R k
    show total (fl R k) + ((rowAt R k).length + 0) ≤ _
    omega
theorem fl_mem {R : List Row} {k : Nat} {p : Row} : p ∈ fl R k ↔ p.1 < k ∧ p.2 = rowAt R p.1 := by
  unfold fl
  rw [List.mem_map]
  constructor
  · rintro ⟨i, h, rfl⟩
    exact ⟨List.mem_range.mp h, rfl⟩
  · rintro ⟨h, e⟩
    exact ⟨p.1, List.mem_range.mpr h, by rw [← e]⟩
theorem fl_srt (R : List Row) : ∀ k, Srt (fl R k)
  | 0 => List.Pairwise.nil
  | k + 1 => by
    rw [fl_succ]
    exact List.pairwise_append.mpr ⟨fl_srt R k, List.pairwise_singleton _ _, fun a ha b hb => by rw [List.mem_singleton.mp hb]; exact (fl_mem.mp ha).1⟩
theorem fl_val {R : List Row} (ne : ∀ p ∈ R, p.2 ≠ []) {k : Nat} (h : 3 * k + total R ≤ 254) : Val (fl R k) k where
  hs := fun p hp => (fl_mem.mp hp).1
  hz := by
    have := total_fl R k
    have := total_filter (fun p => decide (p.1 < k)) R
    omega
  srt := fl_srt R k
  ne := fun p hp => by rw [(fl_mem.mp hp).2]; exact rowAt_ne ne _
/-- the fillers below k are taken out -/
def cl (R : List Row) (n k : Nat) : List Row := (fl R n).filter fun p => decide (k ≤ p.1) || R.any fun q => q.1 == p.1
theorem cl_zero (R : List Row) (n : Nat) : cl R n 0 = fl R n := List.filter_eq_self.mpr fun p _ => by simp
theorem cl_end {R : List Row} {n : Nat} (s : Srt R) (h : ∀ p ∈ R, p.1 < n) : cl R n n = R := by
  refine srt_ext (List.Pairwise.filter _ (fl_srt R n)) s fun x => ?_
  unfold cl
  rw [List.mem_filter, fl_mem]
  constructor
  · rintro ⟨⟨h1, h2⟩, h3⟩
    rw [decide_eq_false (by omega), Bool.false_or, List.any_eq_true] at h3
    obtain ⟨q, hq, e⟩ := h3
    have e := eq_of_beq e
    have : x = q := Prod.ext e.symm (by rw [h2, ← e]; exact rowAt_mem s hq)
    rw [this]
    exact hq
  · intro hx
    refine ⟨⟨h x hx, (rowAt_mem s hx).symm⟩, ?_⟩
    rw [Bool.or_eq_true, List.any_eq_true]
    exact .inr ⟨x, hx, by simp⟩
/-- one step: slot k has no row of R -/
theorem cl_out {R : List Row} {n k : Nat} (h : ∀ p ∈ R, p.1 ≠ k) : cl R n (k + 1) = (cl R n k).filter fun p => !(p.1 == k) := by
  unfold cl
  rw [List.filter_filter]
  refine List.filter_congr fun p _ => ?_
  by_cases e : p.1 = k
  · rw [e, decide_eq_false (by omega), Bool.false_or]
    have : (R.any fun q => q.1 == k) = false := by
      rw [List.any_eq_false]
      exact fun q hq z => h q hq (eq_of_beq z)
    rw [this]
    simp
  · have : (decide (k + 1 ≤ p.1)) = (decide (k ≤ p.1)) := by
      rw [decide_eq_decide]; omega
    rw [this, beq_false_of_ne e]
    simp
theorem cl_stay {R : List Row} {n k : Nat} {r : List Int} (h : (k, r) ∈ R) : cl R n (k + 1) = cl R n k := by
  unfold cl
  refine List.filter_congr fun p _ => ?_
  by_cases e : p.1 = k
  · have : (R.any fun q => q.1 == p.1) = true := List.any_eq_true.mpr ⟨_, h, by simp [e]⟩
    rw [this]
    simp
  · have : (decide (k + 1 ≤ p.1)) = (decide (k ≤ p.1)) := by
      rw [decide_eq_decide]; omega
    rw [this]
/-- the last row stays -/
theorem cl_form {init : List Row} {m : Nat} {rl : List Int} (s : Srt (init ++ [(m, rl)])) (k : Nat) : ∃ i2, cl (init ++ [(m, rl)]) (m + 1) k = i2 ++ [(m, rl)] := by
  unfold cl
  rw [fl_succ, List.filter_append, List.filter_cons_of_pos, rowAt_mem s (r := rl) (by simp)]
  · exact ⟨_, rfl⟩
  · simp
theorem cl_has {R : List Row} {n k : Nat} (h : k < n) : ∃ r, (k, r) ∈ cl R n k := by
  refine ⟨rowAt R k, List.mem_filter.mpr ⟨fl_mem.mpr ⟨h, rfl⟩, ?_⟩⟩
  simp
end K53

namespace K53
open PySem Pd
/-! #### the number of slots -/
def Last (R : List Row) (n : Nat) : Prop := (R = [] ∧ n = 0) ∨ ∃ init m rl, R = init ++ [(m, rl)] ∧ n = m + 1
theorem cnt_e {env : Pd.Env} {g : Dr} {R : List Row} {n : Nat} (h : env.at 2 = .sh (.list (rowsD R))) (hl : Last R n) : mIf (mOpT dGtI (mCall dLen (mCons (mVar 2) mNil)) (mC (.int 0))) (mOp dAdd (mOp dIx (mOp dIx (mVar 2) (mUn dNeg (mC (.int 1)))) (mC (.int 0))) (mC (.int 1))) (mC (.int 0)) env g = some (.int (n : Int), g) := by
  have hv : (mVar 2 : ME Dr) env g = some (.list (rowsD R), g) := var_e h
  rcases hl with ⟨rfl, rfl⟩ | ⟨init, m, rl, rfl, rfl⟩
  · exact mif_f (opT_e (call_e (cons_e hv nil_e) rfl) rfl rfl) rfl
  · have e : rowsD (init ++ [(m, rl)]) = rowsD init ++ [.tuple [.int (m : Int), iL rl]] := by unfold rowsD; rw [List.map_append]; rfl
    refine mif_t (opT_e (x := .int ((rowsD (init ++ [(m, rl)])).length : Int)) (call_e (cons_e hv nil_e) rfl) rfl (gt_t ?_)) (op_e (x := .int (m : Int)) (op_e (x := .tuple [.int (m : Int), iL rl]) (op_e hv (un_e rfl rfl) ?_) rfl rfl) rfl rfl)
    · rw [e, List.length_append]
      show (0 : Int) < ((_ + 1 : Nat) : Int)
      omega
    · rw [e]
      exact atI_last
theorem Last.lt {R : List Row} {n : Nat} (hl : Last R n) (s : Srt R) : ∀ p ∈ R, p.1 < n := by
  rcases hl with ⟨rfl, rfl⟩ | ⟨init, m, rl, rfl, rfl⟩
  · exact fun p h => nomatch h
  · intro p hp
    rcases List.mem_append.mp hp with h | h
    · exact Nat.lt_succ_of_lt ((List.pairwise_append.mp s).2.2 p h _ (List.mem_singleton_self _))
    · rw [List.mem_singleton.mp h]; exact Nat.lt_succ_self m
theorem Last.bnd {R : List Row} {n k : Nat} (hl : Last R n) (ok : ROk R k) (hk : k ≤ 7) : 3 * n + total R ≤ 240 := by
  rcases hl with ⟨rfl, rfl⟩ | ⟨init, m, rl, rfl, rfl⟩
  · exact Nat.zero_le _
  · have h1 := ok.bud init m rl rfl
    have h2 := ok.hs (m, rl) (by simp)
    have h2 : m < k := h2
    omega
theorem last_ex (R : List Row) : ∃ n, Last R n := by
  rcases List.eq_nil_or_concat R with h | ⟨init, ⟨m, rl⟩, h⟩
  · exact ⟨0, .inl ⟨h, rfl⟩⟩
  · exact ⟨m + 1, .inr ⟨init, m, rl, by rw [h, List.concat_eq_append], rfl⟩⟩
/-! #### the page made anew -/
abbrev E2 (R : List Row) (P : D) (a b M o t n s k : SV) : Pd.Env := [.un, .st, .sh (.list (rowsD R)), a, b, .un, .un, .sh P, M, o, t, n, s, k]
section
variable {g : Dr} {R : List Row} {P : D} {b t n s kd : SV}
theorem make_e {o : SV} {k : Nat} (ho : o.notOw = true) (hb : b.notOw = true) (ne : ∀ p ∈ R, p.2 ≠ []) (h : 3 * (k + 1) + total R ≤ 250) : ∃ o', o'.notOw = true ∧ lb_law_2 (E2 R P (.sh (.int (k : Int))) b (.sh (iL (pageOf (fl R k) k))) o t n s kd) g = some (.nx, E2 R P (.sh (.int (k : Int))) b (.sh (iL (pageOf (fl R (k + 1)) (k + 1)))) o' t n s kd, g) := by
  have V : Val (fl R k) k := fl_val ne (by omega)
  have hc : compL (bTup 2 (bCons (bName 5) (bCons (bName 4) bNil))) (mOpT dEq (mVar 5) (mVar 3)) (mVar 4) (Pd.Env.wipe (E2 R P (.sh (.int (k : Int))) b (.sh (iL (pageOf (fl R k) k))) o t n s kd) [5, 4]) (rowsD R) g = some ((own R k).map fun p => iL p.2, g) :=
    compL_filter (fun p : Row => PyData.tuple [.int (p.1 : Int), iL p.2]) (fun p => iL p.2) (fun p => (p.1 : Int) == (k : Int)) fun p _ => ⟨_, rfl, opT_e rfl rfl (eq_int _ _), rfl⟩
  have hv : ([5, 4].all fun j => ((E2 R P (.sh (.int (k : Int))) b (.sh (iL (pageOf (fl R k) k))) o t n s kd).at j).notOw) = true := by
    show (true && (b.notOw && true)) = true
    rw [hb]; rfl
  have s1 : mThen (mSetF 9 (mComp (mItL (mVar 2)) [5, 4] (bTup 2 (bCons (bName 5) (bCons (bName 4) bNil))) (mOpT dEq (mVar 5) (mVar 3)) (mVar 4))) 9 (E2 R P (.sh (.int (k : Int))) b (.sh (iL (pageOf (fl R k) k))) o t n s kd) g =
      some (.nx, E2 R P (.sh (.int (k : Int))) b (.sh (iL (pageOf (fl R k) k))) (.sh (.list ((own R k).map fun p => iL p.2))) t n s kd, g) := then_e (setF_e (comp_e (itL_e rfl) hv hc))
  have hif : mIf (mOpT dGtI (mCall dLen (mCons (mVar 9) mNil)) (mC (.int 0))) (mOp dIx (mVar 9) (mC (.int 0))) (mL (mLst (mCons (mC (.int 9)) mNil))) (E2 R P (.sh (.int (k : Int))) b (.sh (iL (pageOf (fl R k) k))) (.sh (.list ((own R k).map fun p => iL p.2))) t n s kd) g = some (iL (rowAt R k), g) := by
    unfold rowAt
    cases e : own R k with
    | nil => exact mif_f (opT_e (call_e (cons_e rfl nil_e) rfl) rfl rfl) (L_e (lst_e (cons_e rfl nil_e)))
    | cons p tl =>
      refine mif_t (opT_e (x := .int (((p :: tl).map fun p => iL p.2).length : Int)) (call_e (cons_e rfl nil_e) rfl) rfl (gt_t ?_)) (op_e (y := .int ((0 : Nat) : Int)) rfl rfl (ix_nat (j := 0) rfl))
      rw [List.length_map, List.length_cons]
      omega
  have hp := V.put (r := rowAt R k) (fun j hj => ⟨rowAt R j, fl_mem.mpr ⟨hj, rfl⟩⟩) (rowAt_ne ne k) (by
    have h1 := rowAt_len R k
    have h2 : total (own R k) ≤ total R := total_filter _ R
    omega) (by
    have h0 := total_fl R (k + 1)
    rw [fl_succ, total_ap] at h0
    have h1 : total [(k, rowAt R k)] = (rowAt R k).length := Nat.add_zero _
    have h2 := total_filter (fun p => decide (p.1 < k + 1)) R
    omega)
  refine ⟨_, ?_, seq_nx s1 (set_e (op_e (x := .tuple [iL (pageOf (fl R (k + 1)) (k + 1)), .int (k : Int)]) (call_e (cons_e rfl (cons_e hif nil_e)) ?_) rfl rfl))⟩
  · rfl
  · rw [fl_succ]
    exact hp
theorem any_cast (k : Nat) : ((R.map fun p => PyData.int (p.1 : Int)).any fun e => PyData.eqv e (.int (k : Int))) = R.any fun q => q.1 == k := by
  rw [List.any_map]
  congr 1
  funext p
  show ((p.1 : Int) == (k : Int)) = (p.1 == k)
  rw [Bool.eq_iff_iff, beq_iff_eq, beq_iff_eq]
  omega
theorem in_e (k : Nat) : dInF true (.int (k : Int)) (.list (R.map fun p => .int (p.1 : Int))) = some (.bool (!R.any fun q => q.1 == k)) := by
  show (if _ then _ else none) = _
  rw [if_pos ⟨rfl, by rw [List.all_map, List.all_eq_true]; exact fun _ _ => rfl⟩, if_pos rfl, any_cast]
theorem clean_e {o : SV} {k m : Nat} (hb : b.notOw = true) (hl : Last R m) (ne : ∀ p ∈ R, p.2 ≠ []) (srt : Srt R) (h : 3 * m + total R ≤ 250) (hk : k < m) : lb_law_3 (E2 R P (.sh (.int (k : Int))) b (.sh (iL (pageOf (cl R m k) m))) o t n s kd) g = some (.nx, E2 R P (.sh (.int (k : Int))) b (.sh (iL (pageOf (cl R m (k + 1)) m))) o t n s kd, g) := by
  have hc : compL (bTup 2 (bCons (bName 5) (bCons (bName 4) bNil))) mYes (mVar 5) (Pd.Env.wipe (E2 R P (.sh (.int (k : Int))) b (.sh (iL (pageOf (cl R m k) m))) o t n s kd) [5, 4]) (rowsD R) g = some (R.map fun p => .int (p.1 : Int), g) :=
    compL_mm (fun p : Row => PyData.tuple [.int (p.1 : Int), iL p.2]) (fun p => .int (p.1 : Int)) fun p _ => ⟨_, rfl, rfl⟩
  have hv : ([5, 4].all fun j => ((E2 R P (.sh (.int (k : Int))) b (.sh (iL (pageOf (cl R m k) m))) o t n s kd).at j).notOw) = true := by
    show (true && (b.notOw && true)) = true
    rw [hb]; rfl
  have ht : mOpT (dInF true) (mVar 3) (mL (mComp (mItL (mVar 2)) [5, 4] (bTup 2 (bCons (bName 5) (bCons (bName 4) bNil))) mYes (mVar 5))) (E2 R P (.sh (.int (k : Int))) b (.sh (iL (pageOf (cl R m k) m))) o t n s kd) g = some (!R.any fun q => q.1 == k, g) :=
    opT_e rfl (L_e (comp_e (itL_e rfl) hv hc)) (in_e k)
  by_cases hr : ∃ r, (k, r) ∈ R
  · obtain ⟨r, hr⟩ := hr
    have : (R.any fun q => q.1 == k) = true := List.any_eq_true.mpr ⟨_, hr, by simp⟩
    rw [this] at ht
    rw [cl_stay hr]
    exact set_e (mif_f ht rfl)
  · have hn : ∀ p ∈ R, p.1 ≠ k := fun p hp z => hr ⟨p.2, by rw [← z]; exact hp⟩
    have : (R.any fun q => q.1 == k) = false := by
      rw [List.any_eq_false]
      exact fun q hq z => hn q hq (eq_of_beq z)
    rw [this] at ht
    rcases hl with ⟨rfl, rfl⟩ | ⟨init, j, rl, rfl, rfl⟩
    · exact absurd hk (Nat.not_lt_zero _)
    · obtain ⟨i2, e2⟩ := cl_form srt k
      have V : Val (i2 ++ [(j, rl)]) (j + 1) := by
        rw [← e2]
        exact (fl_val ne (by omega)).filter _
      have hkj : k < j := by
        have : j ≠ k := hn (j, rl) (by simp)
        omega
      obtain ⟨r, hr⟩ := cl_has (R := init ++ [(j, rl)]) hk
      have hout := V.out hkj (r := r) (by rw [← e2]; exact hr)
      rw [cl_out hn]
      rw [← e2] at hout
      refine set_e (mif_t ht (call_e (cons_e rfl (cons_e rfl nil_e)) ?_))
      exact hout
end
end K53

namespace K53
open PySem Pd
theorem fault_nice (xs : List Int) : noDict (fault xs) = true ∧ (fault xs).depth ≤ 64 := by
  have hs : ∀ s : Str, noDict (.tuple [.str s]) = true ∧ (PyData.tuple [.str s]).depth ≤ 64 := fun s => ⟨rfl, Nat.le_of_ble_eq_true rfl⟩
  have h2 : ∀ (s : Str) (i : Int), noDict (.tuple [.str s, .int i]) = true ∧ (PyData.tuple [.str s, .int i]).depth ≤ 64 := fun s i => ⟨rfl, Nat.le_of_ble_eq_true rfl⟩
  unfold fault
  split
  · exact hs _
  · split
    · exact h2 _ _
    · split
      · exact hs _
      · split
        · exact h2 _ _
        · split
          · exact hs _
          · split
            · exact hs _
            · split
              · exact hs _
              · exact ⟨rfl, Nat.le_of_ble_eq_true rfl⟩
section
variable {R : List Row} {xs : List Int} {a b M o t : SV}
abbrev E4 (R : List Row) (xs : List Int) (a b M o t n s k : SV) : Pd.Env := E2 R (iL xs) a b M o t n s k
theorem at_ow {env : Pd.Env} {g : Dr} {xs : List Int} {j i : Nat} {k : Nat} (hi : env.at i = .sh (.int (k : Int))) (hj : env.at j = .ow (xs.map .int)) (hk : k < xs.length) : mIxOw j (mVar i) env g = some (.int (xs.getD k 0), g) :=
  ixOw_e (var_e hi) hj (L2.atI_nat (by rw [List.getElem?_map, get_of hk]; rfl))
theorem at_ow0 {env : Pd.Env} {g : Dr} {xs : List Int} {j : Nat} (hj : env.at j = .ow (xs.map .int)) (hk : 0 < xs.length) : mIxOw j (mC (.int 0)) env g = some (.int (xs.getD 0 0), g) :=
  ixOw_e rfl hj (L2.atI_nat (j := 0) (by rw [List.getElem?_map, get_of hk]; rfl))
/-- a list of numbers by a drawn place -/
theorem pick {vs : List Int} {g g1 g2 : Dr} {env : Pd.Env} {ml : ML Dr} {mb : ME Dr} {j : Int} (h : ml env g = some (vs.map .int, g1)) (hb : mb env g1 = some (.int j, g2)) (h0 : 0 ≤ j) (h1 : j < vs.length) : mOp dIx (mL ml) mb env g = some (.int (vs.getD j.toNat 0), g2) := by
  obtain ⟨k, rfl⟩ := Int.eq_ofNat_of_zero_le h0
  exact op_e (L_e h) hb (iL_get (get_of (by exact Int.ofNat_lt.mp h1)))
theorem getD_all {vs : List Int} {P : Int → Prop} {k : Nat} (h : ∀ v ∈ vs, P v) (hk : k < vs.length) : P (vs.getD k 0) := h _ (List.mem_of_getElem? (get_of hk))
abbrev bends : MS Dr := mIfS (mOpT dEq (mVar 13) (mC (.int 0)))
    (mSetIx 11 (mVar 12) (mOp dMod (mOp dAdd (mIxOw 11 (mVar 12)) (mC (.int 1))) (mC (.int 256))))
    (mIfS (mOpT dEq (mVar 13) (mC (.int 1)))
    (mSetIx 11 (mVar 12) (mOp dMod (mOp dAdd (mIxOw 11 (mVar 12)) (mC (.int 255))) (mC (.int 256))))
    (mIfS (mOpT dEq (mVar 13) (mC (.int 2)))
    (mSetIx 11 (mVar 12) (mOp dIx (mL (mLst (mCons (mC (.int 256)) (mCons (mOp dSub (mC (.int 0)) (mC (.int 1))) (mCons (mC (.int 255)) (mCons (mC (.int 0)) mNil)))))) (mCallG drawA (gConsS 1 (gCons (mC (.int 4)) gNil)))))
    (mIfS (mOpT dEq (mVar 13) (mC (.int 3)))
    (mSetF 11 (mIf (mOpT dEq (mCallG drawA (gConsS 1 (gCons (mC (.int 2)) gNil))) (mC (.int 0))) (mSlOw 11 (mPart (mC (.int 1))) mNo) (mCatOw 11 (mL (mLst (mCons (mC (.int 0)) mNil))))))
    (mIfS (mOpT dEq (mVar 13) (mC (.int 4)))
    (mSetIx 11 (mC (.int 0)) (mOp dAdd (mIxOw 11 (mC (.int 0))) (mC (.int 1))))
    (mSetIx 11 (mOp dAdd (mC (.int 2)) (mCallG drawA (gConsS 1 (gCons (mC (.int 12)) gNil)))) (mCallG drawA (gConsS 1 (gCons (mC (.int 256)) gNil))))))))
theorem bend_e (g : Dr) (hx : xs.length = 256) {k : Nat} (hk : k < 256) {d : Int} (hd : 0 ≤ d ∧ d < 6) : ∃ (ys : List Int) (g' : Dr), ys.length ≤ 1000 ∧ bends (E4 R xs a b M o t (.ow (xs.map .int)) (.sh (.int (k : Int))) (.sh (.int d))) g = some (.nx, E4 R xs a b M o t (.ow (ys.map .int)) (.sh (.int (k : Int))) (.sh (.int d)), g') := by
  have c : d = 0 ∨ d = 1 ∨ d = 2 ∨ d = 3 ∨ d = 4 ∨ d = 5 := by omega
  rcases c with rfl | rfl | rfl | rfl | rfl | rfl
  · exact ⟨_, g, by rw [List.length_set]; omega, if_t (opT_e rfl rfl rfl) (setIx_iL (op_e (op_e (at_ow rfl rfl (by omega)) rfl rfl) rfl (mod_e (by decide))) rfl rfl (by omega))⟩
  · exact ⟨_, g, by rw [List.length_set]; omega, if_f (opT_e rfl rfl rfl) (if_t (opT_e rfl rfl rfl) (setIx_iL (op_e (op_e (at_ow rfl rfl (by omega)) rfl rfl) rfl (mod_e (by decide))) rfl rfl (by omega)))⟩
  · obtain ⟨j, g1, e1, j0, j1⟩ := drawn g 1 (m := 4) (by decide) (e := E4 R xs a b M o t (.ow (xs.map .int)) (.sh (.int (k : Int))) (.sh (.int 2))) rfl
    exact ⟨_, g1, by rw [List.length_set]; omega, if_f (opT_e rfl rfl rfl) (if_f (opT_e rfl rfl rfl) (if_t (opT_e rfl rfl rfl) (setIx_iL (pick (vs := [256, -1, 255, 0]) (lst_e (cons_e rfl (cons_e rfl (cons_e rfl (cons_e rfl nil_e))))) e1 j0 j1) rfl rfl (by omega))))⟩
  · obtain ⟨j, g1, e1, j0, j1⟩ := drawn g 1 (m := 2) (by decide) (e := E4 R xs a b M o t (.ow (xs.map .int)) (.sh (.int (k : Int))) (.sh (.int 3))) rfl
    by_cases z : j = 0
    · refine ⟨xs.drop 1, g1, by rw [List.length_drop]; omega, if_f (opT_e rfl rfl rfl) (if_f (opT_e rfl rfl rfl) (if_f (opT_e rfl rfl rfl) (if_t (opT_e rfl rfl rfl) ((setF_e (mif_t (opT_e e1 rfl (eq_it z)) (slOw_e (part_e rfl) rfl rfl))).trans ?_))))⟩
      have : cut (xs.map PyData.int) (some 1) none = (xs.drop 1).map PyData.int := by rw [List.map_drop]; exact cut_from (xs.map PyData.int) 1
      rw [this]
      rfl
    · refine ⟨xs ++ [0], g1, by rw [List.length_append, hx]; decide, if_f (opT_e rfl rfl rfl) (if_f (opT_e rfl rfl rfl) (if_f (opT_e rfl rfl rfl) (if_t (opT_e rfl rfl rfl) ((setF_e (mif_f (opT_e e1 rfl (eq_if z)) (catOw_e (L_e (lst_e (cons_e rfl nil_e))) rfl ?_))).trans ?_))))⟩
      · rw [List.length_map, hx, line_val]; decide
      · rw [List.map_append]
        rfl
  · exact ⟨_, g, by rw [List.length_set]; omega, if_f (opT_e rfl rfl rfl) (if_f (opT_e rfl rfl rfl) (if_f (opT_e rfl rfl rfl) (if_f (opT_e rfl rfl rfl) (if_t (opT_e rfl rfl rfl) (setIx_iL (k := 0) (op_e (at_ow0 rfl (by omega)) rfl rfl) rfl rfl (by omega))))))⟩
  · obtain ⟨v, g1, e1, v0, v1⟩ := drawn g 1 (m := 256) (by decide) (e := E4 R xs a b M o t (.ow (xs.map .int)) (.sh (.int (k : Int))) (.sh (.int 5))) rfl
    obtain ⟨j, g2, e2, j0, j1⟩ := drawn g1 1 (m := 12) (by decide) (e := E4 R xs a b M o t (.ow (xs.map .int)) (.sh (.int (k : Int))) (.sh (.int 5))) rfl
    obtain ⟨i, rfl⟩ := Int.eq_ofNat_of_zero_le j0
    exact ⟨_, g2, by rw [List.length_set]; omega, if_f (opT_e rfl rfl rfl) (if_f (opT_e rfl rfl rfl) (if_f (opT_e rfl rfl rfl) (if_f (opT_e rfl rfl rfl) (if_f (opT_e rfl rfl rfl) (setIx_iL (k := 2 + i) e1 (op_e rfl e2 (congrArg (fun z => some (PyData.int z)) (by omega))) rfl (by omega))))))⟩
theorem turn_e (g : Dr) {n s k : SV} (hx : xs.length = 256) (ha : a.notOw = true) (hb : b.notOw = true) (hM : M.notOw = true) (ho : o.notOw = true) (ht : t.notOw = true) : ∃ n' s' k' g', lb_law_4 (E4 R xs a b M o t n s k) g = some (.nx, E4 R xs a b M o t n' s' k', g') := by
  obtain ⟨c, g1, e1, c0, c1⟩ := drawn g 1 (m := 256) (by decide) (e := E4 R xs a b M o t (.ow (xs.map .int)) s k) rfl
  obtain ⟨j, g2, e2, j0, j1⟩ := drawn g1 1 (m := 7) (by decide) (e := E4 R xs a b M o t (.ow (xs.map .int)) s k) rfl
  have hp := pick (ml := mLst (mCons (mC (.int 0)) (mCons (mC (.int 1)) (mCons (mC (.int 2)) (mCons (mC (.int 3)) (mCons (mC (.int 4)) (mCons (mC (.int 5)) (mCons (mCallG drawA (gConsS 1 (gCons (mC (.int 256)) gNil))) mNil)))))))) (vs := [0, 1, 2, 3, 4, 5, c]) (lst_e (cons_e rfl (cons_e rfl (cons_e rfl (cons_e rfl (cons_e rfl (cons_e rfl (cons_e e1 nil_e)))))))) e2 j0 j1
  have hP : 0 ≤ [0, 1, 2, 3, 4, 5, c].getD j.toNat 0 ∧ [0, 1, 2, 3, 4, 5, c].getD j.toNat 0 < 256 := getD_all (P := fun v => 0 ≤ v ∧ v < 256) (fun v hv => by
    simp only [List.mem_cons, List.not_mem_nil, or_false] at hv
    omega) (by show j.toNat < 7; omega)
  generalize [0, 1, 2, 3, 4, 5, c].getD j.toNat 0 = z at hp hP
  obtain ⟨q, rfl⟩ := Int.eq_ofNat_of_zero_le hP.1
  obtain ⟨d, g3, e3, d0, d1⟩ := drawn g2 1 (m := 6) (by decide) (e := E4 R xs a b M o t (.ow (xs.map .int)) (.sh (.int (q : Int))) k) rfl
  obtain ⟨ys, g4, hy, e4⟩ := bend_e (R := R) (xs := xs) (a := a) (b := b) (M := M) (o := o) (t := t) g3 hx (k := q) (by omega) (d := d) ⟨d0, d1⟩
  refine ⟨.ow (ys.map .int), _, _, g4, seq_nx (setF_e (callF_e (cons_e rfl nil_e) rfl)) (seq_nx (set_e hp) (seq_nx (set_e e3) (seq_nx e4 (if_no (lendT_e ?_ (opT_e (x := fault ys) (y := fault ys) (call_e (cons_e rfl nil_e) ?_) (call_e (cons_e rfl nil_e) ?_) (ne_self (fault_nice ys).1 (fault_nice ys).2)))))))⟩
  · show (true && (true && (true && (a.notOw && (b.notOw && (true && (true && (true && (M.notOw && (o.notOw && (t.notOw && (true && (true && (true && true)))))))))))))) = true
    rw [ha, hb, hM, ho, ht]
    rfl
  · exact page_fault_e ys hy
  · exact law_fault_e ys hy
end
end K53

namespace K53
open PySem Pd
theorem val_nil : Val [] 0 where
  hs := fun _ h => nomatch h
  hz := Nat.zero_le _
  srt := List.Pairwise.nil
  ne := fun _ h => nomatch h
theorem page_nil : (List.replicate 256 (0 : Int)) = pageOf [] 0 := rfl
theorem law_true (g : Dr) : ∃ e g1, m_law (lawE n_law.length 1) g = some (.re (.bool true), e, g1) := by
  show Tr m_law (lawE n_law.length 1) g
  refine tr_seq (setF_e (lst_e nil_e)) ?_
  change Tr _ (E1 [] .un .un) g
  obtain ⟨j, g1, e1, j0, j1⟩ := drawn g 1 (m := 7) (by decide) (e := E1 [] .un .un) rfl
  obtain ⟨e2, g2, h2, R, a, b, rfl, ok, hb, ha⟩ := loop_at (bt := bName 3) (mb := lb_law_1) (fun i e _ => ∃ R a b, e = E1 R a b ∧ ROk R i ∧ b.notOw = true ∧ a.notOw = true) (ds := rng 0 j.toNat) (k := 0) (env := E1 [] .un .un) (g := g1)
    ⟨[], .un, .un, rfl, ⟨(fun _ h => nomatch h), List.Pairwise.nil, (fun _ h => nomatch h), (fun _ h => nomatch h), fun init t r h => by cases init <;> cases h⟩, rfl, rfl⟩ (by
    rintro i d hd env g' ⟨R, a, b, rfl, ok, hb, _⟩
    rw [rng0, List.getElem?_map, Option.map_eq_some_iff] at hd
    obtain ⟨k, hk, rfl⟩ := hd
    obtain ⟨h1, h2⟩ := List.getElem?_eq_some_iff.mp hk
    rw [List.getElem_range] at h2
    subst h2
    rw [Nat.zero_add] at ok ⊢
    obtain ⟨R', b', g3, e3, ok', hb'⟩ := collect_e g' (b := b) ok
    exact ⟨_, rfl, _, g3, .inl e3, R', _, b', rfl, ok', hb', rfl⟩)
  rw [rng_len, Nat.zero_add] at ok
  refine tr_seq (for_e (rng1_e (cons_e e1 nil_e) (by omega)) h2) ?_
  obtain ⟨n, hl⟩ := last_ex R
  have hlt := hl.lt ok.srt
  have hbd := hl.bnd ok (by omega)
  have V : Val R n := ⟨hlt, by omega, ok.srt, ok.ne⟩
  refine tr_seq (frz_e (set_e (d := iL (pageOf R n)) (call_e (xs := [.list (rowsD R), .int (n : Int)]) (cons_e rfl (cons_e (cnt_e rfl hl) nil_e)) ?hlaid))) ?_
  case hlaid => exact llaid_e V.hs V.hz
  change Tr _ (E2 R (iL (pageOf R n)) a b .un .un .un .un .un .un) g2
  have flt : fault (pageOf R n) = .none := V.faultless ok.by_ (by
    rcases hl with ⟨h, h'⟩ | ⟨init, m, rl, h, h'⟩
    · exact .inl h'
    · exact .inr ⟨init, rl, by rw [h, h']; rfl⟩)
  have flt0 : fault (pageOf [] 0) = .none := val_nil.faultless (fun _ h => nomatch h) (.inl rfl)
  have pf : F_page_fault [iL (pageOf R n)] = some .none := by rw [page_fault_e _ (by rw [V.len]; decide), flt]
  have lf : F__law_fault [iL (pageOf R n)] = some .none := by rw [law_fault_e _ (by rw [V.len]; decide), flt]
  have pf0 : F_page_fault [iL (pageOf [] 0)] = some .none := by rw [page_fault_e _ (by rw [val_nil.len]; decide), flt0]
  refine tr_seq (if_no (or_f (opT_e (x := .none) (call_e (cons_e rfl nil_e) ?p1) rfl rfl) (or_f (opT_e (x := .none) (call_e (cons_e rfl nil_e) ?p2) rfl rfl) (opT_e (x := .none) (call_e (xs := [iL (pageOf [] 0)]) (cons_e (L_e (callF_e nil_e empty_e)) nil_e) ?p3) rfl rfl)))) ?_
  case p1 => exact pf
  case p2 => exact lf
  case p3 => exact pf0
  refine tr_seq (set_e (d := iL (pageOf [] 0)) (L_e (callF_e nil_e empty_e))) ?_
  change Tr _ (E2 R (iL (pageOf R n)) a b (.sh (iL (pageOf [] 0))) .un .un .un .un .un) g2
  obtain ⟨e3, g3, h3, a3, o3, rfl, rfl, ho3, ha3⟩ := loop_at (bt := bName 3) (mb := lb_law_2) (fun i e g' => ∃ (a o : SV), e = E2 R (iL (pageOf R n)) a b (.sh (iL (pageOf (fl R i) i))) o .un .un .un .un ∧ g' = g2 ∧ o.notOw = true ∧ a.notOw = true) (ds := rng 0 n) (k := 0) (env := E2 R (iL (pageOf R n)) a b (.sh (iL (pageOf [] 0))) .un .un .un .un .un) (g := g2)
    ⟨a, .un, rfl, rfl, rfl, ha⟩ (by
    rintro i d hd env g' ⟨a, o, rfl, rfl, ho, _⟩
    rw [rng0, List.getElem?_map, Option.map_eq_some_iff] at hd
    obtain ⟨k, hk, rfl⟩ := hd
    obtain ⟨h1, h2⟩ := List.getElem?_eq_some_iff.mp hk
    rw [List.getElem_range] at h2
    subst h2
    rw [List.length_range] at h1
    rw [Nat.zero_add]
    obtain ⟨o', ho', e3⟩ := make_e (g := g') (P := iL (pageOf R n)) (t := .un) (n := .un) (s := .un) (kd := .un) ho hb ok.ne (k := i) (by omega)
    exact ⟨_, rfl, _, g', .inl e3, _, o', rfl, rfl, ho', rfl⟩)
  rw [rng_len, Nat.zero_add] at h3
  refine tr_seq (for_e (rng1_e (j := (n : Int)) (cons_e (cnt_e rfl hl) nil_e) (by omega)) (by rw [Int.toNat_natCast]; exact h3)) ?_
  obtain ⟨e4, g4, h4, a4, rfl, rfl, ha4⟩ := loop_at (bt := bName 3) (mb := lb_law_3) (fun i e g' => ∃ a : SV, e = E2 R (iL (pageOf R n)) a b (.sh (iL (pageOf (cl R n i) n))) o3 .un .un .un .un ∧ g' = g3 ∧ a.notOw = true) (ds := rng 0 n) (k := 0) (env := E2 R (iL (pageOf R n)) a3 b (.sh (iL (pageOf (fl R n) n))) o3 .un .un .un .un) (g := g3)
    ⟨a3, by rw [cl_zero], rfl, ha3⟩ (by
    rintro i d hd env g' ⟨a, rfl, rfl, _⟩
    rw [rng0, List.getElem?_map, Option.map_eq_some_iff] at hd
    obtain ⟨k, hk, rfl⟩ := hd
    obtain ⟨h1, h2⟩ := List.getElem?_eq_some_iff.mp hk
    rw [List.getElem_range] at h2
    subst h2
    rw [List.length_range] at h1
    rw [Nat.zero_add]
    exact ⟨_, rfl, _, g', .inl (clean_e hb hl ok.ne ok.srt (by omega) h1), _, rfl, rfl, rfl⟩)
  rw [rng_len, Nat.zero_add, cl_end ok.srt hlt] at h4
  refine tr_seq (for_e (rng1_e (j := (n : Int)) (cons_e (cnt_e rfl hl) nil_e) (by omega)) (by rw [Int.toNat_natCast]; exact h4)) ?_
  refine tr_seq (if_no (opT_e rfl rfl ((ne_iL _ _).trans (by simp)))) ?_
  obtain ⟨e5, g5, h5, _⟩ := loop_inv (bt := bName 10) (mb := lb_law_4) (fun e g' => ∃ t n' s k : SV, e = E4 R (pageOf R n) a4 b (.sh (iL (pageOf R n))) o3 t n' s k ∧ t.notOw = true) (ds := rng 0 12) (env := E2 R (iL (pageOf R n)) a4 b (.sh (iL (pageOf R n))) o3 .un .un .un .un) (g := g4)
    ⟨.un, .un, .un, .un, rfl, rfl⟩ (by
    rintro x hx e g' ⟨t, n', s, k, rfl, _⟩
    obtain ⟨n2, s2, k2, g6, e6⟩ := turn_e (R := R) (xs := pageOf R n) (a := a4) (b := b) (M := .sh (iL (pageOf R n))) (o := o3) (t := .sh x) g' (n := n') (s := s) (k := k) V.len ha4 hb rfl ho3 rfl
    exact ⟨_, rfl, _, g6, .inl e6, _, _, _, _, rfl, rfl⟩)
  refine tr_seq (for_e (rng1_e (j := 12) (cons_e rfl nil_e) (by decide)) h5) ?_
  exact tr_ret rfl
end K53

namespace K53
open PySem PySem.Spec L2 Pd
section
variable {P : Program} {wd : World} {K : PySem.W.Frag} {mg : Str → Option Value} {base : Heap}
theorem ok_law {f : Addr} {fd : FuncData} (F : Fun K "law" "law" s_law f fd) (T : Txt K mg) : FnOk P wd K mg base CX0 5 f fd ["script"] (spLaw K) := by
  refine F.ok sc_law (fun vs H Q E h => ?_) (fun cdv A outer s H vs Q E hr h => ?_)
  · obtain ⟨a, ns, rfl, _⟩ := h
    rfl
  · obtain ⟨a, ns, rfl, hS, hl, kk⟩ := h
    obtain ⟨f1, fd1, F1, hm, hk, hB⟩ := (ok__law_state T).ex
    refine ⟨_, pss_cons (ps_set (i := 1) sc_law.nd rfl (by first | exact Or.inl rfl | exact Or.inr rfl) (pe_call F1 (hr.mono (by decide)) rfl hm hk hB .nil pass0 (pa_cons (pv 0) pa_nil))) (body_law T f cdv A outer s H E hr), ?_⟩
    exact ⟨_, rfl, a, ns, rfl, hS, hl, fun g H' _ _ ok _ => law_start (N := n_law.length) (i := 1) rfl rfl ok (law_true g) fun H' => kk H'⟩
end
theorem all_mk {l : PySem.W.OpenLaw} {w : World} {K : PySem.W.Frag} {h : Heap} {mg : Str → Option Value} {fa : Addr} (X : K.In h) (G : h.Ns mainGlobals mg) (hfa : mg "law" = some (.ref fa))
    {tk0 : Tok}
    {tk1 : Tok}
    {f0 : Addr} {od0 an0 : Option Addr} {sl0 : Array (Option Value)} {oc0 kV0 dc0 pm0 cd0 ct0 : Value}
    {f1 : Addr} {od1 an1 : Option Addr} {sl1 : Array (Option Value)} {oc1 kV1 dc1 pm1 cd1 ct1 : Value}
    {f2 : Addr} {od2 an2 : Option Addr} {sl2 : Array (Option Value)} {oc2 kV2 dc2 pm2 cd2 ct2 : Value}
    {f3 : Addr} {od3 an3 : Option Addr} {sl3 : Array (Option Value)} {oc3 kV3 dc3 pm3 cd3 ct3 : Value}
    {f4 : Addr} {od4 an4 : Option Addr} {sl4 : Array (Option Value)} {oc4 kV4 dc4 pm4 cd4 ct4 : Value}
    {f5 : Addr} {od5 an5 : Option Addr} {sl5 : Array (Option Value)} {oc5 kV5 dc5 pm5 cd5 ct5 : Value}
    {f6 : Addr} {od6 an6 : Option Addr} {sl6 : Array (Option Value)} {oc6 kV6 dc6 pm6 cd6 ct6 : Value}
    {f7 : Addr} {od7 an7 : Option Addr} {sl7 : Array (Option Value)} {oc7 kV7 dc7 pm7 cd7 ct7 : Value}
    {f8 : Addr} {od8 an8 : Option Addr} {sl8 : Array (Option Value)} {oc8 kV8 dc8 pm8 cd8 ct8 : Value}
    {f9 : Addr} {od9 an9 : Option Addr} {sl9 : Array (Option Value)} {oc9 kV9 dc9 pm9 cd9 ct9 : Value}
    {f10 : Addr} {od10 an10 : Option Addr} {sl10 : Array (Option Value)} {oc10 kV10 dc10 pm10 cd10 ct10 : Value}
    {f11 : Addr} {od11 an11 : Option Addr} {sl11 : Array (Option Value)} {oc11 kV11 dc11 pm11 cd11 ct11 : Value}
    {f12 : Addr} {od12 an12 : Option Addr} {sl12 : Array (Option Value)} {oc12 kV12 dc12 pm12 cd12 ct12 : Value}
    {f13 : Addr} {od13 an13 : Option Addr} {sl13 : Array (Option Value)} {oc13 kV13 dc13 pm13 cd13 ct13 : Value}
    {f14 : Addr} {od14 an14 : Option Addr} {sl14 : Array (Option Value)} {oc14 kV14 dc14 pm14 cd14 ct14 : Value}
    {f15 : Addr} {od15 an15 : Option Addr} {sl15 : Array (Option Value)} {oc15 kV15 dc15 pm15 cd15 ct15 : Value}
    {f16 : Addr} {od16 an16 : Option Addr} {sl16 : Array (Option Value)} {oc16 kV16 dc16 pm16 cd16 ct16 : Value}
    {f17 : Addr} {od17 an17 : Option Addr} {sl17 : Array (Option Value)} {oc17 kV17 dc17 pm17 cd17 ct17 : Value}
    (e0 : PySem.W.nsIn K mainGlobals "AHEAD" = some (some (.int 2 tk0)))
    (e1 : PySem.W.nsIn K mainGlobals "SIZE" = some (some (.int 256 tk1)))
    (a0 : PySem.W.nsIn K mainGlobals "empty_page" = some (some (.ref f0))) (l0 : K.lookup f0 = some ⟨oc0, od0, .func (PySem.W.fnOf "empty_page" "empty_page" (defArgs s_empty_page) (defBody s_empty_page) (defScope s_empty_page) .none kV0 dc0 pm0 an0 cd0 ct0), sl0⟩) (c0 : PySem.W.codeIn K cd0 "empty_page" = true) (k0 : PySem.W.keepIn K (.ref f0) = true)
    (a1 : PySem.W.nsIn K mainGlobals "slots_in" = some (some (.ref f1))) (l1 : K.lookup f1 = some ⟨oc1, od1, .func (PySem.W.fnOf "slots_in" "slots_in" (defArgs s_slots_in) (defBody s_slots_in) (defScope s_slots_in) .none kV1 dc1 pm1 an1 cd1 ct1), sl1⟩) (c1 : PySem.W.codeIn K cd1 "slots_in" = true) (k1 : PySem.W.keepIn K (.ref f1) = true)
    (a2 : PySem.W.nsIn K mainGlobals "slot_of" = some (some (.ref f2))) (l2 : K.lookup f2 = some ⟨oc2, od2, .func (PySem.W.fnOf "slot_of" "slot_of" (defArgs s_slot_of) (defBody s_slot_of) (defScope s_slot_of) .none kV2 dc2 pm2 an2 cd2 ct2), sl2⟩) (c2 : PySem.W.codeIn K cd2 "slot_of" = true) (k2 : PySem.W.keepIn K (.ref f2) = true)
    (a3 : PySem.W.nsIn K mainGlobals "row_in" = some (some (.ref f3))) (l3 : K.lookup f3 = some ⟨oc3, od3, .func (PySem.W.fnOf "row_in" "row_in" (defArgs s_row_in) (defBody s_row_in) (defScope s_row_in) .none kV3 dc3 pm3 an3 cd3 ct3), sl3⟩) (c3 : PySem.W.codeIn K cd3 "row_in" = true) (k3 : PySem.W.keepIn K (.ref f3) = true)
    (a4 : PySem.W.nsIn K mainGlobals "rows_in" = some (some (.ref f4))) (l4 : K.lookup f4 = some ⟨oc4, od4, .func (PySem.W.fnOf "rows_in" "rows_in" (defArgs s_rows_in) (defBody s_rows_in) (defScope s_rows_in) .none kV4 dc4 pm4 an4 cd4 ct4), sl4⟩) (c4 : PySem.W.codeIn K cd4 "rows_in" = true) (k4 : PySem.W.keepIn K (.ref f4) = true)
    (a5 : PySem.W.nsIn K mainGlobals "laid" = some (some (.ref f5))) (l5 : K.lookup f5 = some ⟨oc5, od5, .func (PySem.W.fnOf "laid" "laid" (defArgs s_laid) (defBody s_laid) (defScope s_laid) .none kV5 dc5 pm5 an5 cd5 ct5), sl5⟩) (c5 : PySem.W.codeIn K cd5 "laid" = true) (k5 : PySem.W.keepIn K (.ref f5) = true)
    (a6 : PySem.W.nsIn K mainGlobals "first_free" = some (some (.ref f6))) (l6 : K.lookup f6 = some ⟨oc6, od6, .func (PySem.W.fnOf "first_free" "first_free" (defArgs s_first_free) (defBody s_first_free) (defScope s_first_free) .none kV6 dc6 pm6 an6 cd6 ct6), sl6⟩) (c6 : PySem.W.codeIn K cd6 "first_free" = true) (k6 : PySem.W.keepIn K (.ref f6) = true)
    (a7 : PySem.W.nsIn K mainGlobals "used_in" = some (some (.ref f7))) (l7 : K.lookup f7 = some ⟨oc7, od7, .func (PySem.W.fnOf "used_in" "used_in" (defArgs s_used_in) (defBody s_used_in) (defScope s_used_in) .none kV7 dc7 pm7 an7 cd7 ct7), sl7⟩) (c7 : PySem.W.codeIn K cd7 "used_in" = true) (k7 : PySem.W.keepIn K (.ref f7) = true)
    (a8 : PySem.W.nsIn K mainGlobals "room_in" = some (some (.ref f8))) (l8 : K.lookup f8 = some ⟨oc8, od8, .func (PySem.W.fnOf "room_in" "room_in" (defArgs s_room_in) (defBody s_room_in) (defScope s_room_in) .none kV8 dc8 pm8 an8 cd8 ct8), sl8⟩) (c8 : PySem.W.codeIn K cd8 "room_in" = true) (k8 : PySem.W.keepIn K (.ref f8) = true)
    (a9 : PySem.W.nsIn K mainGlobals "put_in" = some (some (.ref f9))) (l9 : K.lookup f9 = some ⟨oc9, od9, .func (PySem.W.fnOf "put_in" "put_in" (defArgs s_put_in) (defBody s_put_in) (defScope s_put_in) .none kV9 dc9 pm9 an9 cd9 ct9), sl9⟩) (c9 : PySem.W.codeIn K cd9 "put_in" = true) (k9 : PySem.W.keepIn K (.ref f9) = true)
    (a10 : PySem.W.nsIn K mainGlobals "taken_out" = some (some (.ref f10))) (l10 : K.lookup f10 = some ⟨oc10, od10, .func (PySem.W.fnOf "taken_out" "taken_out" (defArgs s_taken_out) (defBody s_taken_out) (defScope s_taken_out) .none kV10 dc10 pm10 an10 cd10 ct10), sl10⟩) (c10 : PySem.W.codeIn K cd10 "taken_out" = true) (k10 : PySem.W.keepIn K (.ref f10) = true)
    (a11 : PySem.W.nsIn K mainGlobals "page_fault" = some (some (.ref f11))) (l11 : K.lookup f11 = some ⟨oc11, od11, .func (PySem.W.fnOf "page_fault" "page_fault" (defArgs s_page_fault) (defBody s_page_fault) (defScope s_page_fault) .none kV11 dc11 pm11 an11 cd11 ct11), sl11⟩) (c11 : PySem.W.codeIn K cd11 "page_fault" = true) (k11 : PySem.W.keepIn K (.ref f11) = true)
    (a12 : PySem.W.nsIn K mainGlobals "_law_state" = some (some (.ref f12))) (l12 : K.lookup f12 = some ⟨oc12, od12, .func (PySem.W.fnOf "_law_state" "_law_state" (defArgs s__law_state) (defBody s__law_state) (defScope s__law_state) .none kV12 dc12 pm12 an12 cd12 ct12), sl12⟩) (c12 : PySem.W.codeIn K cd12 "_law_state" = true) (k12 : PySem.W.keepIn K (.ref f12) = true)
    (a13 : PySem.W.nsIn K mainGlobals "_law_take" = some (some (.ref f13))) (l13 : K.lookup f13 = some ⟨oc13, od13, .func (PySem.W.fnOf "_law_take" "_law_take" (defArgs s__law_take) (defBody s__law_take) (defScope s__law_take) .none kV13 dc13 pm13 an13 cd13 ct13), sl13⟩) (c13 : PySem.W.codeIn K cd13 "_law_take" = true) (k13 : PySem.W.keepIn K (.ref f13) = true)
    (a14 : PySem.W.nsIn K mainGlobals "_law_laid" = some (some (.ref f14))) (l14 : K.lookup f14 = some ⟨oc14, od14, .func (PySem.W.fnOf "_law_laid" "_law_laid" (defArgs s__law_laid) (defBody s__law_laid) (defScope s__law_laid) .none kV14 dc14 pm14 an14 cd14 ct14), sl14⟩) (c14 : PySem.W.codeIn K cd14 "_law_laid" = true) (k14 : PySem.W.keepIn K (.ref f14) = true)
    (a15 : PySem.W.nsIn K mainGlobals "_law_row" = some (some (.ref f15))) (l15 : K.lookup f15 = some ⟨oc15, od15, .func (PySem.W.fnOf "_law_row" "_law_row" (defArgs s__law_row) (defBody s__law_row) (defScope s__law_row) .none kV15 dc15 pm15 an15 cd15 ct15), sl15⟩) (c15 : PySem.W.codeIn K cd15 "_law_row" = true) (k15 : PySem.W.keepIn K (.ref f15) = true)
    (a16 : PySem.W.nsIn K mainGlobals "_law_fault" = some (some (.ref f16))) (l16 : K.lookup f16 = some ⟨oc16, od16, .func (PySem.W.fnOf "_law_fault" "_law_fault" (defArgs s__law_fault) (defBody s__law_fault) (defScope s__law_fault) .none kV16 dc16 pm16 an16 cd16 ct16), sl16⟩) (c16 : PySem.W.codeIn K cd16 "_law_fault" = true) (k16 : PySem.W.keepIn K (.ref f16) = true)
    (a17 : PySem.W.nsIn K mainGlobals "law" = some (some (.ref f17))) (l17 : K.lookup f17 = some ⟨oc17, od17, .func (PySem.W.fnOf "law" "law" (defArgs s_law) (defBody s_law) (defScope s_law) .none kV17 dc17 pm17 an17 cd17 ct17), sl17⟩) (c17 : PySem.W.codeIn K cd17 "law" = true) (k17 : PySem.W.keepIn K (.ref f17) = true)
    (z0 : PySem.W.nsIn K mainGlobals "abs" = some none)
    (z1 : PySem.W.nsIn K mainGlobals "any" = some none)
    (z2 : PySem.W.nsIn K mainGlobals "enumerate" = some none)
    (z3 : PySem.W.nsIn K mainGlobals "int" = some none)
    (z4 : PySem.W.nsIn K mainGlobals "len" = some none)
    (z5 : PySem.W.nsIn K mainGlobals "list" = some none)
    (z6 : PySem.W.nsIn K mainGlobals "max" = some none)
    (z7 : PySem.W.nsIn K mainGlobals "min" = some none)
    (z8 : PySem.W.nsIn K mainGlobals "range" = some none)
    (z9 : PySem.W.nsIn K mainGlobals "sorted" = some none)
    (z10 : PySem.W.nsIn K mainGlobals "sum" = some none) :
    ∃ fd : FuncData, (∀ (s : Shared) (v : Value), BindsTo s fd ⟨[v], []⟩ [("script", v)]) ∧ ∀ base : Heap, K.In base → base.Ns mainGlobals mg → FnOk l.prog w K mg base CX0 5 fa fd ["script"] (spLaw K) := by
  have e := hfa.symm.trans (PySem.W.mg_of X G a17)
  cases e
  have F0 := fun_mk (st := s_empty_page) l0 c0 k0
  have F1 := fun_mk (st := s_slots_in) l1 c1 k1
  have F2 := fun_mk (st := s_slot_of) l2 c2 k2
  have F3 := fun_mk (st := s_row_in) l3 c3 k3
  have F4 := fun_mk (st := s_rows_in) l4 c4 k4
  have F5 := fun_mk (st := s_laid) l5 c5 k5
  have F6 := fun_mk (st := s_first_free) l6 c6 k6
  have F7 := fun_mk (st := s_used_in) l7 c7 k7
  have F8 := fun_mk (st := s_room_in) l8 c8 k8
  have F9 := fun_mk (st := s_put_in) l9 c9 k9
  have F10 := fun_mk (st := s_taken_out) l10 c10 k10
  have F11 := fun_mk (st := s_page_fault) l11 c11 k11
  have F12 := fun_mk (st := s__law_state) l12 c12 k12
  have F13 := fun_mk (st := s__law_take) l13 c13 k13
  have F14 := fun_mk (st := s__law_laid) l14 c14 k14
  have F15 := fun_mk (st := s__law_row) l15 c15 k15
  have F16 := fun_mk (st := s__law_fault) l16 c16 k16
  have T : Txt K mg := ⟨⟨⟨f0, _, F0, PySem.W.mg_of X G a0, F0.binds (ps := []) fun _ _ _ _ _ _ us hl => match us, hl with | [], _ => rfl⟩⟩,
    ⟨⟨f1, _, F1, PySem.W.mg_of X G a1, F1.binds (ps := ["page"]) fun _ _ _ _ _ _ us hl => match us, hl with | [_], _ => rfl⟩⟩,
    ⟨⟨f2, _, F2, PySem.W.mg_of X G a2, F2.binds (ps := ["page", "slot"]) fun _ _ _ _ _ _ us hl => match us, hl with | [_, _], _ => rfl⟩⟩,
    ⟨⟨f3, _, F3, PySem.W.mg_of X G a3, F3.binds (ps := ["page", "slot"]) fun _ _ _ _ _ _ us hl => match us, hl with | [_, _], _ => rfl⟩⟩,
    ⟨⟨f4, _, F4, PySem.W.mg_of X G a4, F4.binds (ps := ["page"]) fun _ _ _ _ _ _ us hl => match us, hl with | [_], _ => rfl⟩⟩,
    ⟨⟨f5, _, F5, PySem.W.mg_of X G a5, F5.binds (ps := ["rows", "slots"]) fun _ _ _ _ _ _ us hl => match us, hl with | [_, _], _ => rfl⟩⟩,
    ⟨⟨f6, _, F6, PySem.W.mg_of X G a6, F6.binds (ps := ["page"]) fun _ _ _ _ _ _ us hl => match us, hl with | [_], _ => rfl⟩⟩,
    ⟨⟨f7, _, F7, PySem.W.mg_of X G a7, F7.binds (ps := ["page"]) fun _ _ _ _ _ _ us hl => match us, hl with | [_], _ => rfl⟩⟩,
    ⟨⟨f8, _, F8, PySem.W.mg_of X G a8, F8.binds (ps := ["page"]) fun _ _ _ _ _ _ us hl => match us, hl with | [_], _ => rfl⟩⟩,
    ⟨⟨f9, _, F9, PySem.W.mg_of X G a9, F9.binds (ps := ["page", "row"]) fun _ _ _ _ _ _ us hl => match us, hl with | [_, _], _ => rfl⟩⟩,
    ⟨⟨f10, _, F10, PySem.W.mg_of X G a10, F10.binds (ps := ["page", "slot"]) fun _ _ _ _ _ _ us hl => match us, hl with | [_, _], _ => rfl⟩⟩,
    ⟨⟨f11, _, F11, PySem.W.mg_of X G a11, F11.binds (ps := ["page"]) fun _ _ _ _ _ _ us hl => match us, hl with | [_], _ => rfl⟩⟩,
    ⟨⟨f12, _, F12, PySem.W.mg_of X G a12, F12.binds (ps := ["script"]) fun _ _ _ _ _ _ us hl => match us, hl with | [_], _ => rfl⟩⟩,
    ⟨⟨f13, _, F13, PySem.W.mg_of X G a13, F13.binds (ps := ["state", "most"]) fun _ _ _ _ _ _ us hl => match us, hl with | [_, _], _ => rfl⟩⟩,
    ⟨⟨f14, _, F14, PySem.W.mg_of X G a14, F14.binds (ps := ["rows", "slots"]) fun _ _ _ _ _ _ us hl => match us, hl with | [_, _], _ => rfl⟩⟩,
    ⟨⟨f15, _, F15, PySem.W.mg_of X G a15, F15.binds (ps := ["state"]) fun _ _ _ _ _ _ us hl => match us, hl with | [_], _ => rfl⟩⟩,
    ⟨⟨f16, _, F16, PySem.W.mg_of X G a16, F16.binds (ps := ["page"]) fun _ _ _ _ _ _ us hl => match us, hl with | [_], _ => rfl⟩⟩,
    Cst.int (PySem.W.mg_of X G e0),
    Cst.int (PySem.W.mg_of X G e1),
    PySem.W.mg_none_of X G z0,
    PySem.W.mg_none_of X G z1,
    PySem.W.mg_none_of X G z2,
    PySem.W.mg_none_of X G z3,
    PySem.W.mg_none_of X G z4,
    PySem.W.mg_none_of X G z5,
    PySem.W.mg_none_of X G z6,
    PySem.W.mg_none_of X G z7,
    PySem.W.mg_none_of X G z8,
    PySem.W.mg_none_of X G z9,
    PySem.W.mg_none_of X G z10⟩
  have FL := fun_mk (st := s_law) l17 c17 k17
  exact ⟨PySem.W.fnOf "law" "law" (defArgs s_law) (defBody s_law) (defScope s_law) .none kV17 dc17 pm17 an17 cd17 ct17, fun s v => .of_eq rfl, fun base _ _ => ok_law FL T⟩
theorem walk {l : PySem.W.OpenLaw} {q : Program} {loose : List Str} {XP : (Str → Option Value) → Heap → Prop} {YP : World → Heap → Prop} {d : DefRec} {K : Params → PySem.W.Frag} (hn : l.most = some 63) (hdf : d.params.defaults = [])
    (hY : ∀ (w : World) (h : Heap), YP w h → (K w.params).In h)
    (F : ∀ (w : World) (mg : Str → Option Value) (fa : Addr) (h : Heap), (K w.params).In h → h.Ns mainGlobals mg → mg d.name = some (.ref fa) →
      ∃ fd : FuncData, (∀ (s : Shared) (u : Value), BindsTo s fd ⟨[u], []⟩ [("script", u)]) ∧ ∀ base : Heap, (K w.params).In base → base.Ns mainGlobals mg → FnOk l.prog w (K w.params) mg base CX0 5 fa fd ["script"] (spLaw (K w.params))) :
    PySem.W.WalkO q loose XP YP l.row.toRowW d [] (fun f vs => PySem.call f vs) :=
  L2.walk_of (n := 63) (k := 5) (x := "script") (CX := fun _ => CX0) (sp := fun w => spLaw (K w.params)) hn (by decide) hdf ⟨rfl, by decide, by decide⟩ hY F (fun _ _ a ns hl _ hS => ⟨a, ns, rfl, hS, hl, fun _ => rfl⟩) fun _ _ _ _ _ z => z
end K53
open PySem PySem.W PyProof.Rows
set_option maxRecDepth 100000 in
set_option maxHeartbeats 0 in
theorem PySem.Challenge.cw_plainserial_k53_faults_of_pages_holds : PySem.Challenge.rw_plainserial_k53_faults_of_pages.Holds := by
  w_on; o_law; k_head; (case hw => w_witness2)
  k_fill
  refine K53.walk (l := PySem.Challenge.rw_plainserial_k53_faults_of_pages) rfl rfl (fun w h Y => PySem.W.kIn_of Y) ?F
  case F =>
    intro w mg fa h KX G hmg
    refine' K53.all_mk KX G hmg ?e0 ?e1 ?a0 ?l0 ?c0 ?k0 ?a1 ?l1 ?c1 ?k1 ?a2 ?l2 ?c2 ?k2 ?a3 ?l3 ?c3 ?k3 ?a4 ?l4 ?c4 ?k4 ?a5 ?l5 ?c5 ?k5 ?a6 ?l6 ?c6 ?k6 ?a7 ?l7 ?c7 ?k7 ?a8 ?l8 ?c8 ?k8 ?a9 ?l9 ?c9 ?k9 ?a10 ?l10 ?c10 ?k10 ?a11 ?l11 ?c11 ?k11 ?a12 ?l12 ?c12 ?k12 ?a13 ?l13 ?c13 ?k13 ?a14 ?l14 ?c14 ?k14 ?a15 ?l15 ?c15 ?k15 ?a16 ?l16 ?c16 ?k16 ?a17 ?l17 ?c17 ?k17 ?z0 ?z1 ?z2 ?z3 ?z4 ?z5 ?z6 ?z7 ?z8 ?z9 ?z10
    (case e0 => k_is); (case e1 => k_is); (case a0 => k_is); (case l0 => k_is); (case c0 => k_is); (case k0 => k_is); (case a1 => k_is); (case l1 => k_is)
    (case c1 => k_is); (case k1 => k_is); (case a2 => k_is); (case l2 => k_is); (case c2 => k_is); (case k2 => k_is); (case a3 => k_is); (case l3 => k_is)
    (case c3 => k_is); (case k3 => k_is); (case a4 => k_is); (case l4 => k_is); (case c4 => k_is); (case k4 => k_is); (case a5 => k_is); (case l5 => k_is)
    (case c5 => k_is); (case k5 => k_is); (case a6 => k_is); (case l6 => k_is); (case c6 => k_is); (case k6 => k_is); (case a7 => k_is); (case l7 => k_is)
    (case c7 => k_is); (case k7 => k_is); (case a8 => k_is); (case l8 => k_is); (case c8 => k_is); (case k8 => k_is); (case a9 => k_is); (case l9 => k_is)
    (case c9 => k_is); (case k9 => k_is); (case a10 => k_is); (case l10 => k_is); (case c10 => k_is); (case k10 => k_is); (case a11 => k_is); (case l11 => k_is)
    (case c11 => k_is); (case k11 => k_is); (case a12 => k_is); (case l12 => k_is); (case c12 => k_is); (case k12 => k_is); (case a13 => k_is); (case l13 => k_is)
    (case c13 => k_is); (case k13 => k_is); (case a14 => k_is); (case l14 => k_is); (case c14 => k_is); (case k14 => k_is); (case a15 => k_is); (case l15 => k_is)
    (case c15 => k_is); (case k15 => k_is); (case a16 => k_is); (case l16 => k_is); (case c16 => k_is); (case k16 => k_is); (case a17 => k_is); (case l17 => k_is)
    (case c17 => k_is); (case k17 => k_is); (case z0 => k_is); (case z1 => k_is); (case z2 => k_is); (case z3 => k_is); (case z4 => k_is); (case z5 => k_is)
    (case z6 => k_is); (case z7 => k_is); (case z8 => k_is); (case z9 => k_is); (case z10 => k_is)
