import PyProof.Rows.All
import Wide.All
import OpenK.AllK
import Wide.FinOn
import HandS.ForMost
import HandS.Evl
import HandS.IsInst
import HandS.Flow
import HandS.Style
import HandS.TupAny
import HandS.Deep
import KE.SortData
import KE.LtSeq
import KE.LtData
import HandS.TupLe
import PyProof.ReprRoads
import PyProof.ReprLen
import PyProof.ReprText
import HandS.TupSets
import HandS.SetFor
import HandS.Strs
import PySem.Challenge.RW_plainserial_k30_whole_values_of_expressi
set_option Elab.async false
set_option linter.all false
set_option maxRecDepth 100000
set_option maxHeartbeats 4000000
/-! Pd: pure data over the hand layer: values that stand for PyData, local owned lists, a ghost state. -/
namespace Pd
open PySem PySem.Spec L2

abbrev D := PyData
/-- a text that may be compared, measured -/
def SOk (x : Str) : Prop := x.length ≤ sizeLine ∧ PyData.canLay0 (.str x) = true

/-! ### values that stand for data; what stands never changes -/
mutual
inductive Rp (K : PySem.W.Frag) (H : Hp) : V → D → Prop
  | non : Rp K H .non .none
  | bl (b : Bool) : Rp K H (.bl b) (.bool b)
  | int (i : Int) : Rp K H (.int i) (.int i)
  | str {x : Str} : SOk x → Rp K H (.str x) (.str x)
  | lst {a : Addr} {xs : List V} {ds : List D} : H a = some (.lst xs) → RpA K H xs ds → ds.length ≤ sizeLine → Rp K H (.ref a) (.list ds)
  | tup {a : Addr} {xs : List V} {ds : List D} : SqT K H a xs → RpA K H xs ds → ds.length ≤ sizeLine → Rp K H (.ref a) (.tuple ds)
inductive RpA (K : PySem.W.Frag) (H : Hp) : List V → List D → Prop
  | nil : RpA K H [] []
  | cons {v : V} {vs : List V} {d : D} {ds : List D} : Rp K H v d → RpA K H vs ds → RpA K H (v :: vs) (d :: ds)
end
section
variable {K : PySem.W.Frag} {H H' : Hp}
theorem same_t {a : Addr} {xs : List V} (e : Same H H') (h : SqT K H a xs) : SqT K H' a xs := Evl.ex_t e h
mutual
theorem Rp.mono (e : Same H H') : ∀ {d : D} {v : V}, Rp K H v d → Rp K H' v d
  | .none, _, h => by cases h; exact .non
  | .bool _, _, h => by cases h; exact .bl _
  | .int _, _, h => by cases h; exact .int _
  | .str _, _, h => by cases h with | str h => exact .str h
  | .list ds, _, h => by cases h with | lst a b c => exact .lst (e _ _ a) (RpA.mono e b) c
  | .tuple ds, _, h => by cases h with | tup a b c => exact .tup (same_t e a) (RpA.mono e b) c
  | .dict _, _, h => by cases h
theorem RpA.mono (e : Same H H') : ∀ {ds : List D} {vs : List V}, RpA K H vs ds → RpA K H' vs ds
  | [], _, h => by cases h; exact .nil
  | _ :: _, _, h => by cases h with | cons a b => exact .cons (Rp.mono e a) (RpA.mono e b)
end
mutual
theorem Rp.dp : ∀ {d : D} {v : V}, Rp K H v d → Dp K H v d
  | .none, _, h => by cases h; exact .non
  | .bool _, _, h => by cases h; exact .bl _
  | .int _, _, h => by cases h; exact .int _
  | .str _, _, h => by cases h with | str h => exact .str _
  | .list ds, _, h => by cases h with | lst a b c => exact .lst (SqL.of a) (RpA.dp b)
  | .tuple ds, _, h => by cases h with | tup a b c => exact .tup a (RpA.dp b)
  | .dict _, _, h => by cases h
theorem RpA.dp : ∀ {ds : List D} {vs : List V}, RpA K H vs ds → DpAll K H vs ds
  | [], _, h => by cases h; exact .nil
  | _ :: _, _, h => by cases h with | cons a b => exact .cons (Rp.dp a) (RpA.dp b)
end
mutual
theorem Rp.lay : ∀ {d : D} {v : V}, Rp K H v d → d.canLay0 = true
  | .none, _, h => by simp only [PyData.canLay0]
  | .bool _, _, h => by simp only [PyData.canLay0]
  | .int _, _, h => by simp only [PyData.canLay0]
  | .str _, _, h => by cases h with | str h => exact h.2
  | .list ds, _, h => by cases h with | lst a b c => simp only [PyData.canLay0]; exact RpA.lay b
  | .tuple ds, _, h => by cases h with | tup a b c => simp only [PyData.canLay0]; exact RpA.lay b
  | .dict _, _, h => by cases h
theorem RpA.lay : ∀ {ds : List D} {vs : List V}, RpA K H vs ds → PyData.canLayAll0 ds = true
  | [], _, h => by simp only [PyData.canLayAll0]
  | _ :: _, _, h => by cases h with | cons a b => simp only [PyData.canLayAll0, Rp.lay a, RpA.lay b, Bool.and_self]
end
theorem RpA.len : ∀ {vs : List V} {ds : List D}, RpA K H vs ds → vs.length = ds.length
  | _, _, .nil => rfl
  | _, _, .cons _ b => by rw [List.length_cons, List.length_cons, RpA.len b]
theorem RpA.get : ∀ {vs : List V} {ds : List D} {i : Nat} {d : D}, RpA K H vs ds → ds[i]? = some d → ∃ v, vs[i]? = some v ∧ Rp K H v d
  | _, _, _, _, .nil, e => by simp at e
  | _, _, 0, _, .cons a _, e => by simp at e; subst e; exact ⟨_, rfl, a⟩
  | _, _, i + 1, d, .cons _ b, e => by
    obtain ⟨v, h1, h2⟩ := RpA.get (i := i) (d := d) b (by simpa using e)
    exact ⟨v, by simpa using h1, h2⟩
theorem RpA.getV : ∀ {vs : List V} {ds : List D} {i : Nat} {v : V}, RpA K H vs ds → vs[i]? = some v → ∃ d, ds[i]? = some d ∧ Rp K H v d
  | _, _, _, _, .nil, e => by simp at e
  | _, _, 0, _, .cons a _, e => by simp at e; subst e; exact ⟨_, rfl, a⟩
  | _, _, i + 1, v, .cons _ b, e => by
    obtain ⟨d, h1, h2⟩ := RpA.getV (i := i) (v := v) b (by simpa using e)
    exact ⟨d, by simpa using h1, h2⟩
theorem RpA.append : ∀ {vs us : List V} {ds es : List D}, RpA K H vs ds → RpA K H us es → RpA K H (vs ++ us) (ds ++ es)
  | _, _, _, _, .nil, h => h
  | _, _, _, _, .cons a b, h => .cons a (RpA.append b h)
theorem RpA.one {v : V} {d : D} (h : Rp K H v d) : RpA K H [v] [d] := .cons h .nil
theorem RpA.set {v : V} {d : D} (h : Rp K H v d) : ∀ {vs : List V} {ds : List D} (i : Nat), RpA K H vs ds → RpA K H (vs.set i v) (ds.set i d)
  | _, _, _, .nil => .nil
  | _, _, 0, .cons _ b => .cons h b
  | _, _, i + 1, .cons a b => .cons a (RpA.set h i b)
theorem RpA.take : ∀ {vs : List V} {ds : List D} (n : Nat), RpA K H vs ds → RpA K H (vs.take n) (ds.take n)
  | _, _, 0, _ => .nil
  | _, _, _ + 1, .nil => .nil
  | _, _, n + 1, .cons a b => .cons a (RpA.take n b)
theorem RpA.drop : ∀ {vs : List V} {ds : List D} (n : Nat), RpA K H vs ds → RpA K H (vs.drop n) (ds.drop n)
  | _, _, 0, h => h
  | _, _, _ + 1, .nil => .nil
  | _, _, n + 1, .cons _ b => RpA.drop n b
theorem RpA.reverse : ∀ {vs : List V} {ds : List D}, RpA K H vs ds → RpA K H vs.reverse ds.reverse
  | _, _, .nil => .nil
  | _, _, .cons a b => by rw [List.reverse_cons, List.reverse_cons]; exact (RpA.reverse b).append (.one a)
theorem RpA.flatRep {vs : List V} {ds : List D} (h : RpA K H vs ds) : ∀ n : Nat, RpA K H (List.replicate n vs).flatten (List.replicate n ds).flatten
  | 0 => .nil
  | n + 1 => by rw [List.replicate_succ, List.replicate_succ, List.flatten_cons, List.flatten_cons]; exact h.append (RpA.flatRep h n)
theorem RpA.ints : ∀ {vs : List V} {ns : List Int}, RpA K H vs (ns.map .int) → vs = ns.map V.int
  | _, [], h => by cases h; rfl
  | _, n :: ns, h => by
    cases h with
    | cons a b => cases a; rw [List.map_cons, ← RpA.ints b]
theorem RpA.of_ints : ∀ (ns : List Int), RpA K H (ns.map V.int) (ns.map .int)
  | [] => .nil
  | n :: ns => .cons (.int n) (RpA.of_ints ns)
end

/-! ### a pure step: I what is known to stand, H the heap -/
structure Pst (I H I' H' : Hp) : Prop where
  eI : Same I I'
  eH : Same H H'
  sub : Same I' H'
  ag : ∀ a, H a ≠ none → I' a = I a
section
variable {I H I1 H1 I2 H2 : Hp}
theorem Pst.refl (h : Same I H) : Pst I H I H := ⟨Same.refl _, Same.refl _, h, fun _ _ => rfl⟩
theorem Pst.trans (a : Pst I H I1 H1) (b : Pst I1 H1 I2 H2) : Pst I H I2 H2 := ⟨a.eI.trans b.eI, a.eH.trans b.eH, b.sub, fun x hx => by
  have h1 : H1 x ≠ none := fun z => hx (a.eH.free z)
  rw [b.ag x h1, a.ag x hx]⟩
theorem same_new {H : Hp} {p : Addr} {o : HO} (h : H p = none) : Same H (upd H p o) := Evl.Ex.new h
theorem same_upd {I H : Hp} {p : Addr} {o : HO} (e : Same I H) (h : H p = none) : Same (upd I p o) (upd H p o) := fun b u q => by
  by_cases z : b = p
  · subst z; rw [upd_same] at q ⊢; exact q
  · rw [upd_ne z] at q ⊢; exact e b u q
theorem Pst.new {p : Addr} {o : HO} (e : Same I H) (h : H p = none) : Pst I H (upd I p o) (upd H p o) :=
  ⟨same_new (e.free h), same_new h, same_upd e h, fun a ha => upd_ne fun z => ha (z ▸ h)⟩
end

/-! ### the ghost state -/
structure Gs (G : Type) where
  fp : G → Addr → Prop
  ok : G → Hp → Prop
  root : G → V
  loc : ∀ {g H H'}, (∀ a, fp g a → H' a = H a) → ok g H → ok g H'
  dom : ∀ {g H a}, ok g H → fp g a → H a ≠ none
/-- none -/
def G0 : Gs Unit := ⟨fun _ _ => False, fun _ _ => True, fun _ => .non, fun _ _ => trivial, fun _ h => h.elim⟩

/-- what a slot holds: nothing that is known, data that stands, a list of one's own, the ghost state's root, a value as it is -/
inductive SV where
  | un | sh (d : D) | ow (ds : List D) | st | raw (v : V)
abbrev Env := List SV
abbrev Env.at (env : Env) (i : Nat) : SV := env.getD i .un
/-- the world: what is to be kept, what was known at the entry, what is known to stand, the ghost's places, its root -/
structure Wd where
  H0 : Hp
  I0 : Hp
  I : Hp
  fp : Addr → Prop
  rt : V
abbrev Wd.im (w : Wd) (I : Hp) : Wd := { w with I := I }

def SlotOk (K : PySem.W.Frag) (w : Wd) (σ : St) (H : Hp) (i : Nat) : SV → Prop
  | .un => True
  | .sh d => ∃ v, σ[i]? = some (some v) ∧ Rp K w.I v d
  | .st => σ[i]? = some (some w.rt)
  | .raw v => σ[i]? = some (some v)
  | .ow ds => ∃ p vs, σ[i]? = some (some (.ref p)) ∧ H p = some (.lst vs) ∧ w.I p = none ∧ w.H0 p = none ∧ ¬ w.fp p ∧ RpA K w.I vs ds ∧ ds.length ≤ sizeLine

structure Rel {G : Type} (K : PySem.W.Frag) (S : Gs G) (w : Wd) (env : Env) (g : G) (σ : St) (H : Hp) : Prop where
  e0 : Same w.H0 H
  eI : Same w.I H
  ag : ∀ a o, w.H0 a = some o → w.I a = w.I0 a
  ge : Same w.I0 w.I
  gfp : ∀ a, S.fp g a ↔ w.fp a
  grt : S.root g = w.rt
  gok : S.ok g H
  fI : ∀ a, w.fp a → w.I a = none
  f0 : ∀ a, w.fp a → w.H0 a = none
  len : σ.length = env.length
  slot : ∀ i, SlotOk K w σ H i (env.at i)
  dis : ∀ i j p ds es, i ≠ j → env.at i = .ow ds → env.at j = .ow es → σ[i]? = some (some (.ref p)) → σ[j]? ≠ some (some (.ref p))
section
variable {G : Type} {K : PySem.W.Frag} {S : Gs G} {w : Wd} {env : Env} {g g' : G} {σ : St} {H H' I' : Hp}
theorem SlotOk.pst {i : Nat} {sv : SV} (p : Pst w.I H I' H') (h : SlotOk K w σ H i sv) : SlotOk K (w.im I') σ H' i sv := by
  cases sv with
  | un => trivial
  | sh d => obtain ⟨v, e, r⟩ := h; exact ⟨v, e, r.mono p.eI⟩
  | st => exact h
  | raw v => exact h
  | ow ds =>
    obtain ⟨a, vs, e, hp, hi, h0, hf, r, z⟩ := h
    exact ⟨a, vs, e, p.eH _ _ hp, (p.ag a (by rw [hp]; simp)).trans hi, h0, hf, r.mono p.eI, z⟩
theorem Rel.pst (R : Rel K S w env g σ H) (p : Pst w.I H I' H') : Rel K S (w.im I') env g σ H' where
  e0 := R.e0.trans p.eH
  eI := p.sub
  ag := fun a o e => (p.ag a (by rw [R.e0 a o e]; simp)).trans (R.ag a o e)
  ge := R.ge.trans p.eI
  gfp := R.gfp
  grt := R.grt
  gok := S.loc (fun a ha => by
    cases q : H a with
    | none => exact absurd q (S.dom R.gok ha)
    | some o => exact p.eH a o q) R.gok
  fI := fun a ha => (p.ag a (S.dom R.gok ((R.gfp a).mpr ha))).trans (R.fI a ha)
  f0 := R.f0
  len := R.len
  slot := fun i => (R.slot i).pst p
  dis := R.dis
/-- a new object comes, that nothing knows of -/
theorem Rel.alloc {p : Addr} {o : HO} (R : Rel K S w env g σ H) (h : H p = none) : Rel K S w env g σ (upd H p o) :=
  R.pst (I' := w.I) ⟨Same.refl _, same_new h, R.eI.trans (same_new h), fun _ _ => rfl⟩
/-- p is nobody's -/
structure Nob (w : Wd) (env : Env) (σ : St) (p : Addr) : Prop where
  i : w.I p = none
  h0 : w.H0 p = none
  f : ¬ w.fp p
  o : ∀ i ds, env.at i = .ow ds → σ[i]? ≠ some (some (.ref p))
theorem Rel.nob {p : Addr} (R : Rel K S w env g σ H) (h : H p = none) : Nob w env σ p where
  i := R.eI.free h
  h0 := R.e0.free h
  f := fun z => S.dom R.gok ((R.gfp p).mpr z) h
  o := fun i ds e q => by
    have z := R.slot i
    rw [e] at z
    obtain ⟨a, vs, e1, hp, _⟩ := z
    rw [e1] at q
    cases q
    rw [hp] at h
    cases h
/-- nobody's object is from now on one that stands -/
theorem Rel.freeze {p : Addr} {o : HO} (R : Rel K S w env g σ H) (n : Nob w env σ p) (h : H p = some o) : Rel K S (w.im (upd w.I p o)) env g σ H where
  e0 := R.e0
  eI := fun b u q => by
    have q : upd w.I p o b = some u := q
    by_cases z : b = p
    · subst z; rw [upd_same] at q; rw [h]; exact q
    · rw [upd_ne z] at q; exact R.eI b u q
  ag := fun a u e => by
    have z : a ≠ p := fun z => by rw [z, n.h0] at e; cases e
    exact (upd_ne z).trans (R.ag a u e)
  ge := R.ge.trans (same_new n.i)
  gfp := R.gfp
  grt := R.grt
  gok := R.gok
  fI := fun a ha => by
    have z : a ≠ p := fun z => n.f (z ▸ ha)
    exact (upd_ne z).trans (R.fI a ha)
  f0 := R.f0
  len := R.len
  slot := fun i => by
    have q := R.slot i
    cases e : env.at i with
    | un => trivial
    | sh d => rw [e] at q; obtain ⟨v, e1, r⟩ := q; exact ⟨v, e1, r.mono (same_new n.i)⟩
    | st => rw [e] at q; exact q
    | raw v => rw [e] at q; exact q
    | ow ds =>
      rw [e] at q
      obtain ⟨a, vs, e1, hp, hi, h0, hf, r, z⟩ := q
      have ne : a ≠ p := fun z => n.o i ds e (z ▸ e1)
      exact ⟨a, vs, e1, hp, (upd_ne ne).trans hi, h0, hf, r.mono (same_new n.i), z⟩
  dis := R.dis
end
end Pd

/-! Pd: expressions and tests. -/
namespace Pd
open PySem PySem.Spec L2

/-! ### readings by data -/
abbrev ME (G : Type) := Env → G → Option (D × G)
abbrev ML (G : Type) := Env → G → Option (List D × G)
abbrev MT (G : Type) := Env → G → Option (Bool × G)

def tE {G : Type} (K : PySem.W.Frag) (S : Gs G) (m : ME G) : TE := fun σ H Q => ∃ w env g d g', Rel K S w env g σ H ∧ m env g = some (d, g') ∧
  ∀ v I' H', Same w.I I' → Rel K S (w.im I') env g' σ H' → Rp K I' v d → Q v H'
/-- a new list, that nothing knows of -/
def tF {G : Type} (K : PySem.W.Frag) (S : Gs G) (m : ML G) : TE := fun σ H Q => ∃ w env g ds g', Rel K S w env g σ H ∧ m env g = some (ds, g') ∧
  ∀ p vs I' H', Same w.I I' → Rel K S (w.im I') env g' σ H' → Nob (w.im I') env σ p → H' p = some (.lst vs) → RpA K I' vs ds → ds.length ≤ sizeLine → Q (.ref p) H'
def tT {G : Type} (K : PySem.W.Frag) (S : Gs G) (m : MT G) : TT := fun σ H Q => ∃ w env g b g', Rel K S w env g σ H ∧ m env g = some (b, g') ∧
  ∀ I' H', Same w.I I' → Rel K S (w.im I') env g' σ H' → Q b H'
def tA {G : Type} (K : PySem.W.Frag) (S : Gs G) (m : ML G) : TA := fun σ H Q => ∃ w env g ds g', Rel K S w env g σ H ∧ m env g = some (ds, g') ∧
  ∀ vs I' H', Same w.I I' → Rel K S (w.im I') env g' σ H' → RpA K I' vs ds → Q vs H'

abbrev DE {G : Type} (X : Cx) (S : Gs G) (e : Expr) (m : ME G) : Prop := PE X e (tE X.K S m)
abbrev DF {G : Type} (X : Cx) (S : Gs G) (e : Expr) (m : ML G) : Prop := PE X e (tF X.K S m)
abbrev DT {G : Type} (X : Cx) (S : Gs G) (e : Expr) (m : MT G) : Prop := PT X e (tT X.K S m)
abbrev DW {G : Type} (X : Cx) (S : Gs G) (e : Expr) (m : MT G) : Prop := PW X e (tT X.K S m)
abbrev DA {G : Type} (X : Cx) (S : Gs G) (es : List Expr) (m : ML G) : Prop := PA X es (tA X.K S m)

theorem PE.imp {X : Cx} {e : Expr} {t t' : TE} (h : PE X e t) (i : ∀ σ H Q, t' σ H Q → t σ H Q) : PE X e t' := ⟨fun pins s σ H Q I q => h.run pins s σ H Q I (i _ _ _ q)⟩
theorem PT.imp {X : Cx} {e : Expr} {t t' : TT} (h : PT X e t) (i : ∀ σ H Q, t' σ H Q → t σ H Q) : PT X e t' := ⟨fun pins s σ H Q I q => h.run pins s σ H Q I (i _ _ _ q)⟩
theorem PW.imp {X : Cx} {e : Expr} {t t' : TT} (h : PW X e t) (i : ∀ σ H Q, t' σ H Q → t σ H Q) : PW X e t' := ⟨fun wh pins s σ H Q I q => h.run wh pins s σ H Q I (i _ _ _ q)⟩
theorem PA.imp {X : Cx} {e : List Expr} {t t' : TA} (h : PA X e t) (i : ∀ σ H Q, t' σ H Q → t σ H Q) : PA X e t' := ⟨fun pos pins s σ H Q I q => h.run pos pins s σ H Q I (i _ _ _ q)⟩
theorem PS.imp {X : Cx} {e : Stmt} {t t' : TS} (h : PS X e t) (i : ∀ D σ H, t' D σ H → t D σ H) : PS X e t' := ⟨fun pins s σ H D I q => h.run pins s σ H D I (i _ _ _ q)⟩
theorem PSs.imp {X : Cx} {e : List Stmt} {t t' : TS} (h : PSs X e t) (i : ∀ D σ H, t' D σ H → t D σ H) : PSs X e t' := ⟨fun pins s σ H D I q => h.run pins s σ H D I (i _ _ _ q)⟩

section
variable {G : Type} {X : Cx} {S : Gs G} {a b c e : Expr} {es : List Expr} {pos : Pos} {ma mb mc : ME G} {mt mu : MT G} {ml : ML G}

/-! ### bind, in the order of reading -/
@[reducible] def bD {α β G : Type} (x : Option (α × G)) (f : α → G → Option β) : Option β := match x with
  | some (a, g) => f a g
  | none => none
theorem bD_some {α β : Type} {x : Option (α × G)} {f : α → G → Option β} {y : β} (h : bD x f = some y) : ∃ a g, x = some (a, g) ∧ f a g = some y := by
  cases x with
  | none => cases h
  | some p => obtain ⟨a, g⟩ := p; exact ⟨a, g, rfl, h⟩

/-! ### names, constants -/
def mVar (i : Nat) : ME G := fun env g => match env.at i with
  | .sh d => some (d, g)
  | _ => none
def mC (d : D) : ME G := fun _ g => some (d, g)
theorem te_var {i : Nat} {σ : St} {H : Hp} {Q : VK} (h : tE X.K S (mVar i) σ H Q) : tVar i σ H Q := by
  obtain ⟨w, env, g, d, g', R, e, k⟩ := h
  have q := R.slot i
  unfold mVar at e
  cases z : env.at i with
  | sh d' =>
    rw [z] at e q
    obtain ⟨v, e1, r⟩ := q
    cases e
    exact ⟨v, e1, k v w.I H (Same.refl _) R r⟩
  | _ => rw [z] at e; cases e
theorem de_var (i : Nat) {x : Str} (hN : X.N[i]? = some x := by rfl) (hv : Vis X.env.scope x := by first | exact Or.inl rfl | exact Or.inr (Or.inl rfl) | exact Or.inr (Or.inr rfl)) (hd : (x == ("__debug__" : Str)) = false := by decide)
    (hcd : (x == ("__classdict__" : Str)) = false := by decide) : DE X S (.Name x pos) (mVar i) := PE.imp (pe_var hN hv hd hcd) fun _ _ _ h => te_var h
theorem te_c {v : V} {d : D} (r : ∀ H, Rp X.K H v d) {σ : St} {H : Hp} {Q : VK} (h : tE X.K S (mC d) σ H Q) : tC v σ H Q := by
  obtain ⟨w, env, g, d, g', R, e, k⟩ := h
  cases e
  exact k v w.I H (Same.refl _) R (r _)
theorem de_int {i : Int} {j} : DE X S (.Constant (.int i) j pos) (mC (.int i)) := PE.imp pe_int fun _ _ _ h => te_c (fun _ => .int i) h
theorem de_bl {i : Bool} {j} : DE X S (.Constant (.bool i) j pos) (mC (.bool i)) := PE.imp pe_bl fun _ _ _ h => te_c (fun _ => .bl i) h
theorem de_non {j} : DE X S (.Constant .none j pos) (mC .none) := PE.imp pe_non fun _ _ _ h => te_c (fun _ => .non) h
theorem de_str {x : Str} {j} (h : SOk x := by exact ⟨by decide +kernel, by decide +kernel⟩) : DE X S (.Constant (.str x) j pos) (mC (.str x)) := PE.imp pe_str fun _ _ _ q => te_c (fun _ => .str h) q
/-- a module's constant -/
theorem de_glob {x : Str} {v : V} {u : Value} {d : D} (hg : Gl X x) (hm : X.mg x = some u) (r : RelV v u) (hd : ∀ H, Rp X.K H v d) (hdb : (x == ("__debug__" : Str)) = false := by decide) : DE X S (.Name x pos) (mC d) :=
  PE.imp (pe_glob hg hm r hdb) fun _ _ _ h => te_c hd h

/-! ### operations by values -/
def OpD (K : PySem.W.Frag) (r : R2) (f : D → D → Option D) : Prop := ∀ {I H : Hp} {x y : V} {d e z : D}, Same I H → Rp K I x d → Rp K I y e → f d e = some z →
  ∀ {Q : VK}, (∀ v I' H', Pst I H I' H' → Rp K I' v z → Q v H') → r x y H Q
def UnD (K : PySem.W.Frag) (r : V → Hp → VK → Prop) (f : D → Option D) : Prop := ∀ {I H : Hp} {x : V} {d z : D}, Same I H → Rp K I x d → f d = some z →
  ∀ {Q : VK}, (∀ v I' H', Pst I H I' H' → Rp K I' v z → Q v H') → r x H Q
def CallD (K : PySem.W.Frag) (r : List V → Hp → VK → Prop) (f : List D → Option D) : Prop := ∀ {I H : Hp} {xs : List V} {ds : List D} {z : D}, Same I H → RpA K I xs ds → f ds = some z →
  ∀ {Q : VK}, (∀ v I' H', Pst I H I' H' → Rp K I' v z → Q v H') → r xs H Q
/-- .. a new list -/
def CallF (K : PySem.W.Frag) (r : List V → Hp → VK → Prop) (f : List D → Option (List D)) : Prop := ∀ {I H : Hp} {xs : List V} {ds zs : List D}, Same I H → RpA K I xs ds → f ds = some zs →
  ∀ {Q : VK}, (∀ p vs H', H p = none → Same H H' → H' p = some (.lst vs) → RpA K I vs zs → zs.length ≤ sizeLine → Q (.ref p) H') → r xs H Q
theorem OpD.or {K : PySem.W.Frag} {r r' : R2} {f f' : D → D → Option D} (h : OpD K r f) (h' : OpD K r' f') : OpD K (fun x y H Q => r x y H Q ∨ r' x y H Q) (fun d e => (f d e).orElse fun _ => f' d e) := by
  intro I H x y d e z s p q hz Q k
  have hz : ((f d e).orElse fun _ => f' d e) = some z := hz
  cases hf : f d e with
  | some u => rw [hf] at hz; cases hz; exact .inl (h s p q hf k)
  | none => rw [hf] at hz; exact .inr (h' s p q hz k)
theorem CallD.or {K : PySem.W.Frag} {r r' : List V → Hp → VK → Prop} {f f' : List D → Option D} (h : CallD K r f) (h' : CallD K r' f') : CallD K (fun x H Q => r x H Q ∨ r' x H Q) (fun d => (f d).orElse fun _ => f' d) := by
  intro I H x d z s p hz Q k
  have hz : ((f d).orElse fun _ => f' d) = some z := hz
  cases hf : f d with
  | some u => rw [hf] at hz; cases hz; exact .inl (h s p hf k)
  | none => rw [hf] at hz; exact .inr (h' s p hz k)

def mOp (f : D → D → Option D) (ma mb : ME G) : ME G := fun env g => bD (ma env g) fun x g1 => bD (mb env g1) fun y g2 => (f x y).map (·, g2)
def mUn (f : D → Option D) (ma : ME G) : ME G := fun env g => bD (ma env g) fun x g1 => (f x).map (·, g1)
def mCall (f : List D → Option D) (ml : ML G) : ME G := fun env g => bD (ml env g) fun xs g1 => (f xs).map (·, g1)
def mCallF (f : List D → Option (List D)) (ml : ML G) : ML G := fun env g => bD (ml env g) fun xs g1 => (f xs).map (·, g1)
theorem map_some {α β : Type} {x : Option α} {g g' : β} {z : α} (h : x.map (·, g) = some (z, g')) : x = some z ∧ g' = g := by
  cases x with
  | none => cases h
  | some y => cases h; exact ⟨rfl, rfl⟩
theorem te_op {r : R2} {f : D → D → Option D} (hf : OpD X.K r f) {σ : St} {H : Hp} {Q : VK} (h : tE X.K S (mOp f ma mb) σ H Q) : tOp r (tE X.K S ma) (tE X.K S mb) σ H Q := by
  obtain ⟨w, env, g, d, g', R, e, k⟩ := h
  obtain ⟨x, g1, e1, e⟩ := bD_some e
  obtain ⟨y, g2, e2, e⟩ := bD_some e
  obtain ⟨e3, rfl⟩ := map_some e
  refine ⟨w, env, g, x, g1, R, e1, fun v I1 H1 s1 R1 p1 => ⟨w.im I1, env, g1, y, g', R1, e2, fun u I2 H2 s2 R2 p2 => ?_⟩⟩
  exact hf R2.eI (p1.mono s2) p2 e3 fun v3 I3 H3 ps p3 => k v3 I3 H3 (s1.trans (s2.trans ps.eI)) (R2.pst ps) p3
theorem de_op {op : Operator} {r : R2} {f : D → D → Option D} (ho : OpR X (binaryOp op) r) (hf : OpD X.K r f) (ha : DE X S a ma) (hb : DE X S b mb) : DE X S (.BinOp a op b pos) (mOp f ma mb) :=
  PE.imp (pe_op ho ha hb) fun _ _ _ h => te_op hf h
theorem de_cmp {op : CmpOp} {r : R2} {f : D → D → Option D} (ho : OpR X (compareOp op) r) (hf : OpD X.K r f) (ha : DE X S a ma) (hb : DE X S b mb) (hm : behindInMarks op b = false) : DE X S (.Compare a [op] [b] pos) (mOp f ma mb) :=
  PE.imp (pe_cmpR ho ha hb hm) fun _ _ _ h => te_op hf h
theorem te_un {r : V → Hp → VK → Prop} {f : D → Option D} (hf : UnD X.K r f) {σ : St} {H : Hp} {Q : VK} (h : tE X.K S (mUn f ma) σ H Q) : tUn r (tE X.K S ma) σ H Q := by
  obtain ⟨w, env, g, d, g', R, e, k⟩ := h
  obtain ⟨x, g1, e1, e⟩ := bD_some e
  obtain ⟨e3, rfl⟩ := map_some e
  exact ⟨w, env, g, x, g', R, e1, fun v I1 H1 s1 R1 p1 => hf R1.eI p1 e3 fun v3 I3 H3 ps p3 => k v3 I3 H3 (s1.trans ps.eI) (R1.pst ps) p3⟩
theorem de_un {op : UnaryOp} {r : V → Hp → VK → Prop} {f : D → Option D} (ho : UnR X (unaryOp op) r) (hf : UnD X.K r f) (ha : DE X S a ma) : DE X S (.UnaryOp op a pos) (mUn f ma) :=
  PE.imp (pe_un ho ha) fun _ _ _ h => te_un hf h

/-! ### arguments -/
def mNil : ML G := fun _ g => some ([], g)
def mCons (ma : ME G) (ml : ML G) : ML G := fun env g => bD (ma env g) fun x g1 => bD (ml env g1) fun xs g2 => some (x :: xs, g2)
theorem da_nil : DA X S [] mNil := PA.imp pa_nil fun _ H _ ⟨w, _, _, _, _, R, e, k⟩ => by cases e; exact k [] w.I H (Same.refl _) R .nil
theorem da_cons (ha : DE X S e ma) (hr : DA X S es ml) (hs : starEach (e :: es) X.env = (false, eval e X.env) :: starEach es X.env := by rfl) : DA X S (e :: es) (mCons ma ml) := PA.imp (pa_cons ha hr hs) fun σ H Q h => by
  obtain ⟨w, env, g, d, g', R, e, k⟩ := h
  obtain ⟨x, g1, e1, e⟩ := bD_some e
  obtain ⟨y, g2, e2, e⟩ := bD_some e
  cases e
  exact ⟨w, env, g, x, g1, R, e1, fun v I1 H1 s1 R1 p1 => ⟨w.im I1, env, g1, y, g', R1, e2, fun vs I2 H2 s2 R2 p2 => k (v :: vs) I2 H2 (s1.trans s2) R2 (.cons (p1.mono s2) p2)⟩⟩
theorem te_call {r : List V → Hp → VK → Prop} {f : List D → Option D} (hf : CallD X.K r f) {σ : St} {H : Hp} {Q : VK} (h : tE X.K S (mCall f ml) σ H Q) : tCB r (tA X.K S ml) σ H Q := by
  obtain ⟨w, env, g, d, g', R, e, k⟩ := h
  obtain ⟨x, g1, e1, e⟩ := bD_some e
  obtain ⟨e3, rfl⟩ := map_some e
  exact ⟨w, env, g, x, g', R, e1, fun vs I1 H1 s1 R1 p1 => hf R1.eI p1 e3 fun v3 I3 H3 ps p3 => k v3 I3 H3 (s1.trans ps.eI) (R1.pst ps) p3⟩
theorem de_callB {x : Str} {id : String} {r : List V → Hp → VK → Prop} {f : List D → Option D} {p : Pos} (hc : CallR X (.builtin id) r) (hf : CallD X.K r f) (hg : Gl X x) (hm : X.mg x = none) (hv : bootBuiltins x = some (.builtin id)) (ha : DA X S (e :: es) ml)
    (hn : x ≠ "__name__" := by decide) (hdb : (x == ("__debug__" : Str)) = false := by decide)
    (he : starEach (e :: es) X.env = (false, eval e X.env) :: starEach es X.env := by rfl) (hpl : (backTo pos (starEach es X.env)).any (·.1) = false := by rfl) : DE X S (.Call (.Name x p) (e :: es) [] pos) (mCall f ml) :=
  PE.imp (pe_callB hc hg hm hv ha hn hdb he hpl) fun _ _ _ h => te_call hf h
theorem de_callTy {x : Str} {T : String} {r : List V → Hp → VK → Prop} {f : List D → Option D} {p : Pos} (hc : CallR X (.type T) r) (hf : CallD X.K r f) (hg : Gl X x) (hm : X.mg x = none) (hv : bootBuiltins x = some (.type T)) (ha : DA X S (e :: es) ml)
    (hn : x ≠ "__name__" := by decide) (hdb : (x == ("__debug__" : Str)) = false := by decide)
    (he : starEach (e :: es) X.env = (false, eval e X.env) :: starEach es X.env := by rfl) (hpl : (backTo pos (starEach es X.env)).any (·.1) = false := by rfl) : DE X S (.Call (.Name x p) (e :: es) [] pos) (mCall f ml) :=
  PE.imp (pe_callTy hc hg hm hv ha hn hdb he hpl) fun _ _ _ h => te_call hf h
/-- behind a fresh address nothing that is known has changed -/
theorem Rel.fresh {K : PySem.W.Frag} {w : Wd} {env : Env} {g : G} {σ : St} {H H' : Hp} {p : Addr} (R : Rel K S w env g σ H) (s : Same H H') : Rel K S w env g σ H' :=
  R.pst (I' := w.I) ⟨Same.refl _, s, R.eI.trans s, fun _ _ => rfl⟩
theorem tf_call {r : List V → Hp → VK → Prop} {f : List D → Option (List D)} (hf : CallF X.K r f) {σ : St} {H : Hp} {Q : VK} (h : tF X.K S (mCallF f ml) σ H Q) : tCB r (tA X.K S ml) σ H Q := by
  obtain ⟨w, env, g, d, g', R, e, k⟩ := h
  obtain ⟨x, g1, e1, e⟩ := bD_some e
  obtain ⟨e3, rfl⟩ := map_some e
  exact ⟨w, env, g, x, g', R, e1, fun vs I1 H1 s1 R1 p1 => hf R1.eI p1 e3 fun p us H3 h0 sm hp ra z => k p us I1 H3 s1 (Rel.fresh (p := p) R1 sm) (R1.nob h0) hp ra z⟩
theorem df_callB {x : Str} {id : String} {r : List V → Hp → VK → Prop} {f : List D → Option (List D)} {p : Pos} (hc : CallR X (.builtin id) r) (hf : CallF X.K r f) (hg : Gl X x) (hm : X.mg x = none) (hv : bootBuiltins x = some (.builtin id)) (ha : DA X S (e :: es) ml)
    (hn : x ≠ "__name__" := by decide) (hdb : (x == ("__debug__" : Str)) = false := by decide)
    (he : starEach (e :: es) X.env = (false, eval e X.env) :: starEach es X.env := by rfl) (hpl : (backTo pos (starEach es X.env)).any (·.1) = false := by rfl) : DF X S (.Call (.Name x p) (e :: es) [] pos) (mCallF f ml) :=
  PE.imp (pe_callB hc hg hm hv ha hn hdb he hpl) fun _ _ _ h => tf_call hf h
theorem df_callTy {x : Str} {T : String} {r : List V → Hp → VK → Prop} {f : List D → Option (List D)} {p : Pos} (hc : CallR X (.type T) r) (hf : CallF X.K r f) (hg : Gl X x) (hm : X.mg x = none) (hv : bootBuiltins x = some (.type T)) (ha : DA X S (e :: es) ml)
    (hn : x ≠ "__name__" := by decide) (hdb : (x == ("__debug__" : Str)) = false := by decide)
    (he : starEach (e :: es) X.env = (false, eval e X.env) :: starEach es X.env := by rfl) (hpl : (backTo pos (starEach es X.env)).any (·.1) = false := by rfl) : DF X S (.Call (.Name x p) (e :: es) [] pos) (mCallF f ml) :=
  PE.imp (pe_callTy hc hg hm hv ha hn hdb he hpl) fun _ _ _ h => tf_call hf h

/-! ### a new list as data -/
def mL (ml : ML G) : ME G := fun env g => bD (ml env g) fun ds g1 => some (.list ds, g1)
theorem te_fresh {σ : St} {H : Hp} {Q : VK} (h : tE X.K S (mL ml) σ H Q) : tF X.K S ml σ H Q := by
  obtain ⟨w, env, g, d, g', R, e, k⟩ := h
  obtain ⟨ds, g1, e1, e⟩ := bD_some e
  cases e
  exact ⟨w, env, g, ds, g', R, e1, fun p vs I' H' s' R' n hp ra z => k (.ref p) _ H' (s'.trans (same_new n.i)) (R'.freeze n hp) (.lst upd_same (ra.mono (same_new n.i)) z)⟩
theorem de_fresh (h : DF X S e ml) : DE X S e (mL ml) := PE.imp h fun _ _ _ q => te_fresh q

/-! ### displays -/
def mTup (ml : ML G) : ME G := fun env g => bD (ml env g) fun ds g1 => if ds.length ≤ sizeLine then some (.tuple ds, g1) else none
def mLst (ml : ML G) : ML G := fun env g => bD (ml env g) fun ds g1 => if ds.length ≤ sizeLine then some (ds, g1) else none
theorem de_tup {x1} (h : DA X S es ml) : DE X S (.Tuple es x1 pos) (mTup ml) := PE.imp (pe_tup h) fun σ H Q q => by
  obtain ⟨w, env, g, d, g', R, e, k⟩ := q
  obtain ⟨ds, g1, e1, e⟩ := bD_some e
  split at e
  · rename_i hz
    cases e
    refine ⟨w, env, g, ds, g', R, e1, fun vs I' H' s' R' ra => ⟨by rw [ra.len]; exact hz, fun p hp => ?_⟩⟩
    have ps := Pst.new (p := p) (o := .tup vs) R'.eI hp
    exact k (.ref p) _ _ (s'.trans ps.eI) (R'.pst ps) (.tup (SqT.of upd_same) (ra.mono ps.eI) hz)
  · cases e
theorem df_lst (h : DA X S es ml) : DF X S (.List es pos) (mLst ml) := PE.imp (pe_lst h) fun σ H Q q => by
  obtain ⟨w, env, g, d, g', R, e, k⟩ := q
  obtain ⟨ds, g1, e1, e⟩ := bD_some e
  split at e
  · rename_i hz
    cases e
    refine ⟨w, env, g, d, g', R, e1, fun vs I' H' s' R' ra => ⟨by rw [ra.len]; exact hz, fun p hp => ?_⟩⟩
    exact k p vs I' _ s' (R'.alloc hp) (R'.nob hp) upd_same ra hz
  · cases e

/-! ### subscripts, slices -/
def dIx : D → D → Option D
  | .list ds, .int i => atI ds i
  | .tuple ds, .int i => atI ds i
  | .str x, .int i => (atI x.cps.toList i).map fun c => .str ⟨#[c]⟩
  | _, _ => none
theorem atI_rp {K : PySem.W.Frag} {I : Hp} {vs : List V} {ds : List D} {i : Int} {d : D} (ra : RpA K I vs ds) (h : atI ds i = some d) : ∃ v, atI vs i = some v ∧ Rp K I v d := by
  unfold atI at h ⊢
  rw [ra.len]
  cases e : ixN ds.length i with
  | none => rw [e] at h; cases h
  | some j => rw [e] at h; exact ra.get h
theorem sok_char {x : Str} (h : SOk x) {c : Nat} (hc : c ∈ x.cps.toList) : SOk ⟨#[c]⟩ := by
  refine ⟨by show 1 ≤ sizeLine; decide, ?_⟩
  have h2 := h.2
  simp only [PyData.canLay0] at h2 ⊢
  unfold PyData.strOk at h2 ⊢
  rw [Array.all_eq_true_iff_forall_mem] at h2 ⊢
  intro b hb
  have e : b = c := by simpa using hb
  rw [e]
  exact h2 c (by simpa using hc)
theorem atI_mem {α : Type} {xs : List α} {i : Int} {v : α} (h : atI xs i = some v) : v ∈ xs := by
  unfold atI at h
  cases e : ixN xs.length i with
  | none => rw [e] at h; cases h
  | some j => rw [e] at h; exact List.mem_of_getElem? h
theorem od_ix {K : PySem.W.Frag} : OpD K (rIx K) dIx := by
  intro I H x y d e z s p q hz Q k
  cases p with
  | lst hp ra hl =>
    cases q with
    | int i =>
      obtain ⟨v, e1, r⟩ := atI_rp ra hz
      exact .inl ⟨_, _, i, v, rfl, rfl, SqL.of (s _ _ hp), e1, k v I H (Pst.refl s) r⟩
    | _ => cases hz
  | tup hp ra hl =>
    cases q with
    | int i =>
      obtain ⟨v, e1, r⟩ := atI_rp ra hz
      exact .inr (.inl ⟨_, _, i, v, rfl, rfl, same_t s hp, e1, k v I H (Pst.refl s) r⟩)
    | _ => cases hz
  | str hx =>
    cases q with
    | int i =>
      have hz : (atI _ i).map _ = some z := hz
      obtain ⟨c, e1, rfl⟩ := Option.map_eq_some_iff.mp hz
      exact .inr (.inr ⟨_, i, c, rfl, rfl, hx.1, e1, k _ I H (Pst.refl s) (.str (sok_char hx (atI_mem e1)))⟩)
    | _ => cases hz
  | _ => cases hz
theorem de_ix (ha : DE X S a ma) (hb : DE X S b mb) (hs : PlainIx b := by exact fun _ _ => rfl) : DE X S (.Subscript a b pos) (mOp dIx ma mb) := PE.imp (pe_ix ix_seq ha hb hs) fun _ _ _ h => te_op od_ix h

abbrev MO (G : Type) := Env → G → Option (Option Int × G)
def tO {G : Type} (K : PySem.W.Frag) (S : Gs G) (m : MO G) : TO := fun σ H Q => ∃ w env g b g', Rel K S w env g σ H ∧ m env g = some (b, g') ∧
  ∀ I' H', Same w.I I' → Rel K S (w.im I') env g' σ H' → Q b H'
structure DO {G : Type} (X : Cx) (S : Gs G) (e : Option Expr) (m : MO G) : Prop where
  po : PO X e (tO X.K S m)
def mNo : MO G := fun _ g => some (none, g)
def mPart (ma : ME G) : MO G := fun env g => bD (ma env g) fun x g1 => match x with
  | .int i => some (some i, g1)
  | _ => none
theorem do_none : DO X S none mNo := ⟨⟨fun pins s σ H Q I h => (po_none (X := X)).run pins s σ H Q I (by
  obtain ⟨w, env, g, d, g', R, e, k⟩ := h
  cases e
  exact k w.I H (Same.refl _) R)⟩⟩
theorem do_some (h : DE X S e ma) : DO X S (some e) (mPart ma) := ⟨⟨fun pins s σ H Q I q => (po_some h).run pins s σ H Q I (by
  obtain ⟨w, env, g, d, g', R, e, k⟩ := q
  obtain ⟨x, g1, e1, e⟩ := bD_some e
  cases x with
  | int i =>
    cases e
    exact ⟨w, env, g, _, g', R, e1, fun v I' H' s' R' p => by cases p; exact ⟨i, rfl, k I' H' s' R'⟩⟩
  | _ => cases e)⟩⟩
def cut {α : Type} (xs : List α) (lo hi : Option Int) : List α := (xs.drop (HT.sIx xs.length 0 lo)).take (HT.sIx xs.length xs.length hi - HT.sIx xs.length 0 lo)
theorem cut_rp {K : PySem.W.Frag} {I : Hp} {vs : List V} {ds : List D} (ra : RpA K I vs ds) (lo hi : Option Int) : RpA K I (cutV vs lo hi) (cut ds lo hi) := by
  unfold cutV cut
  rw [ra.len]
  exact (ra.drop _).take _
theorem cut_le {α : Type} (xs : List α) (lo hi : Option Int) : (cut xs lo hi).length ≤ xs.length := by
  unfold cut
  rw [List.length_take, List.length_drop]
  omega
/-- a list's slice -/
def mSlL (ma : ME G) (lo hi : MO G) : ML G := fun env g => bD (ma env g) fun x g1 => bD (lo env g1) fun l g2 => bD (hi env g2) fun h g3 => match x with
  | .list ds => some (cut ds l h, g3)
  | _ => none
theorem df_slice {lo hi : Option Expr} {ml mh : MO G} {p2 : Pos} (ha : DE X S a ma) (hl : DO X S lo ml) (hh : DO X S hi mh) : DF X S (.Subscript a (.Slice lo hi none p2) pos) (mSlL ma ml mh) := PE.imp (pe_slice sl_list ha hl.po hh.po) fun σ H Q q => by
  obtain ⟨w, env, g, d, g', R, e, k⟩ := q
  obtain ⟨x, g1, e1, e⟩ := bD_some e
  obtain ⟨l, g2, e2, e⟩ := bD_some e
  obtain ⟨h, g3, e3, e⟩ := bD_some e
  cases x with
  | list ds =>
    cases e
    refine ⟨w, env, g, _, g1, R, e1, fun v I1 H1 s1 R1 p1 => ⟨w.im I1, env, g1, l, g2, R1, e2, fun I2 H2 s2 R2 => ⟨w.im I2, env, g2, h, g', R2, e3, fun I3 H3 s3 R3 => ?_⟩⟩⟩
    cases p1 with
    | lst hp ra hz =>
      refine ⟨_, _, rfl, SqL.of (R3.eI _ _ (s3 _ _ (s2 _ _ hp))), fun p h0 => ?_⟩
      exact k p _ I3 _ (s1.trans (s2.trans s3)) (R3.alloc h0) (R3.nob h0) upd_same (cut_rp (ra.mono (s2.trans s3)) l h) (Nat.le_trans (cut_le ds l h) hz)
  | _ => cases e
end
end Pd

/-! Pd: tests, calls of defs, statements, loops, comprehensions. -/
namespace Pd
open PySem PySem.Spec L2
section
variable {G : Type} {X : Cx} {S : Gs G} {a b c e : Expr} {es rest : List Expr} {pos : Pos} {ma mb mc : ME G} {mt mu : MT G} {ml : ML G}

/-! ### tests -/
def asB : D → Option Bool
  | .bool b => some b
  | _ => none
def mOpT (f : D → D → Option D) (ma mb : ME G) : MT G := fun env g => bD (ma env g) fun x g1 => bD (mb env g1) fun y g2 => ((f x y).bind asB).map (·, g2)
theorem asB_some {d : Option D} {b : Bool} (h : d.bind asB = some b) : d = some (.bool b) := by
  cases d with
  | none => cases h
  | some x => cases x with
    | bool c => cases h; rfl
    | _ => cases h
theorem dt_cmp {op : CmpOp} {r : R2} {f : D → D → Option D} (ho : OpR X (compareOp op) r) (hf : OpD X.K r f) (ha : DE X S a ma) (hb : DE X S b mb) (hm : behindInMarks op b = false) : DT X S (.Compare a [op] [b] pos) (mOpT f ma mb) :=
  PT.imp (pt_cmpR ho ha hb hm) fun σ H Q h => by
    obtain ⟨w, env, g, d, g', R, e, k⟩ := h
    obtain ⟨x, g1, e1, e⟩ := bD_some e
    obtain ⟨y, g2, e2, e⟩ := bD_some e
    obtain ⟨e3, rfl⟩ := map_some e
    have e4 := asB_some e3
    refine ⟨w, env, g, x, g1, R, e1, fun v I1 H1 s1 R1 p1 => ⟨w.im I1, env, g1, y, g', R1, e2, fun u I2 H2 s2 R2 p2 => ?_⟩⟩
    exact hf R2.eI (p1.mono s2) p2 e4 fun v3 I3 H3 ps p3 => by cases p3; exact ⟨d, rfl, k I3 H3 (s1.trans (s2.trans ps.eI)) (R2.pst ps)⟩
def dTru : D → Option Bool
  | .none => some false
  | .bool b => some b
  | .int i => some (i != 0)
  | .str x => some ((x.length : Int) != 0)
  | .list ds => some (!ds.isEmpty)
  | .tuple ds => some (!ds.isEmpty)
  | .dict _ => none
def mTru (ma : ME G) : MT G := fun env g => bD (ma env g) fun x g1 => (dTru x).map (·, g1)
theorem rpa_empty {K : PySem.W.Frag} {I : Hp} {vs : List V} {ds : List D} (h : RpA K I vs ds) : vs.isEmpty = ds.isEmpty := by cases h <;> rfl
theorem dt_tru (ha : DE X S a ma) (he : ∀ whole, isTrue a X.env whole = (do let v ← whole; standAt a.pos; holding [v] (truthy v)) := by intro _; rfl) : DT X S a (mTru ma) := PT.imp (pt_truth ha he) fun σ H Q h => by
  obtain ⟨w, env, g, d, g', R, e, k⟩ := h
  obtain ⟨x, g1, e1, e⟩ := bD_some e
  obtain ⟨e3, rfl⟩ := map_some e
  refine ⟨w, env, g, x, g', R, e1, fun v I1 H1 s1 R1 p1 => ⟨d, ?_, k I1 H1 s1 R1⟩⟩
  cases p1 with
  | non => cases e3; rfl
  | bl b => cases e3; rfl
  | int i => cases e3; rfl
  | str hx => cases e3; exact ⟨hx.1, rfl⟩
  | lst hp ra hz => cases e3; exact .inl ⟨_, SqL.of (R1.eI _ _ hp), by rw [rpa_empty ra]⟩
  | tup hp ra hz => cases e3; exact .inr (.inl ⟨_, same_t R1.eI hp, by rw [rpa_empty ra]⟩)
def mNot (mt : MT G) : MT G := fun env g => bD (mt env g) fun b g1 => some (!b, g1)
theorem dt_not (h : DT X S a mt) : DT X S (.UnaryOp .Not a pos) (mNot mt) := PT.imp (pt_not h) fun σ H Q q => by
  obtain ⟨w, env, g, d, g', R, e, k⟩ := q
  obtain ⟨x, g1, e1, e⟩ := bD_some e
  cases e
  exact ⟨w, env, g, x, g', R, e1, fun I1 H1 s1 R1 => k I1 H1 s1 R1⟩
def mAnd (mt mu : MT G) : MT G := fun env g => bD (mt env g) fun b g1 => if b = true then mu env g1 else some (false, g1)
def mOr (mt mu : MT G) : MT G := fun env g => bD (mt env g) fun b g1 => if b = true then some (true, g1) else mu env g1
theorem dw_and1 (h : DT X S a mt) : DW X S (.BoolOp .And [a] pos) mt := pw_and1 h
theorem dw_or1 (h : DT X S a mt) : DW X S (.BoolOp .Or [a] pos) mt := pw_or1 h
theorem tt_and {σ : St} {H : Hp} {Q : Bool → Hp → Prop} (q : tT X.K S (mAnd mt mu) σ H Q) : tAnd (tT X.K S mt) (tT X.K S mu) σ H Q := by
  obtain ⟨w, env, g, d, g', R, e, k⟩ := q
  obtain ⟨x, g1, e1, e⟩ := bD_some e
  refine ⟨w, env, g, x, g1, R, e1, fun I1 H1 s1 R1 => ?_⟩
  cases x with
  | true => exact ⟨w.im I1, env, g1, d, g', R1, e, fun I2 H2 s2 R2 => k I2 H2 (s1.trans s2) R2⟩
  | false => cases e; exact k I1 H1 s1 R1
theorem tt_or {σ : St} {H : Hp} {Q : Bool → Hp → Prop} (q : tT X.K S (mOr mt mu) σ H Q) : tOr (tT X.K S mt) (tT X.K S mu) σ H Q := by
  obtain ⟨w, env, g, d, g', R, e, k⟩ := q
  obtain ⟨x, g1, e1, e⟩ := bD_some e
  refine ⟨w, env, g, x, g1, R, e1, fun I1 H1 s1 R1 => ?_⟩
  cases x with
  | false => exact ⟨w.im I1, env, g1, d, g', R1, e, fun I2 H2 s2 R2 => k I2 H2 (s1.trans s2) R2⟩
  | true => cases e; exact k I1 H1 s1 R1
theorem dw_and (ha : DT X S a mt) (hb : DW X S (.BoolOp .And (b :: rest) pos) mu) : DW X S (.BoolOp .And (a :: b :: rest) pos) (mAnd mt mu) := PW.imp (pw_and ha hb) fun _ _ _ => tt_and
theorem dw_or (ha : DT X S a mt) (hb : DW X S (.BoolOp .Or (b :: rest) pos) mu) : DW X S (.BoolOp .Or (a :: b :: rest) pos) (mOr mt mu) := PW.imp (pw_or ha hb) fun _ _ _ => tt_or
/-- .. as values, of bools -/
def mBAnd (ma mb : ME G) : ME G := fun env g => bD (ma env g) fun x g1 => match x with
  | .bool true => mb env g1
  | .bool false => some (.bool false, g1)
  | _ => none
def mBOr (ma mb : ME G) : ME G := fun env g => bD (ma env g) fun x g1 => match x with
  | .bool false => mb env g1
  | .bool true => some (.bool true, g1)
  | _ => none
def mBNot (ma : ME G) : ME G := fun env g => bD (ma env g) fun x g1 => match x with
  | .bool b => some (.bool (!b), g1)
  | _ => none
theorem de_and1 {op} (h : DE X S a ma) : DE X S (.BoolOp op [a] pos) ma := pe_one h
theorem de_and (ha : DE X S a ma) (hb : DE X S (.BoolOp .And (b :: rest) pos) mb) : DE X S (.BoolOp .And (a :: b :: rest) pos) (mBAnd ma mb) := PE.imp (pe_and ha hb) fun σ H Q q => by
  obtain ⟨w, env, g, d, g', R, e, k⟩ := q
  obtain ⟨x, g1, e1, e⟩ := bD_some e
  refine ⟨w, env, g, x, g1, R, e1, fun v I1 H1 s1 R1 p1 => ?_⟩
  cases x with
  | bool x =>
    cases p1
    refine ⟨x, rfl, ?_⟩
    cases x with
    | true => exact ⟨w.im I1, env, g1, d, g', R1, e, fun u I2 H2 s2 R2 p2 => k u I2 H2 (s1.trans s2) R2 p2⟩
    | false => cases e; exact k _ I1 H1 s1 R1 (.bl _)
  | _ => cases e
theorem de_or (ha : DE X S a ma) (hb : DE X S (.BoolOp .Or (b :: rest) pos) mb) : DE X S (.BoolOp .Or (a :: b :: rest) pos) (mBOr ma mb) := PE.imp (pe_or ha hb) fun σ H Q q => by
  obtain ⟨w, env, g, d, g', R, e, k⟩ := q
  obtain ⟨x, g1, e1, e⟩ := bD_some e
  refine ⟨w, env, g, x, g1, R, e1, fun v I1 H1 s1 R1 p1 => ?_⟩
  cases x with
  | bool x =>
    cases p1
    refine ⟨x, rfl, ?_⟩
    cases x with
    | false => exact ⟨w.im I1, env, g1, d, g', R1, e, fun u I2 H2 s2 R2 p2 => k u I2 H2 (s1.trans s2) R2 p2⟩
    | true => cases e; exact k _ I1 H1 s1 R1 (.bl _)
  | _ => cases e
theorem de_not (ha : DE X S a ma) : DE X S (.UnaryOp .Not a pos) (mBNot ma) := PE.imp (pe_not ha) fun σ H Q q => by
  obtain ⟨w, env, g, d, g', R, e, k⟩ := q
  obtain ⟨x, g1, e1, e⟩ := bD_some e
  cases x with
  | bool x =>
    cases e
    exact ⟨w, env, g, _, g', R, e1, fun v I1 H1 s1 R1 p1 => by cases p1; exact ⟨x, rfl, k _ I1 H1 s1 R1 (.bl _)⟩⟩
  | _ => cases e
def mIf {α : Type} (mt : MT G) (ma mb : Env → G → Option (α × G)) : Env → G → Option (α × G) := fun env g => bD (mt env g) fun b g1 => if b = true then ma env g1 else mb env g1
theorem de_if (hc : DT X S c mt) (ha : DE X S a ma) (hb : DE X S b mb) : DE X S (.IfExp c a b pos) (mIf mt ma mb) := PE.imp (pe_ifExp hc ha hb) fun σ H Q q => by
  obtain ⟨w, env, g, d, g', R, e, k⟩ := q
  obtain ⟨x, g1, e1, e⟩ := bD_some e
  refine ⟨w, env, g, x, g1, R, e1, fun I1 H1 s1 R1 => ?_⟩
  cases x with
  | true => exact ⟨w.im I1, env, g1, d, g', R1, e, fun u I2 H2 s2 R2 p2 => k u I2 H2 (s1.trans s2) R2 p2⟩
  | false => exact ⟨w.im I1, env, g1, d, g', R1, e, fun u I2 H2 s2 R2 p2 => k u I2 H2 (s1.trans s2) R2 p2⟩
/-- a < b < c -/
def mChain (f f' : D → D → Option D) (ma mb mc : ME G) : ME G := fun env g => bD (ma env g) fun x g1 => bD (mb env g1) fun y g2 => match f x y with
  | some (.bool true) => bD (mc env g2) fun z g3 => (f' y z).map (·, g3)
  | some (.bool false) => some (.bool false, g2)
  | _ => none
def mChainT (f f' : D → D → Option D) (ma mb mc : ME G) : MT G := fun env g => bD (ma env g) fun x g1 => bD (mb env g1) fun y g2 => match f x y with
  | some (.bool true) => bD (mc env g2) fun z g3 => ((f' y z).bind asB).map (·, g3)
  | some (.bool false) => some (false, g2)
  | _ => none
theorem dt_chain {op op' : CmpOp} {r r' : R2} {f f' : D → D → Option D} (ho : OpR X (compareOp op) r) (hf : OpD X.K r f) (ho' : OpR X (compareOp op') r') (hf' : OpD X.K r' f') (ha : DE X S a ma) (hb : DE X S b mb) (hc : DE X S c mc) (hm : lastMarks [op, op'] [b, c] = false := by rfl) :
    DT X S (.Compare a [op, op'] [b, c] pos) (mChainT f f' ma mb mc) := PT.imp (pt_chain ho ho' ha hb hc hm) fun σ H Q q => by
  obtain ⟨w, env, g, d, g', R, e, k⟩ := q
  obtain ⟨x, g1, e1, e⟩ := bD_some e
  obtain ⟨y, g2, e2, e⟩ := bD_some e
  refine ⟨w, env, g, x, g1, R, e1, fun v I1 H1 s1 R1 p1 => ⟨w.im I1, env, g1, y, g2, R1, e2, fun u I2 H2 s2 R2 p2 => ?_⟩⟩
  cases e3 : f x y with
  | none => rw [e3] at e; cases e
  | some z =>
    rw [e3] at e
    cases z with
    | bool z =>
      refine hf R2.eI (p1.mono s2) p2 e3 fun v3 I3 H3 ps p3 => ?_
      cases p3
      refine ⟨z, rfl, ?_⟩
      cases z with
      | true =>
        obtain ⟨z, g3, e4, e⟩ := bD_some e
        obtain ⟨e5, rfl⟩ := map_some e
        refine ⟨w.im I3, env, g2, z, g', R2.pst ps, e4, fun v4 I4 H4 s4 R4 p4 => ?_⟩
        exact hf' R4.eI ((p2.mono ps.eI).mono s4) p4 (asB_some e5) fun v5 I5 H5 ps5 p5 => by
          cases p5
          exact ⟨d, rfl, k I5 H5 (s1.trans (s2.trans (ps.eI.trans (s4.trans ps5.eI)))) (R4.pst ps5)⟩
      | false => cases e; exact ⟨false, rfl, k I3 H3 (s1.trans (s2.trans ps.eI)) (R2.pst ps)⟩
    | _ => cases e

/-! ### a def of one's own that changes nothing: its promise -/
def spP (K : PySem.W.Frag) (F : List D → Option D) : Sp := fun vs H Q _ => ∃ I ds d, Same I H ∧ RpA K I vs ds ∧ F ds = some d ∧ ∀ v I' H', Pst I H I' H' → Rp K I' v d → Q v H'
theorem de_callP {x : Str} {F : List D → Option D} {p : Pos}
    (run : PE X (.Call (.Name x p) (e :: es) [] pos) (tCall (spP X.K F) [] E0 (tA X.K S ml))) : DE X S (.Call (.Name x p) (e :: es) [] pos) (mCall F ml) := PE.imp run fun σ H Q q => by
  obtain ⟨w, env, g, d, g', R, e, k⟩ := q
  obtain ⟨xs, g1, e1, e⟩ := bD_some e
  obtain ⟨e3, rfl⟩ := map_some e
  refine ⟨w, env, g, xs, g', R, e1, fun vs I1 H1 s1 R1 p1 => ?_⟩
  exact ⟨I1, xs, d, R1.eI, by rw [List.append_nil]; exact p1, e3, fun v I' H' ps r => k v I' H' (s1.trans ps.eI) (R1.pst ps) r⟩
theorem de_callP0 {x : Str} {F : List D → Option D} {p : Pos}
    (run : PE X (.Call (.Name x p) [] [] pos) (tCall (spP X.K F) [] E0 tNil)) : DE X S (.Call (.Name x p) [] [] pos) (mCall F mNil) := PE.imp run fun σ H Q q => by
  obtain ⟨w, env, g, d, g', R, e, k⟩ := q
  have e : (F []).map (·, g) = some (d, g') := e
  obtain ⟨e3, rfl⟩ := map_some e
  exact ⟨w.I, [], d, R.eI, .nil, e3, fun v I' H' ps r => k v I' H' ps.eI (R.pst ps) r⟩
/-- .. whose answer is a new list -/
def spN (K : PySem.W.Frag) (F : List D → Option (List D)) : Sp := fun vs H Q _ => ∃ I ds d, Same I H ∧ RpA K I vs ds ∧ F ds = some d ∧ ∀ p us I' H', Pst I H I' H' → H p = none → I' p = none → H' p = some (.lst us) → RpA K I' us d → d.length ≤ sizeLine → Q (.ref p) H'
theorem df_callN {x : Str} {F : List D → Option (List D)} {p : Pos}
    (run : PE X (.Call (.Name x p) (e :: es) [] pos) (tCall (spN X.K F) [] E0 (tA X.K S ml))) : DF X S (.Call (.Name x p) (e :: es) [] pos) (mCallF F ml) := PE.imp run fun σ H Q q => by
  obtain ⟨w, env, g, d, g', R, e, k⟩ := q
  obtain ⟨xs, g1, e1, e⟩ := bD_some e
  obtain ⟨e3, rfl⟩ := map_some e
  refine ⟨w, env, g, xs, g', R, e1, fun vs I1 H1 s1 R1 p1 => ?_⟩
  exact ⟨I1, xs, d, R1.eI, by rw [List.append_nil]; exact p1, e3, fun p us I' H' ps h0 hi hp ra z => k p us I' H' (s1.trans ps.eI) (R1.pst ps) ⟨hi, (R1.nob h0).h0, (R1.nob h0).f, (R1.nob h0).o⟩ hp ra z⟩
theorem df_callN0 {x : Str} {F : List D → Option (List D)} {p : Pos}
    (run : PE X (.Call (.Name x p) [] [] pos) (tCall (spN X.K F) [] E0 tNil)) : DF X S (.Call (.Name x p) [] [] pos) (mCallF F mNil) := PE.imp run fun σ H Q q => by
  obtain ⟨w, env, g, d, g', R, e, k⟩ := q
  have e : (F []).map (·, g) = some (d, g') := e
  obtain ⟨e3, rfl⟩ := map_some e
  exact ⟨w.I, [], d, R.eI, .nil, e3, fun p us I' H' ps h0 hi hp ra z => k p us I' H' ps.eI (R.pst ps) ⟨hi, (R.nob h0).h0, (R.nob h0).f, (R.nob h0).o⟩ hp ra z⟩

/-! ### a def that is handed the ghost state -/
structure Gst {G : Type} (S : Gs G) (I H : Hp) (g : G) (I' H' : Hp) (g' : G) : Prop where
  eI : Same I I'
  eH : ∀ a o, H a = some o → ¬ S.fp g a → H' a = some o
  sub : Same I' H'
  ag : ∀ a, H a ≠ none → I' a = I a
  fp' : ∀ a, S.fp g' a ↔ S.fp g a
  rt : S.root g' = S.root g
  ok : S.ok g' H'
theorem Rel.gst {K : PySem.W.Frag} {w : Wd} {env : Env} {g g' : G} {σ : St} {H H' I' : Hp} (R : Rel K S w env g σ H) (p : Gst S w.I H g I' H' g') : Rel K S (w.im I') env g' σ H' where
  e0 := fun a o e => p.eH a o (R.e0 a o e) fun z => by
    have := R.f0 a ((R.gfp a).mp z)
    rw [e] at this; cases this
  eI := p.sub
  ag := fun a o e => (p.ag a (by rw [R.e0 a o e]; simp)).trans (R.ag a o e)
  ge := R.ge.trans p.eI
  gfp := fun a => (p.fp' a).trans (R.gfp a)
  grt := p.rt.trans R.grt
  gok := p.ok
  fI := fun a ha => (p.ag a (S.dom R.gok ((R.gfp a).mpr ha))).trans (R.fI a ha)
  f0 := R.f0
  len := R.len
  slot := fun i => by
    have q := R.slot i
    cases e : env.at i with
    | un => trivial
    | sh d => rw [e] at q; obtain ⟨v, e1, r⟩ := q; exact ⟨v, e1, r.mono p.eI⟩
    | st => rw [e] at q; exact q
    | raw v => rw [e] at q; exact q
    | ow ds =>
      rw [e] at q
      obtain ⟨a, vs, e1, hp, hi, h0, hf, r, z⟩ := q
      exact ⟨a, vs, e1, p.eH _ _ hp fun z => hf ((R.gfp a).mp z), (p.ag a (by rw [hp]; simp)).trans hi, h0, hf, r.mono p.eI, z⟩
  dis := R.dis
/-- the arguments of such a def -/
def ArgOk (K : PySem.W.Frag) (I : Hp) (rt : V) (v : V) : SV → Prop
  | .sh d => Rp K I v d
  | .st => v = rt
  | .raw u => v = u
  | _ => False
inductive ArgsOk (K : PySem.W.Frag) (I : Hp) (rt : V) : List V → List SV → Prop
  | nil : ArgsOk K I rt [] []
  | cons {v vs a as} : ArgOk K I rt v a → ArgsOk K I rt vs as → ArgsOk K I rt (v :: vs) (a :: as)
theorem ArgOk.mono {K : PySem.W.Frag} {I I' : Hp} {rt v : V} {a : SV} (e : Same I I') (h : ArgOk K I rt v a) : ArgOk K I' rt v a := by
  cases a with
  | sh d => exact Rp.mono e h
  | _ => exact h
theorem ArgsOk.len {K : PySem.W.Frag} {I : Hp} {rt : V} : ∀ {vs : List V} {as : List SV}, ArgsOk K I rt vs as → vs.length = as.length
  | _, _, .nil => rfl
  | _, _, .cons _ t => by rw [List.length_cons, List.length_cons, ArgsOk.len t]
abbrev MG (G : Type) := Env → G → Option (List SV × G)
def tG {G : Type} (K : PySem.W.Frag) (S : Gs G) (m : MG G) : TA := fun σ H Q => ∃ w env g as g', Rel K S w env g σ H ∧ m env g = some (as, g') ∧
  ∀ vs I' H', Same w.I I' → Rel K S (w.im I') env g' σ H' → ArgsOk K I' w.rt vs as → Q vs H'
abbrev DG {G : Type} (X : Cx) (S : Gs G) (es : List Expr) (m : MG G) : Prop := PA X es (tG X.K S m)
def gNil : MG G := fun _ g => some ([], g)
def gCons (ma : ME G) (ml : MG G) : MG G := fun env g => bD (ma env g) fun x g1 => bD (ml env g1) fun xs g2 => some (.sh x :: xs, g2)
def gConsS (i : Nat) (ml : MG G) : MG G := fun env g => match env.at i with
  | .st => bD (ml env g) fun xs g2 => some (.st :: xs, g2)
  | .raw v => bD (ml env g) fun xs g2 => some (.raw v :: xs, g2)
  | _ => none
theorem dg_nil : DG X S [] gNil := PA.imp pa_nil fun _ H _ ⟨w, _, _, _, _, R, e, k⟩ => by cases e; exact k [] w.I H (Same.refl _) R .nil
theorem dg_cons {mg : MG G} (ha : DE X S e ma) (hr : DG X S es mg) (hs : starEach (e :: es) X.env = (false, eval e X.env) :: starEach es X.env := by rfl) : DG X S (e :: es) (gCons ma mg) := PA.imp (pa_cons ha hr hs) fun σ H Q h => by
  obtain ⟨w, env, g, d, g', R, e, k⟩ := h
  obtain ⟨x, g1, e1, e⟩ := bD_some e
  obtain ⟨y, g2, e2, e⟩ := bD_some e
  cases e
  exact ⟨w, env, g, x, g1, R, e1, fun v I1 H1 s1 R1 p1 => ⟨w.im I1, env, g1, y, g', R1, e2, fun vs I2 H2 s2 R2 p2 => k (v :: vs) I2 H2 (s1.trans s2) R2 (.cons (p1.mono s2) p2)⟩⟩
theorem dg_st {mg : MG G} {i : Nat} {x : Str} {pos' : Pos} (hr : DG X S es mg) (hN : X.N[i]? = some x := by rfl) (hv : Vis X.env.scope x := by first | exact Or.inl rfl | exact Or.inr (Or.inl rfl) | exact Or.inr (Or.inr rfl)) (hd : (x == ("__debug__" : Str)) = false := by decide)
    (hcd : (x == ("__classdict__" : Str)) = false := by decide) (hs : starEach (.Name x pos' :: es) X.env = (false, eval (.Name x pos') X.env) :: starEach es X.env := by rfl) : DG X S (.Name x pos' :: es) (gConsS i mg) := PA.imp (pa_cons (pe_var hN hv hd hcd) hr hs) fun σ H Q h => by
  obtain ⟨w, env, g, d, g', R, e, k⟩ := h
  have q := R.slot i
  unfold gConsS at e
  cases z : env.at i with
  | st =>
    rw [z] at e q
    obtain ⟨y, g2, e2, e⟩ := bD_some e
    cases e
    exact ⟨_, q, w, env, g, y, g', R, e2, fun vs I2 H2 s2 R2 p2 => k _ I2 H2 s2 R2 (.cons rfl p2)⟩
  | raw v =>
    rw [z] at e q
    obtain ⟨y, g2, e2, e⟩ := bD_some e
    cases e
    exact ⟨_, q, w, env, g, y, g', R, e2, fun vs I2 H2 s2 R2 p2 => k _ I2 H2 s2 R2 (.cons rfl p2)⟩
  | _ => rw [z] at e; cases e
def spG {G : Type} (K : PySem.W.Frag) (S : Gs G) (F : List SV → G → Option (D × G)) : Sp := fun vs H Q _ => ∃ I g as d g', Same I H ∧ S.ok g H ∧ (∀ a, S.fp g a → I a = none) ∧ ArgsOk K I (S.root g) vs as ∧ F as g = some (d, g') ∧
  ∀ v I' H', Gst S I H g I' H' g' → Rp K I' v d → Q v H'
def mCallG (F : List SV → G → Option (D × G)) (mg : MG G) : ME G := fun env g => bD (mg env g) fun as g1 => F as g1
theorem de_callG {x : Str} {F : List SV → G → Option (D × G)} {p : Pos} {mg : MG G}
    (run : PE X (.Call (.Name x p) (e :: es) [] pos) (tCall (spG X.K S F) [] E0 (tG X.K S mg))) : DE X S (.Call (.Name x p) (e :: es) [] pos) (mCallG F mg) := PE.imp run fun σ H Q q => by
  obtain ⟨w, env, g, d, g', R, e, k⟩ := q
  obtain ⟨as, g1, e1, e⟩ := bD_some e
  refine ⟨w, env, g, as, g1, R, e1, fun vs I1 H1 s1 R1 p1 => ?_⟩
  refine ⟨I1, g1, as, d, g', R1.eI, R1.gok, fun a ha => R1.fI a ((R1.gfp a).mp ha), ?_, e, fun v I' H' ps r => k v I' H' (s1.trans ps.eI) (R1.gst ps) r⟩
  rw [List.append_nil, R1.grt]
  exact p1
end
end Pd

/-! Pd: statements, loops, comprehensions, defs. -/
namespace Pd
open PySem PySem.Spec L2

/-- how a statement ends: goes on, breaks, continues, returns data, returns a new list -/
inductive Ct where
  | nx | br | co | re (d : D) | rl (ds : List D)
abbrev MS (G : Type) := Env → G → Option (Ct × Env × G)
section
variable {G : Type} {X : Cx} {S : Gs G} {a b c e : Expr} {es rest : List Expr} {pos : Pos} {ma mb mc : ME G} {mt mu : MT G} {ml : ML G} {st : Stmt} {sts body : List Stmt} {m m1 m2 : MS G}
variable {K : PySem.W.Frag} {w : Wd} {env env' : Env} {g g' : G} {σ : St} {H H' I' : Hp}

/-! ### stores to slots -/
theorem at_set (env : Env) (i k : Nat) (sv : SV) : Env.at (env.set i sv) k = if k = i ∧ i < env.length then sv else env.at k := by
  show (env.set i sv).getD k .un = if k = i ∧ i < env.length then sv else env.getD k .un
  rw [List.getD_eq_getElem?_getD, List.getD_eq_getElem?_getD]
  by_cases h : k = i
  · subst h
    by_cases z : k < env.length
    · rw [List.getElem?_set_self z, if_pos ⟨rfl, z⟩]; rfl
    · rw [if_neg (fun q => z q.2), List.set_eq_of_length_le (by omega)]
  · rw [List.getElem?_set_ne (Ne.symm h), if_neg (fun q => h q.1)]
theorem get_set {α : Type} (σ : List (Option α)) (i k : Nat) (v : Option α) : (σ.set i v)[k]? = if k = i ∧ i < σ.length then some v else σ[k]? := by
  by_cases h : k = i
  · subst h
    by_cases z : k < σ.length
    · rw [List.getElem?_set_self z, if_pos ⟨rfl, z⟩]
    · rw [if_neg (fun q => z q.2), List.set_eq_of_length_le (by omega)]
  · rw [List.getElem?_set_ne (Ne.symm h), if_neg (fun q => h q.1)]
/-- a slot of another: the same in both -/
theorem SlotOk.of_eq {σ' : St} {i : Nat} {sv : SV} (e : σ'[i]? = σ[i]?) (h : SlotOk K w σ H i sv) : SlotOk K w σ' H i sv := by
  cases sv with
  | un => trivial
  | sh d => obtain ⟨v, e1, r⟩ := h; exact ⟨v, e.trans e1, r⟩
  | st => exact Eq.trans e h
  | raw v => exact Eq.trans e h
  | ow ds => obtain ⟨p, vs, e1, r⟩ := h; exact ⟨p, vs, e.trans e1, r⟩
theorem Rel.put {i : Nat} {v : V} {sv : SV} (R : Rel K S w env g σ H) (h1 : ∀ k, (σ.set i (some v))[k]? = some (some v) → k = i → SlotOk K w (σ.set i (some v)) H k sv)
    (h2 : ∀ p ds, sv = .ow ds → v = .ref p → ∀ j es, env.at j = .ow es → σ[j]? ≠ some (some (.ref p))) : Rel K S w (env.set i sv) g (σ.set i (some v)) H where
  e0 := R.e0
  eI := R.eI
  ag := R.ag
  ge := R.ge
  gfp := R.gfp
  grt := R.grt
  gok := R.gok
  fI := R.fI
  f0 := R.f0
  len := by rw [List.length_set, List.length_set]; exact R.len
  slot := fun k => by
    rw [at_set]
    by_cases h : k = i ∧ i < env.length
    · rw [if_pos h]
      exact h1 k (by rw [get_set, if_pos ⟨h.1, by rw [R.len]; exact h.2⟩]) h.1
    · rw [if_neg h]
      exact (R.slot k).of_eq (by rw [get_set, if_neg (by rw [R.len]; exact h)])
  dis := fun k j p ds es hkj e1 e2 q1 q2 => by
    rw [at_set] at e1 e2
    rw [get_set, R.len] at q1 q2
    by_cases hk : k = i ∧ i < env.length
    · have hj : ¬ (j = i ∧ i < env.length) := fun z => hkj (hk.1.trans z.1.symm)
      rw [if_pos hk] at e1 q1
      rw [if_neg hj] at e2 q2
      cases q1
      exact h2 p ds e1 rfl j es e2 q2
    · rw [if_neg hk] at e1 q1
      by_cases hj : j = i ∧ i < env.length
      · rw [if_pos hj] at e2 q2
        cases q2
        exact h2 p es e2 rfl k ds e1 q1
      · rw [if_neg hj] at e2 q2
        exact R.dis k j p ds es hkj e1 e2 q1 q2
theorem Rel.putD {i : Nat} {v : V} {d : D} (R : Rel K S w env g σ H) (r : Rp K w.I v d) : Rel K S w (env.set i (.sh d)) g (σ.set i (some v)) H :=
  R.put (fun k e _ => ⟨v, e, r⟩) fun p ds z => nomatch z
theorem Rel.putRaw {i : Nat} {v : V} (R : Rel K S w env g σ H) : Rel K S w (env.set i (.raw v)) g (σ.set i (some v)) H :=
  R.put (fun k e _ => e) fun p ds z => nomatch z
theorem Rel.putL {i : Nat} {p : Addr} {vs : List V} {ds : List D} (R : Rel K S w env g σ H) (n : Nob w env σ p) (hp : H p = some (.lst vs)) (ra : RpA K w.I vs ds) (hz : ds.length ≤ sizeLine) : Rel K S w (env.set i (.ow ds)) g (σ.set i (some (.ref p))) H :=
  R.put (fun k e _ => ⟨p, vs, e, hp, n.i, n.h0, n.f, ra, hz⟩) fun q es z e j fs ej => by cases e; exact n.o j fs ej
/-- a list of one's own is written -/
theorem Rel.setOw {j : Nat} {p : Addr} {vs us : List V} {ds es : List D} (R : Rel K S w env g σ H) (ej : env.at j = .ow ds) (sj : σ[j]? = some (some (.ref p))) (hp : H p = some (.lst vs)) (hi : w.I p = none) (h0 : w.H0 p = none) (hf : ¬ w.fp p)
    (ra : RpA K w.I us es) (hz : es.length ≤ sizeLine) : Rel K S w (env.set j (.ow es)) g σ (upd H p (.lst us)) where
  e0 := fun a o e => by
    have z : a ≠ p := fun z => by rw [z, h0] at e; cases e
    rw [upd_ne z]; exact R.e0 a o e
  eI := fun a o e => by
    have z : a ≠ p := fun z => by rw [z, hi] at e; cases e
    rw [upd_ne z]; exact R.eI a o e
  ag := R.ag
  ge := R.ge
  gfp := R.gfp
  grt := R.grt
  gok := S.loc (fun a ha => by
    have z : a ≠ p := fun z => hf (z ▸ (R.gfp a).mp ha)
    exact upd_ne z) R.gok
  fI := R.fI
  f0 := R.f0
  len := by rw [List.length_set]; exact R.len
  slot := fun k => by
    rw [at_set]
    by_cases h : k = j ∧ j < env.length
    · rw [if_pos h]
      refine ⟨p, us, by rw [h.1]; exact sj, upd_same, hi, h0, hf, ra, hz⟩
    · rw [if_neg h]
      have q := R.slot k
      cases e : env.at k with
      | un => trivial
      | sh d => rw [e] at q; exact q
      | st => rw [e] at q; exact q
      | raw v => rw [e] at q; exact q
      | ow fs =>
        rw [e] at q
        obtain ⟨a, ws, e1, hp', r⟩ := q
        have hkj : j ≠ k := fun z => by
          subst z
          refine h ⟨rfl, ?_⟩
          have := (List.getElem?_eq_some_iff.mp sj).1
          rw [R.len] at this; exact this
        have ne : a ≠ p := fun z => R.dis j k p ds fs hkj ej e sj (z ▸ e1)
        exact ⟨a, ws, e1, (upd_ne ne).trans hp', r⟩
  dis := fun k l q fs hs hkl e1 e2 q1 q2 => by
    have un : ∀ k fs, Env.at (env.set j (.ow es)) k = .ow fs → ∃ gs, env.at k = .ow gs := fun k fs e => by
      rw [at_set] at e
      by_cases h : k = j ∧ j < env.length
      · exact ⟨ds, by rw [h.1]; exact ej⟩
      · rw [if_neg h] at e; exact ⟨fs, e⟩
    obtain ⟨gs, f1⟩ := un k fs e1
    obtain ⟨gs', f2⟩ := un l hs e2
    exact R.dis k l q gs gs' hkl f1 f2 q1 q2
/-- a slot's own list becomes one that stands -/
def Env.frz (env : Env) (j : Nat) : Env := match env.at j with
  | .ow ds => env.set j (.sh (.list ds))
  | _ => env
theorem Rel.frz (j : Nat) (R : Rel K S w env g σ H) : ∃ I', Same w.I I' ∧ Rel K S (w.im I') (env.frz j) g σ H := by
  unfold Env.frz
  cases e : env.at j with
  | ow ds =>
    have q := R.slot j
    rw [e] at q
    obtain ⟨p, vs, e1, hp, hi, h0, hf, ra, hz⟩ := q
    refine ⟨upd w.I p (.lst vs), same_new hi, ?_⟩
    exact {
      e0 := R.e0
      eI := fun b u q => by
        have q : upd w.I p (.lst vs) b = some u := q
        by_cases z : b = p
        · subst z; rw [upd_same] at q; rw [hp]; exact q
        · rw [upd_ne z] at q; exact R.eI b u q
      ag := fun a u e => by
        have z : a ≠ p := fun z => by rw [z, h0] at e; cases e
        exact (upd_ne z).trans (R.ag a u e)
      ge := R.ge.trans (same_new hi)
      gfp := R.gfp
      grt := R.grt
      gok := R.gok
      fI := fun a ha => by
        have z : a ≠ p := fun z => hf (z ▸ ha)
        exact (upd_ne z).trans (R.fI a ha)
      f0 := R.f0
      len := by rw [List.length_set]; exact R.len
      slot := fun k => by
        rw [at_set]
        by_cases h : k = j ∧ j < env.length
        · rw [if_pos h]
          exact ⟨.ref p, by rw [h.1]; exact e1, .lst upd_same (ra.mono (same_new hi)) hz⟩
        · rw [if_neg h]
          have q := R.slot k
          cases e' : env.at k with
          | un => trivial
          | sh d => rw [e'] at q; obtain ⟨v, f1, r⟩ := q; exact ⟨v, f1, r.mono (same_new hi)⟩
          | st => rw [e'] at q; exact q
          | raw v => rw [e'] at q; exact q
          | ow fs =>
            rw [e'] at q
            obtain ⟨a, ws, f1, hp', hi', h0', hf', r, z⟩ := q
            have hkj : j ≠ k := fun z => by
              subst z
              refine h ⟨rfl, ?_⟩
              have := (List.getElem?_eq_some_iff.mp e1).1
              rw [R.len] at this; exact this
            have ne : a ≠ p := fun z => R.dis j k p ds fs hkj e e' e1 (z ▸ f1)
            exact ⟨a, ws, f1, hp', (upd_ne ne).trans hi', h0', hf', r.mono (same_new hi), z⟩
      dis := fun k l q fs hs hkl e1 e2 q1 q2 => by
        have un : ∀ k fs, Env.at (env.set j (.sh (.list ds))) k = .ow fs → env.at k = .ow fs := fun k fs e => by
          rw [at_set] at e
          by_cases h : k = j ∧ j < env.length
          · rw [if_pos h] at e; cases e
          · rw [if_neg h] at e; exact e
        exact R.dis k l q fs hs hkl (un k fs e1) (un l hs e2) q1 q2 }
  | _ => exact ⟨w.I, Same.refl _, R⟩

/-! ### a statement's reading -/
def Post {G : Type} (K : PySem.W.Frag) (S : Gs G) (w : Wd) (env' : Env) (g' : G) (D : Ends) : Ct → Prop
  | .nx => ∀ σ' I' H', Same w.I I' → Rel K S (w.im I') env' g' σ' H' → D.nx σ' H'
  | .br => ∀ σ' I' H', Same w.I I' → Rel K S (w.im I') env' g' σ' H' → D.bk σ' H'
  | .co => ∀ σ' I' H', Same w.I I' → Rel K S (w.im I') env' g' σ' H' → D.ct σ' H'
  | .re d => ∀ v σ' I' H', Same w.I I' → Rel K S (w.im I') env' g' σ' H' → Rp K I' v d → D.rt v H'
  | .rl ds => ∀ p vs σ' I' H', Same w.I I' → Rel K S (w.im I') env' g' σ' H' → Nob (w.im I') env' σ' p → H' p = some (.lst vs) → RpA K I' vs ds → ds.length ≤ sizeLine → D.rt (.ref p) H'
theorem Post.mono {D : Ends} {c : Ct} (s : Same w.I I') (h : Post K S w env' g' D c) : Post K S (w.im I') env' g' D c := by
  cases c with
  | nx => exact fun σ' I2 H2 s2 R => h σ' I2 H2 (s.trans s2) R
  | br => exact fun σ' I2 H2 s2 R => h σ' I2 H2 (s.trans s2) R
  | co => exact fun σ' I2 H2 s2 R => h σ' I2 H2 (s.trans s2) R
  | re d => exact fun v σ' I2 H2 s2 R => h v σ' I2 H2 (s.trans s2) R
  | rl ds => exact fun p vs σ' I2 H2 s2 R => h p vs σ' I2 H2 (s.trans s2) R
def tS {G : Type} (K : PySem.W.Frag) (S : Gs G) (m : MS G) : TS := fun D σ H => ∃ w env g c env' g', Rel K S w env g σ H ∧ m env g = some (c, env', g') ∧ Post K S w env' g' D c
abbrev DS {G : Type} (X : Cx) (S : Gs G) (st : Stmt) (m : MS G) : Prop := PS X st (tS X.K S m)
abbrev DB {G : Type} (X : Cx) (S : Gs G) (st : List Stmt) (m : MS G) : Prop := PSs X st (tS X.K S m)

def mSkip : MS G := fun env g => some (.nx, env, g)
def mSeq (m1 m2 : MS G) : MS G := fun env g => match m1 env g with
  | some (.nx, env1, g1) => m2 env1 g1
  | x => x
theorem db_nil : DB X S [] mSkip := PSs.imp pss_nil fun D σ H ⟨w, env, g, c, env', g', R, e, k⟩ => by
  cases e
  exact k σ w.I H (Same.refl _) R
theorem ts_seq {D : Ends} (h : tS X.K S (mSeq m1 m2) D σ H) : tSeq (tS X.K S m1) (tS X.K S m2) D σ H := by
  obtain ⟨w, env, g, c, env', g', R, e, k⟩ := h
  unfold mSeq at e
  cases e1 : m1 env g with
  | none => rw [e1] at e; cases e
  | some r =>
    obtain ⟨c1, env1, g1⟩ := r
    rw [e1] at e
    refine ⟨w, env, g, c1, env1, g1, R, e1, ?_⟩
    cases c1 with
    | nx => exact fun σ' I' H' s' R' => ⟨w.im I', env1, g1, c, env', g', R', e, k.mono s'⟩
    | _ => cases e; exact k
theorem db_cons (h1 : DS X S st m1) (h2 : DB X S sts m2) : DB X S (st :: sts) (mSeq m1 m2) := PSs.imp (pss_cons h1 h2) fun _ _ _ h => ts_seq h
theorem db_one (h : DS X S st m) : DB X S [st] m := pss_one h
def mBreak : MS G := fun env g => some (.br, env, g)
def mCont : MS G := fun env g => some (.co, env, g)
theorem ds_pass : DS X S (.Pass pos) mSkip := PS.imp ps_pass fun D σ H ⟨w, env, g, c, env', g', R, e, k⟩ => by cases e; exact k σ w.I H (Same.refl _) R
theorem ds_break : DS X S (.Break pos) mBreak := PS.imp ps_break fun D σ H ⟨w, env, g, c, env', g', R, e, k⟩ => by cases e; exact k σ w.I H (Same.refl _) R
theorem ds_continue : DS X S (.Continue pos) mCont := PS.imp ps_continue fun D σ H ⟨w, env, g, c, env', g', R, e, k⟩ => by cases e; exact k σ w.I H (Same.refl _) R
def mDrop (ma : ME G) : MS G := fun env g => bD (ma env g) fun _ g1 => some (.nx, env, g1)
theorem ds_expr (h : DE X S e ma) (hs : swapsWith e none pos.line X.env = pure false := by rfl) : DS X S (.Expr e pos) (mDrop ma) := PS.imp (ps_expr h hs) fun D σ H ⟨w, env, g, c, env', g', R, e, k⟩ => by
  obtain ⟨x, g1, e1, e⟩ := bD_some e
  cases e
  exact ⟨w, env, g, x, g', R, e1, fun v I' H' s' R' _ => k σ I' H' s' R'⟩
def mRet (ma : ME G) : MS G := fun env g => bD (ma env g) fun d g1 => some (.re d, env, g1)
theorem ds_ret (h : DE X S e ma) : DS X S (.Return (some e) pos) (mRet ma) := PS.imp (ps_ret h) fun D σ H ⟨w, env, g, c, env', g', R, e, k⟩ => by
  obtain ⟨x, g1, e1, e⟩ := bD_some e
  cases e
  exact ⟨w, env, g, x, g', R, e1, fun v I' H' s' R' p => k v σ I' H' s' R' p⟩
def mRetN : MS G := fun env g => some (.re .none, env, g)
theorem ds_retN : DS X S (.Return none pos) mRetN := PS.imp ps_retN fun D σ H ⟨w, env, g, c, env', g', R, e, k⟩ => by
  cases e
  exact k .non σ w.I H (Same.refl _) R .non
def mRetF (ml : ML G) : MS G := fun env g => bD (ml env g) fun ds g1 => some (.rl ds, env, g1)
theorem ds_retF (h : DF X S e ml) : DS X S (.Return (some e) pos) (mRetF ml) := PS.imp (ps_ret h) fun D σ H ⟨w, env, g, c, env', g', R, e, k⟩ => by
  obtain ⟨x, g1, e1, e⟩ := bD_some e
  cases e
  exact ⟨w, env, g, x, g', R, e1, fun p vs I' H' s' R' n hp ra hz => k p vs σ I' H' s' R' n hp ra hz⟩
/-- a slot that is not asked any more -/
theorem Rel.forget {i : Nat} (R : Rel K S w env g σ H) : Rel K S w (env.set i .un) g σ H where
  e0 := R.e0
  eI := R.eI
  ag := R.ag
  ge := R.ge
  gfp := R.gfp
  grt := R.grt
  gok := R.gok
  fI := R.fI
  f0 := R.f0
  len := by rw [List.length_set]; exact R.len
  slot := fun k => by
    rw [at_set]
    by_cases h : k = i ∧ i < env.length
    · rw [if_pos h]; trivial
    · rw [if_neg h]; exact R.slot k
  dis := fun k j p ds es hkj e1 e2 q1 q2 => by
    rw [at_set] at e1 e2
    by_cases hk : k = i ∧ i < env.length
    · rw [if_pos hk] at e1; cases e1
    · by_cases hj : j = i ∧ i < env.length
      · rw [if_pos hj] at e2; cases e2
      · rw [if_neg hk] at e1; rw [if_neg hj] at e2
        exact R.dis k j p ds es hkj e1 e2 q1 q2
/-- return a list of one's own -/
def mRetOw (j : Nat) : MS G := fun env g => match env.at j with
  | .ow ds => some (.rl ds, env.set j .un, g)
  | .sh d => some (.re d, env, g)
  | _ => none
theorem ds_retOw (j : Nat) {x : Str} {pos' : Pos} (hN : X.N[j]? = some x := by rfl) (hv : Vis X.env.scope x := by first | exact Or.inl rfl | exact Or.inr (Or.inl rfl) | exact Or.inr (Or.inr rfl)) (hd : (x == ("__debug__" : Str)) = false := by decide)
    (hcd : (x == ("__classdict__" : Str)) = false := by decide) : DS X S (.Return (some (.Name x pos')) pos) (mRetOw j) := PS.imp (ps_ret (pe_var hN hv hd hcd)) fun D σ H ⟨w, env, g, c, env', g', R, e, k⟩ => by
  have q := R.slot j
  unfold mRetOw at e
  cases z : env.at j with
  | ow ds =>
    rw [z] at e q
    cases e
    obtain ⟨p, vs, e1, hp, hi, h0, hf, ra, hz⟩ := q
    have jl : j < env.length := by rw [← R.len]; exact (List.getElem?_eq_some_iff.mp e1).1
    refine ⟨_, e1, k p vs σ w.I H (Same.refl _) R.forget ⟨hi, h0, hf, fun i es ei si => ?_⟩ hp ra hz⟩
    rw [at_set] at ei
    by_cases hij : i = j ∧ j < env.length
    · rw [if_pos hij] at ei; cases ei
    · rw [if_neg hij] at ei
      exact R.dis j i p ds es (fun q => hij ⟨q.symm, jl⟩) z ei e1 si
  | sh d =>
    rw [z] at e q
    cases e
    obtain ⟨v, e1, r⟩ := q
    exact ⟨v, e1, k v σ w.I H (Same.refl _) R r⟩
  | _ => rw [z] at e; cases e
def mIfS (mt : MT G) (m1 m2 : MS G) : MS G := fun env g => bD (mt env g) fun b g1 => if b = true then m1 env g1 else m2 env g1
theorem ds_if {sts2 : List Stmt} (hc : DT X S c mt) (h1 : DB X S sts m1) (h2 : DB X S sts2 m2) : DS X S (.If c sts sts2 pos) (mIfS mt m1 m2) := PS.imp (ps_if hc h1 h2) fun D σ H ⟨w, env, g, c, env', g', R, e, k⟩ => by
  obtain ⟨x, g1, e1, e⟩ := bD_some e
  refine ⟨w, env, g, x, g1, R, e1, fun I' H' s' R' => ?_⟩
  cases x with
  | true => exact ⟨w.im I', env, g1, c, env', g', R', e, k.mono s'⟩
  | false => exact ⟨w.im I', env, g1, c, env', g', R', e, k.mono s'⟩
/-- a list of one's own is handed out from here on -/
def mFrz (j : Nat) (m : MS G) : MS G := fun env g => m (env.frz j) g
theorem ds_frz (j : Nat) (h : DS X S st m) : DS X S st (mFrz j m) := PS.imp h fun D σ H ⟨w, env, g, c, env', g', R, e, k⟩ => by
  obtain ⟨I', s', R'⟩ := R.frz j
  exact ⟨w.im I', env.frz j, g, c, env', g', R', e, k.mono s'⟩

/-! ### x = e -/
def mSet (i : Nat) (ma : ME G) : MS G := fun env g => bD (ma env g) fun d g1 => some (.nx, env.set i (.sh d), g1)
def mSetF (i : Nat) (ml : ML G) : MS G := fun env g => bD (ml env g) fun ds g1 => some (.nx, env.set i (.ow ds), g1)
theorem ts_set {i : Nat} {D : Ends} (h : tS X.K S (mSet i ma) D σ H) : tAsg (tE X.K S ma) (gName i) D σ H := by
  obtain ⟨w, env, g, c, env', g', R, e, k⟩ := h
  obtain ⟨x, g1, e1, e⟩ := bD_some e
  cases e
  exact ⟨w, env, g, x, g', R, e1, fun v I' H' s' R' p => k _ I' H' s' (R'.putD p)⟩
theorem ts_setF {i : Nat} {D : Ends} (h : tS X.K S (mSetF i ml) D σ H) : tAsg (tF X.K S ml) (gName i) D σ H := by
  obtain ⟨w, env, g, c, env', g', R, e, k⟩ := h
  obtain ⟨x, g1, e1, e⟩ := bD_some e
  cases e
  exact ⟨w, env, g, x, g', R, e1, fun p vs I' H' s' R' n hp ra hz => k _ I' H' s' (R'.putL n hp ra hz)⟩
theorem ds_set {i : Nat} {x : Str} {pos' : Pos} (hN : X.N.Nodup) (hi : X.N[i]? = some x) (hx : Loc X.env.scope x) (he : DE X S e ma) (hs : swapsWith e (some (.Name x pos')) pos.line X.env = pure false := by rfl)
    (hf : X.fn x = true ∨ X.env.scope.names.lookup x = some .local := by first | exact .inl rfl | exact .inr rfl | assumption) : DS X S (.Assign [.Name x pos'] e pos) (mSet i ma) := PS.imp (ps_set hN hi hx he hs hf) fun _ _ _ h => ts_set h
theorem ds_setF {i : Nat} {x : Str} {pos' : Pos} (hN : X.N.Nodup) (hi : X.N[i]? = some x) (hx : Loc X.env.scope x) (he : DF X S e ml) (hs : swapsWith e (some (.Name x pos')) pos.line X.env = pure false := by rfl)
    (hf : X.fn x = true ∨ X.env.scope.names.lookup x = some .local := by first | exact .inl rfl | exact .inr rfl | assumption) : DS X S (.Assign [.Name x pos'] e pos) (mSetF i ml) := PS.imp (ps_set hN hi hx he hs hf) fun _ _ _ h => ts_setF h

/-! ### targets -/
abbrev MTg (G : Type) := D → Env → G → Option (Env × G)
def tTg {G : Type} (K : PySem.W.Frag) (S : Gs G) (idx : List Nat) (b : MTg G) : TG := fun v σ H Q => ∃ w env g d env' g', Rel K S w env g σ H ∧ Rp K w.I v d ∧ b d env g = some (env', g') ∧
  ∀ σ' I' H', Same w.I I' → Rel K S (w.im I') env' g' σ' H' → σ'.length = σ.length → (∀ k, k ∉ idx → σ'[k]? = σ[k]?) → Q σ' H'
structure DTg {G : Type} (X : Cx) (S : Gs G) (tg : Expr) (idx : List Nat) (b : MTg G) : Prop where
  pg : PG X tg (tTg X.K S idx b)
  ok : ∀ d env g env' g', b d env g = some (env', g') → env'.length = env.length ∧ ∀ k, k ∉ idx → env'.at k = env.at k
def bName (i : Nat) : MTg G := fun d env g => some (env.set i (.sh d), g)
theorem PG.imp {tg : Expr} {t t' : TG} (h : PG X tg t) (i : ∀ v σ H Q, t' v σ H Q → t v σ H Q) : PG X tg t' := ⟨fun pins s σ H v u Q I r q => h.run pins s σ H v u Q I r (i _ _ _ _ q)⟩
theorem dg_name {i : Nat} {x : Str} (hN : X.N.Nodup) (hi : X.N[i]? = some x) (hx : Loc X.env.scope x) (hf : X.fn x = true ∨ X.env.scope.names.lookup x = some .local := by first | exact .inl rfl | exact .inr rfl | assumption) : DTg X S (.Name x pos) [i] (bName i) where
  pg := PG.imp (pg_name hN hi hx hf) fun v σ H Q ⟨w, env, g, d, env', g', R, p, e, k⟩ => by
    cases e
    exact k _ w.I _ (Same.refl _) (R.putD p) (by rw [List.length_set]) fun j hj => by rw [get_set, if_neg (fun z => hj (by simp [z.1]))]
  ok := fun d env g env' g' e => by
    cases e
    exact ⟨by rw [List.length_set], fun k hk => by rw [at_set, if_neg (fun z => hk (by simp [z.1]))]⟩
abbrev MTgs (G : Type) := List D → Env → G → Option (Env × G)
def tTgs {G : Type} (K : PySem.W.Frag) (S : Gs G) (idx : List Nat) (b : MTgs G) : TGs := fun vs σ H Q => ∃ w env g ds env' g', Rel K S w env g σ H ∧ RpA K w.I vs ds ∧ b ds env g = some (env', g') ∧
  ∀ σ' I' H', Same w.I I' → Rel K S (w.im I') env' g' σ' H' → σ'.length = σ.length → (∀ k, k ∉ idx → σ'[k]? = σ[k]?) → Q σ' H'
structure DTgs {G : Type} (X : Cx) (S : Gs G) (tgs : List Expr) (idx : List Nat) (b : MTgs G) : Prop where
  pg : PGs X tgs (tTgs X.K S idx b)
  ok : ∀ d env g env' g', b d env g = some (env', g') → env'.length = env.length ∧ ∀ k, k ∉ idx → env'.at k = env.at k
theorem PGs.imp {tg : List Expr} {t t' : TGs} (h : PGs X tg t) (i : ∀ v σ H Q, t' v σ H Q → t v σ H Q) : PGs X tg t' := ⟨fun pins s σ H v u Q I r q => h.run pins s σ H v u Q I r (i _ _ _ _ q)⟩
def bNil : MTgs G := fun ds env g => match ds with
  | [] => some (env, g)
  | _ => none
def bCons (b : MTg G) (bs : MTgs G) : MTgs G := fun ds env g => match ds with
  | d :: r => (b d env g).bind fun q => bs r q.1 q.2
  | _ => none
theorem dgs_nil : DTgs X S [] [] bNil where
  pg := PGs.imp pgs_nil fun v σ H Q ⟨w, env, g, d, env', g', R, p, e, k⟩ => by
    cases p with
    | nil => cases e; exact ⟨rfl, k σ w.I H (Same.refl _) R rfl fun _ _ => rfl⟩
    | cons _ _ => cases e
  ok := fun d env g env' g' e => by
    cases d with
    | nil => cases e; exact ⟨rfl, fun _ _ => rfl⟩
    | cons _ _ => cases e
theorem dgs_cons {i1 i2 : List Nat} {b1 : MTg G} {b2 : MTgs G} (h1 : DTg X S e i1 b1) (h2 : DTgs X S es i2 b2) (hs : (assignEach (e :: es) X.env).map (·.2) = assign e X.env :: (assignEach es X.env).map (·.2) := by rfl) : DTgs X S (e :: es) (i1 ++ i2) (bCons b1 b2) where
  pg := PGs.imp (pgs_cons h1.pg h2.pg hs) fun v σ H Q ⟨w, env, g, d, env', g', R, p, e, k⟩ => by
    cases p with
    | nil => cases e
    | cons p ps =>
      obtain ⟨⟨env1, g1⟩, e1, e⟩ := Option.bind_eq_some_iff.mp e
      refine ⟨_, _, rfl, w, env, g, _, env1, g1, R, p, e1, fun σ1 I1 H1 s1 R1 l1 f1 => ⟨w.im I1, env1, g1, _, env', g', R1, ps.mono s1, e, fun σ2 I2 H2 s2 R2 l2 f2 => k σ2 I2 H2 (s1.trans s2) R2 (l2.trans l1) fun j hj => ?_⟩⟩
      rw [List.mem_append] at hj
      exact (f2 j fun z => hj (.inr z)).trans (f1 j fun z => hj (.inl z))
  ok := fun d env g env' g' e => by
    cases d with
    | nil => cases e
    | cons d ds =>
      obtain ⟨⟨env1, g1⟩, e1, e⟩ := Option.bind_eq_some_iff.mp e
      have h3 := h1.ok _ _ _ _ _ e1
      have h4 := h2.ok _ _ _ _ _ e
      refine ⟨h4.1.trans h3.1, fun k hk => ?_⟩
      rw [List.mem_append] at hk
      exact (h4.2 k fun z => hk (.inr z)).trans (h3.2 k fun z => hk (.inl z))
def bTup (n : Nat) (bs : MTgs G) : MTg G := fun d env g => match d with
  | .tuple ds => if ds.length = n then bs ds env g else none
  | _ => none
theorem dg_tup {k n : Nat} {idx : List Nat} {bs : MTgs G} (hc : X.calm = true) (h : DTgs X S es idx bs) (hn : (assignEach es X.env).length = n := by rfl) (hst : (assignEach es X.env).findIdx? (·.1) = none := by rfl) : DTg X S (.Tuple es k pos) idx (bTup n bs) where
  pg := PG.imp (pg_tup hc h.pg hn hst) fun v σ H Q ⟨w, env, g, d, env', g', R, p, e, k⟩ => by
    cases p with
    | tup hp ra hz =>
      have e : (if _ = n then _ else none) = some (env', g') := e
      split at e
      · rename_i hl
        exact ⟨_, _, rfl, same_t R.eI hp, by rw [ra.len]; exact hl, w, env, g, _, env', g', R, ra, e, k⟩
      · cases e
    | _ => cases e
  ok := fun d env g env' g' e => by
    cases d with
    | tuple ds =>
      have e : (if _ = n then _ else none) = some (env', g') := e
      split at e
      · exact h.ok _ _ _ _ _ e
      · cases e
    | _ => cases e
/-- a, b = c, d of plain names -/
def mPar (i j : Nat) (ml : ML G) : MS G := fun env g => bD (ml env g) fun ds g1 => match ds with
  | [x, y] => some (.nx, (env.set i (.sh x)).set j (.sh y), g1)
  | _ => none
theorem ds_par {i j : Nat} {x y : Str} {a b : Expr} {px py pt : Pos} {kt k2 pt2} (hc : X.calm = true) (hN : X.N.Nodup) (hi : X.N[i]? = some x) (hj : X.N[j]? = some y) (hij : i ≠ j)
    (hx : X.env.scope.names.lookup x = some .local) (hy : X.env.scope.names.lookup y = some .local) (ha : DA X S [a, b] ml)
    (hw : swappedStores [.Tuple [.Name x px, .Name y py] kt pt] (.Tuple [a, b] k2 pt2) X.env = pure (some [x, y]))
    (hs : swapsWithSole [.Tuple [.Name x px, .Name y py] kt pt] (.Tuple [a, b] k2 pt2) pos.line X.env = pure false := by rfl) :
    DS X S (.Assign [.Tuple [.Name x px, .Name y py] kt pt] (.Tuple [a, b] k2 pt2) pos) (mPar i j ml) := PS.imp (ps_par hc hN hi hj hij hx hy ha hw hs) fun D σ H ⟨w, env, g, c, env', g', R, e, k⟩ => by
  obtain ⟨ds, g1, e1, e⟩ := bD_some e
  split at e
  · cases e
    refine ⟨w, env, g, _, g', R, e1, fun vs I' H' s' R' ra => ?_⟩
    cases ra with
    | cons r1 ra =>
      cases ra with
      | cons r2 ra =>
        cases ra
        exact ⟨_, _, rfl, k _ I' H' s' ((R'.putD r1).putD r2)⟩
  · cases e
/-- a, b = e -/
def mAsg (b : MTg G) (ma : ME G) : MS G := fun env g => bD (ma env g) fun d g1 => (b d env g1).map fun q => (.nx, q.1, q.2)
theorem ds_asg {tg : Expr} {idx : List Nat} {bt : MTg G} (he : DE X S e ma) (hg : DTg X S tg idx bt) (hs : swapsWithSole [tg] e pos.line X.env = pure false := by rfl) (hw : swappedStores [tg] e X.env = pure none := by rfl)
    (h1 : (assignEach [tg] X.env).map (·.2) = [assign tg X.env] := by rfl) : DS X S (.Assign [tg] e pos) (mAsg bt ma) := PS.imp (ps_asg he hg.pg hs hw h1) fun D σ H ⟨w, env, g, c, env', g', R, e, k⟩ => by
  obtain ⟨x, g1, e1, e⟩ := bD_some e
  obtain ⟨⟨env1, g2⟩, e2, e⟩ := Option.map_eq_some_iff.mp e
  cases e
  exact ⟨w, env, g, x, g1, R, e1, fun v I' H' s' R' p => ⟨w.im I', env, g1, x, env1, g2, R', p, e2, fun σ' I2 H2 s2 R2 _ _ => k σ' I2 H2 (s'.trans s2) R2⟩⟩
end
end Pd

/-! Pd: what is walked, loops, comprehensions. -/
namespace Pd
open PySem PySem.Spec L2
section
variable {G : Type} {X : Cx} {S : Gs G} {a b c e : Expr} {es rest : List Expr} {pos : Pos} {ma mb mc : ME G} {mt mu : MT G} {ml : ML G} {st : Stmt} {sts body : List Stmt} {m m1 m2 : MS G} {tg iter : Expr}
variable {K : PySem.W.Frag} {w : Wd} {env env' : Env} {g g' : G} {σ : St} {H H' I' : Hp}

/-! ### what is walked: it yields data, whatever stands behind -/
structure ItOk (K : PySem.W.Frag) (J : It) (I : Hp) (ds : List D) : Prop where
  go : ∀ i I' H', i < ds.length → Same I I' → Same I' H' → J.go i H'
  yl : ∀ i I' H' x H'' d, ds[i]? = some d → Same I I' → Same I' H' → J.yld i H' x H'' → ∃ I'', Pst I' H' I'' H'' ∧ Rp K I'' x d
  st : ∀ i I' H', ds.length ≤ i → Same I I' → Same I' H' → J.stop i H'
def tI {G : Type} (K : PySem.W.Frag) (S : Gs G) (m : ML G) : TI := fun σ H R => ∃ w env g ds g', Rel K S w env g σ H ∧ m env g = some (ds, g') ∧
  ∀ J I' H', Same w.I I' → Rel K S (w.im I') env g' σ H' → ItOk K J I' ds → ds.length ≤ sizeLine → R J H'
abbrev DI {G : Type} (X : Cx) (S : Gs G) (tg iter : Expr) (m : ML G) : Prop := PI X tg iter (tI X.K S m)
theorem PI.imp {t t' : TI} (h : PI X tg iter t) (i : ∀ σ H R, t' σ H R → t σ H R) : PI X tg iter t' := ⟨fun pins s σ H R I q => h.run pins s σ H R I (i _ _ _ q)⟩
def mItL (ma : ME G) : ML G := fun env g => bD (ma env g) fun x g1 => match x with
  | .list ds => some (ds, g1)
  | _ => none
def mItT (ma : ME G) : ML G := fun env g => bD (ma env g) fun x g1 => match x with
  | .tuple ds => some (ds, g1)
  | _ => none
def mItS (ma : ME G) : ML G := fun env g => bD (ma env g) fun x g1 => match x with
  | .str z => some (z.cps.toList.map fun c => .str ⟨#[c]⟩, g1)
  | _ => none
theorem lst_seq {K : PySem.W.Frag} {H : Hp} {p : Addr} {vs xs : List V} (hp : H p = some (.lst vs)) (h : Rd H p (.lst xs)) : xs = vs := by
  rcases h with h | ⟨o, h⟩
  · rw [hp] at h; cases h; rfl
  · rw [hp] at h; cases h
theorem itl_ok {p : Addr} {vs : List V} {ds : List D} {I : Hp} (hp : I p = some (.lst vs)) (ra : RpA K I vs ds) : ItOk K (Itl K p) I ds where
  go := fun i I' H' hi s1 s2 => by
    have hv : i < vs.length := by rw [ra.len]; exact hi
    exact ⟨vs, vs[i], SqL.of (s2 _ _ (s1 _ _ hp)), by simp [hv]⟩
  yl := fun i I' H' x H'' d hd s1 s2 y => by
    obtain ⟨e, y⟩ := y
    subst e
    have hx := y vs (SqL.of (s2 _ _ (s1 _ _ hp)))
    obtain ⟨d', e1, r⟩ := ra.getV hx
    rw [hd] at e1
    cases e1
    exact ⟨I', Pst.refl s2, r.mono s1⟩
  st := fun i I' H' hi s1 s2 => ⟨vs, SqL.of (s2 _ _ (s1 _ _ hp)), by rw [ra.len]; exact hi⟩
theorem itt_ok {p : Addr} {vs : List V} {ds : List D} {I : Hp} (hp : SqT K I p vs) (ra : RpA K I vs ds) : ItOk K (Itt K p) I ds where
  go := fun i I' H' hi s1 s2 => by
    have hv : i < vs.length := by rw [ra.len]; exact hi
    exact ⟨vs, vs[i], same_t s2 (same_t s1 hp), by simp [hv]⟩
  yl := fun i I' H' x H'' d hd s1 s2 y => by
    obtain ⟨e, y⟩ := y
    subst e
    have hx := y vs (same_t s2 (same_t s1 hp))
    obtain ⟨d', e1, r⟩ := ra.getV hx
    rw [hd] at e1
    cases e1
    exact ⟨I', Pst.refl s2, r.mono s1⟩
  st := fun i I' H' hi s1 s2 => ⟨vs, same_t s2 (same_t s1 hp), by rw [ra.len]; exact hi⟩
theorem di_list (ha : DE X S a ma) : DI X S tg a (mItL ma) := PI.imp (pi_list ha) fun σ H R ⟨w, env, g, ds, g', Re, e, k⟩ => by
  obtain ⟨x, g1, e1, e⟩ := bD_some e
  cases x with
  | list xs =>
    cases e
    refine ⟨w, env, g, _, g', Re, e1, fun v I' H' s' R' p => ?_⟩
    cases p with
    | lst hp ra hz => exact ⟨_, rfl, ⟨_, SqL.of (R'.eI _ _ hp)⟩, k _ I' H' s' R' (itl_ok hp ra) hz⟩
  | _ => cases e
theorem di_tup (ha : DE X S a ma) : DI X S tg a (mItT ma) := PI.imp (pi_tup ha) fun σ H R ⟨w, env, g, ds, g', Re, e, k⟩ => by
  obtain ⟨x, g1, e1, e⟩ := bD_some e
  cases x with
  | tuple xs =>
    cases e
    refine ⟨w, env, g, _, g', Re, e1, fun v I' H' s' R' p => ?_⟩
    cases p with
    | tup hp ra hz => exact ⟨_, rfl, ⟨_, same_t R'.eI hp⟩, k _ I' H' s' R' (itt_ok hp ra) hz⟩
  | _ => cases e
theorem di_str (ha : DE X S a ma) : DI X S tg a (mItS ma) := PI.imp (pi_str ha) fun σ H R ⟨w, env, g, ds, g', Re, e, k⟩ => by
  obtain ⟨x, g1, e1, e⟩ := bD_some e
  cases x with
  | str z =>
    cases e
    refine ⟨w, env, g, _, g', Re, e1, fun v I' H' s' R' p => ?_⟩
    cases p with
    | str hz =>
      have hl : (z.cps.toList.map fun c => (PyData.str ⟨#[c]⟩ : D)).length = z.cps.size := by rw [List.length_map, Array.length_toList]
      refine ⟨z, rfl, k _ I' H' s' R' ⟨fun i I2 H2 hi _ _ => ?_, fun i I2 H2 x H3 d hd _ s2 y => ?_, fun i I2 H2 hi _ _ => ?_⟩ ?_⟩
      · show i < z.cps.size
        rw [hl] at hi; exact hi
      · obtain ⟨e, c, ec, ex⟩ := y
        subst e; subst ex
        rw [List.getElem?_map, Array.getElem?_toList, ec] at hd
        cases hd
        exact ⟨I2, Pst.refl s2, .str (sok_char hz (by rw [← Array.getElem?_toList] at ec; exact List.mem_of_getElem? ec))⟩
      · show z.cps.size ≤ i
        rw [hl] at hi; exact hi
      · rw [hl]; exact hz.1
  | _ => cases e
/-- lo, lo + 1, .. -/
def rng (lo : Int) (n : Nat) : List D := (List.range n).map fun (k : Nat) => .int (lo + (k : Int))
theorem rng_get {lo : Int} {n i : Nat} (h : i < n) : (rng lo n)[i]? = some (.int (lo + (i : Int))) := by
  unfold rng
  rw [List.getElem?_map, List.getElem?_range h]; rfl
theorem rng_len (lo : Int) (n : Nat) : (rng lo n).length = n := by unfold rng; rw [List.length_map, List.length_range]
theorem itr_ok (lo : Int) (n : Nat) (I : Hp) : ItOk K (Itr lo n) I (rng lo n) where
  go := fun i I' H' hi _ _ => by rw [rng_len] at hi; exact hi
  yl := fun i I' H' x H'' d hd s1 s2 y => by
    obtain ⟨e, ex⟩ := y
    subst e; subst ex
    have hi : i < n := by
      have := (List.getElem?_eq_some_iff.mp hd).1
      rw [rng_len] at this; exact this
    rw [rng_get hi] at hd
    cases hd
    exact ⟨I', Pst.refl s2, .int _⟩
  st := fun i I' H' hi _ _ => by rw [rng_len] at hi; exact hi
def mRng1 (ml : ML G) : ML G := fun env g => bD (ml env g) fun xs g1 => match xs with
  | [.int j] => if -16777216 < j ∧ j < 16777216 then some (rng 0 j.toNat, g1) else none
  | _ => none
def mRng2 (ml : ML G) : ML G := fun env g => bD (ml env g) fun xs g1 => match xs with
  | [.int i, .int j] => if (-16777216 < i ∧ i < 16777216) ∧ -16777216 < j ∧ j < 16777216 ∧ j - i < 16777216 then some (rng i (j - i).toNat, g1) else none
  | _ => none
theorem line_val : sizeLine = 16777216 := sizeLine_eq
theorem di_range1 {p : Pos} (hg : Gl X "range") (hm : X.mg "range" = none) (ha : DA X S [a] ml) (hs : starEach [a] X.env = [(false, eval a X.env)] := by rfl) : DI X S tg (.Call (.Name "range" p) [a] [] pos) (mRng1 ml) := PI.imp (pi_range1 hg hm ha hs) fun σ H R ⟨w, env, g, ds, g', Re, e, k⟩ => by
  obtain ⟨x, g1, e1, e⟩ := bD_some e
  split at e
  · rename_i j
    split at e
    · rename_i hj
      cases e
      refine ⟨w, env, g, _, g', Re, e1, fun vs I' H' s' R' p => ?_⟩
      cases p with
      | cons p q =>
        cases p
        cases q
        exact ⟨j, rfl, by omega, by omega, k _ I' H' s' R' (itr_ok 0 j.toNat I') (by rw [rng_len, line_val]; omega)⟩
    · cases e
  · cases e
theorem di_range2 {p : Pos} (hg : Gl X "range") (hm : X.mg "range" = none) (ha : DA X S [a, b] ml) (hs : starEach [a, b] X.env = [(false, eval a X.env), (false, eval b X.env)] := by rfl) (hs2 : starEach [b] X.env = [(false, eval b X.env)] := by rfl) :
    DI X S tg (.Call (.Name "range" p) [a, b] [] pos) (mRng2 ml) := PI.imp (pi_range2 hg hm ha hs hs2) fun σ H R ⟨w, env, g, ds, g', Re, e, k⟩ => by
  obtain ⟨x, g1, e1, e⟩ := bD_some e
  split at e
  · rename_i i j
    split at e
    · rename_i hj
      cases e
      refine ⟨w, env, g, _, g', Re, e1, fun vs I' H' s' R' p => ?_⟩
      cases p with
      | cons p q =>
        cases p
        cases q with
        | cons p q =>
          cases p
          cases q
          exact ⟨i, j, rfl, ⟨by omega, by omega, by omega, by omega⟩, k _ I' H' s' R' (itr_ok i (j - i).toNat I') (by rw [rng_len, line_val]; omega)⟩
    · cases e
  · cases e
/-- pairs of the place and the item -/
def enm : Nat → List D → List D
  | _, [] => []
  | n, d :: ds => .tuple [.int (n : Int), d] :: enm (n + 1) ds
theorem enm_get : ∀ {n : Nat} {ds : List D} {i : Nat} {t : D}, (enm n ds)[i]? = some t → ∃ d, ds[i]? = some d ∧ t = .tuple [.int ((n + i : Nat) : Int), d]
  | _, [], _, _, h => by simp [enm] at h
  | n, d :: ds, 0, t, h => by
    simp only [enm, List.getElem?_cons_zero, Option.some.injEq] at h
    exact ⟨d, rfl, h.symm⟩
  | n, d :: ds, i + 1, t, h => by
    simp only [enm, List.getElem?_cons_succ] at h
    obtain ⟨x, h1, h2⟩ := enm_get h
    exact ⟨x, by simpa using h1, by rw [h2]; congr 3; omega⟩
theorem enm_len : ∀ (n : Nat) (ds : List D), (enm n ds).length = ds.length
  | _, [] => rfl
  | n, d :: ds => by simp only [enm, List.length_cons, enm_len (n + 1) ds]
theorem ite_ok {p : Addr} {vs : List V} {ds : List D} {I : Hp} (hp : I p = some (.lst vs)) (ra : RpA K I vs ds) : ItOk K (Ite K p) I (enm 0 ds) where
  go := fun i I' H' hi s1 s2 => by
    rw [enm_len] at hi
    have hv : i < vs.length := by rw [ra.len]; exact hi
    exact ⟨vs, vs[i], SqL.of (s2 _ _ (s1 _ _ hp)), by simp [hv]⟩
  yl := fun i I' H' x H'' d hd s1 s2 y => by
    obtain ⟨T, u, ex, hT, eH, y⟩ := y
    subst ex; subst eH
    obtain ⟨d0, h1, rfl⟩ := enm_get hd
    have hx := y vs (SqL.of (s2 _ _ (s1 _ _ hp)))
    obtain ⟨d', e1, r⟩ := ra.getV hx
    rw [h1] at e1
    cases e1
    have ps := Pst.new (p := T) (o := .tup [.int (i : Nat), u]) s2 hT
    refine ⟨_, ps, .tup (SqT.of upd_same) ?_ (by show 2 ≤ sizeLine; decide)⟩
    rw [Nat.zero_add]
    exact .cons (.int _) (.cons ((r.mono s1).mono ps.eI) .nil)
  st := fun i I' H' hi s1 s2 => ⟨vs, SqL.of (s2 _ _ (s1 _ _ hp)), by rw [enm_len] at hi; rw [ra.len]; exact hi⟩
def mEnum (ml : ML G) : ML G := fun env g => bD (ml env g) fun xs g1 => match xs with
  | [.list ds] => some (enm 0 ds, g1)
  | _ => none
theorem di_enum {p tpos : Pos} {elts : List Expr} {kk : Nat} (hg : Gl X "enumerate") (hm : X.mg "enumerate" = none) (ha : DA X S [a] ml) (hs : starEach [a] X.env = [(false, eval a X.env)] := by rfl) :
    DI X S (.Tuple elts kk tpos) (.Call (.Name "enumerate" p) [a] [] pos) (mEnum ml) := PI.imp (pi_enum hg hm ha hs) fun σ H R ⟨w, env, g, ds, g', Re, e, k⟩ => by
  obtain ⟨x, g1, e1, e⟩ := bD_some e
  split at e
  · cases e
    refine ⟨w, env, g, _, g', Re, e1, fun vs I' H' s' R' p => ?_⟩
    cases p with
    | cons p q =>
      cases q
      cases p with
      | lst hp ra hz => exact ⟨_, _, rfl, SqL.of (R'.eI _ _ hp), k _ I' H' s' R' (ite_ok hp ra) (by rw [enm_len]; exact hz)⟩
  · cases e
def zipD : List D → List D → List D
  | x :: xs, y :: ys => .tuple [x, y] :: zipD xs ys
  | _, _ => []
theorem zipD_get : ∀ {xs ys : List D} {i : Nat} {t : D}, (zipD xs ys)[i]? = some t → ∃ x y, xs[i]? = some x ∧ ys[i]? = some y ∧ t = .tuple [x, y]
  | [], _, _, _, h => by simp [zipD] at h
  | _ :: _, [], _, _, h => by simp [zipD] at h
  | x :: xs, y :: ys, 0, t, h => by
    simp only [zipD, List.getElem?_cons_zero, Option.some.injEq] at h
    exact ⟨x, y, rfl, rfl, h.symm⟩
  | x :: xs, y :: ys, i + 1, t, h => by
    simp only [zipD, List.getElem?_cons_succ] at h
    obtain ⟨u, v, h1, h2, h3⟩ := zipD_get h
    exact ⟨u, v, by simpa using h1, by simpa using h2, h3⟩
theorem zipD_len : ∀ (xs ys : List D), (zipD xs ys).length = min xs.length ys.length
  | [], _ => by simp [zipD]
  | _ :: _, [] => by simp [zipD]
  | x :: xs, y :: ys => by simp only [zipD, List.length_cons, zipD_len xs ys]; omega
theorem itz_ok {p q : Addr} {vs us : List V} {ds es : List D} {I : Hp} (hp : I p = some (.lst vs)) (hq : I q = some (.lst us)) (ra : RpA K I vs ds) (rb : RpA K I us es) : ItOk K (Itz K p q) I (zipD ds es) where
  go := fun i I' H' hi s1 s2 => by
    rw [zipD_len] at hi
    have hv : i < vs.length := by rw [ra.len]; omega
    have hu : i < us.length := by rw [rb.len]; omega
    exact ⟨vs, us, vs[i], us[i], SqL.of (s2 _ _ (s1 _ _ hp)), SqL.of (s2 _ _ (s1 _ _ hq)), by simp [hv], by simp [hu]⟩
  yl := fun i I' H' x H'' d hd s1 s2 y => by
    obtain ⟨T, u, v, ex, hT, eH, y1, y2⟩ := y
    subst ex; subst eH
    obtain ⟨d0, e0, h1, h2, rfl⟩ := zipD_get hd
    obtain ⟨d', f1, r1⟩ := ra.getV (y1 vs (SqL.of (s2 _ _ (s1 _ _ hp))))
    obtain ⟨e', f2, r2⟩ := rb.getV (y2 us (SqL.of (s2 _ _ (s1 _ _ hq))))
    rw [h1] at f1; cases f1
    rw [h2] at f2; cases f2
    have ps := Pst.new (p := T) (o := .tup [u, v]) s2 hT
    exact ⟨_, ps, .tup (SqT.of upd_same) (.cons ((r1.mono s1).mono ps.eI) (.cons ((r2.mono s1).mono ps.eI) .nil)) (by show 2 ≤ sizeLine; decide)⟩
  st := fun i I' H' hi s1 s2 => ⟨vs, us, SqL.of (s2 _ _ (s1 _ _ hp)), SqL.of (s2 _ _ (s1 _ _ hq)), by
    rw [zipD_len] at hi
    have h1 := ra.len
    have h2 := rb.len
    omega⟩
def mZip (ml : ML G) : ML G := fun env g => bD (ml env g) fun xs g1 => match xs with
  | [.list ds, .list es] => some (zipD ds es, g1)
  | _ => none
theorem di_zip {p tpos : Pos} {elts : List Expr} {kk : Nat} (hg : Gl X "zip") (hm : X.mg "zip" = none) (ha : DA X S [a, b] ml) (hs : starEach [a, b] X.env = (false, eval a X.env) :: starEach [b] X.env := by rfl) (hpl : (backTo pos (starEach [b] X.env)).any (·.1) = false := by rfl) :
    DI X S (.Tuple elts kk tpos) (.Call (.Name "zip" p) [a, b] [] pos) (mZip ml) := PI.imp (pi_zip hg hm ha hs hpl) fun σ H R ⟨w, env, g, ds, g', Re, e, k⟩ => by
  obtain ⟨x, g1, e1, e⟩ := bD_some e
  split at e
  · cases e
    refine ⟨w, env, g, _, g', Re, e1, fun vs I' H' s' R' p => ?_⟩
    cases p with
    | cons p q =>
      cases q with
      | cons q r =>
        cases r
        cases p with
        | lst hp ra hz =>
          cases q with
          | lst hq rb hy => exact ⟨_, _, _, _, rfl, SqL.of (R'.eI _ _ hp), SqL.of (R'.eI _ _ hq), k _ I' H' s' R' (itz_ok hp hq ra rb) (by rw [zipD_len]; omega)⟩
  · cases e

/-! ### for -/
def loopL (b : MTg G) (mb : MS G) : List D → Env → G → Option (Ct × Env × G)
  | [], env, g => some (.nx, env, g)
  | d :: ds, env, g => match b d env g with
    | none => none
    | some (env1, g1) => match mb env1 g1 with
      | none => none
      | some (.nx, e, g2) => loopL b mb ds e g2
      | some (.co, e, g2) => loopL b mb ds e g2
      | some (.br, e, g2) => some (.nx, e, g2)
      | some (.re d, e, g2) => some (.re d, e, g2)
      | some (.rl d, e, g2) => some (.rl d, e, g2)
def mFor (ml : ML G) (b : MTg G) (mb : MS G) : MS G := fun env g => bD (ml env g) fun ds g1 => loopL b mb ds env g1
theorem ts_for {idx : List Nat} {bt : MTg G} {mb : MS G} {D : Ends} (h : tS X.K S (mFor ml bt mb) D σ H) : tFor (tI X.K S ml) (tTg X.K S idx bt) (tS X.K S mb) D σ H := by
  obtain ⟨w, env, g, c, env', g', R, e, k⟩ := h
  obtain ⟨ds, g1, e1, e⟩ := bD_some e
  refine ⟨w, env, g, ds, g1, R, e1, fun J I1 H1 s1 R1 ok hz => ?_⟩
  refine ⟨fun i m σ2 H2 => m = ds.length - i ∧ i ≤ ds.length ∧ ∃ I2 env2 g2, Same I1 I2 ∧ Rel X.K S (w.im I2) env2 g2 σ2 H2 ∧ loopL bt mb (ds.drop i) env2 g2 = some (c, env', g'), ⟨ds.length, by omega, Nat.zero_le _, I1, env, g1, Same.refl _, R1, e⟩, ?_⟩
  rintro i m σ2 H2 ⟨rfl, hi, I2, env2, g2, s2, R2, e2⟩
  by_cases hlt : i < ds.length
  · refine .inr ⟨ok.go i I2 H2 hlt s2 R2.eI, fun σ' H' => i + 1 ≤ ds.length ∧ ∃ I2 env2 g2, Same I1 I2 ∧ Rel X.K S (w.im I2) env2 g2 σ' H' ∧ loopL bt mb (ds.drop (i + 1)) env2 g2 = some (c, env', g'), fun σ' H' ⟨q1, q⟩ => ⟨ds.length - (i + 1), by omega, rfl, q1, q⟩, fun x H' y => ?_⟩
    have hd : ds[i]? = some ds[i] := by simp [hlt]
    obtain ⟨I3, ps, r⟩ := ok.yl i I2 H2 x H' _ hd s2 R2.eI y
    rw [List.drop_eq_getElem_cons hlt] at e2
    unfold loopL at e2
    cases eb : bt ds[i] env2 g2 with
    | none => rw [eb] at e2; cases e2
    | some eg =>
      obtain ⟨env3, g3⟩ := eg
      rw [eb] at e2
      dsimp only at e2
      refine ⟨w.im I3, env2, g2, ds[i], env3, g3, R2.pst ps, r, eb, fun σ3 I4 H3 s4 R3 _ _ => ?_⟩
      cases em : mb env3 g3 with
      | none => rw [em] at e2; cases e2
      | some r4 =>
        obtain ⟨c4, env4, g4⟩ := r4
        rw [em] at e2
        have s3 : Same I1 I4 := (s2.trans ps.eI).trans s4
        refine ⟨w.im I4, env3, g3, c4, env4, g4, R3, em, ?_⟩
        cases c4 with
        | nx => exact fun σ' I5 H5 s5 R5 => ⟨by omega, I5, env4, g4, s3.trans s5, R5, e2⟩
        | co => exact fun σ' I5 H5 s5 R5 => ⟨by omega, I5, env4, g4, s3.trans s5, R5, e2⟩
        | br => cases e2; exact fun σ' I5 H5 s5 R5 => k σ' I5 H5 (s1.trans (s3.trans s5)) R5
        | re d => cases e2; exact fun v σ' I5 H5 s5 R5 p => k v σ' I5 H5 (s1.trans (s3.trans s5)) R5 p
        | rl d => cases e2; exact fun p vs σ' I5 H5 s5 R5 n hp ra z => k p vs σ' I5 H5 (s1.trans (s3.trans s5)) R5 n hp ra z
  · have hi' : i = ds.length := by omega
    subst hi'
    rw [List.drop_length] at e2
    cases e2
    exact .inl ⟨ok.st _ I2 H2 (Nat.le_refl _) s2 R2.eI, k σ2 I2 H2 (s1.trans s2) R2⟩
theorem ds_for {idx : List Nat} {bt : MTg G} {mb : MS G} (hp : PassesOwn (model X.prog X.w) X.A X.env X.xe) (hc : X.calm = true) (hi : DI X S tg iter ml) (hg : DTg X S tg idx bt) (hb : DB X S body mb)
    (hs : ∀ x, foldedSetIterable iter X.env x = pure x := by intro _; rfl) : DS X S (.For tg iter body [] pos) (mFor ml bt mb) := PS.imp (ps_for hp hc hi hg.pg hb hs) fun _ _ _ h => ts_for h

/-! ### while -/
def whileN (mt : MT G) (mb : MS G) : Nat → Env → G → Option (Ct × Env × G)
  | 0, _, _ => none
  | n + 1, env, g => match mt env g with
    | none => none
    | some (false, g1) => some (.nx, env, g1)
    | some (true, g1) => match mb env g1 with
      | none => none
      | some (.nx, e, g2) => whileN mt mb n e g2
      | some (.co, e, g2) => whileN mt mb n e g2
      | some (.br, e, g2) => some (.nx, e, g2)
      | some (.re d, e, g2) => some (.re d, e, g2)
      | some (.rl d, e, g2) => some (.rl d, e, g2)
theorem whileN_succ {mt : MT G} {mb : MS G} : ∀ {n : Nat} {env : Env} {g : G} {r}, whileN mt mb n env g = some r → whileN mt mb (n + 1) env g = some r
  | 0, _, _, _, h => by simp [whileN] at h
  | n + 1, env, g, r, h => by
    unfold whileN at h ⊢
    cases e : mt env g with
    | none => rw [e] at h; cases h
    | some q =>
      obtain ⟨b, g1⟩ := q
      rw [e] at h
      cases b with
      | false => exact h
      | true =>
        simp only at h ⊢
        cases e2 : mb env g1 with
        | none => rw [e2] at h; cases h
        | some q =>
          obtain ⟨c, e3, g2⟩ := q
          rw [e2] at h
          cases c with
          | nx => exact whileN_succ h
          | co => exact whileN_succ h
          | _ => exact h
theorem whileN_mono {mt : MT G} {mb : MS G} {n m : Nat} {env : Env} {g : G} {r} (h : whileN mt mb n env g = some r) (hm : n ≤ m) : whileN mt mb m env g = some r := by
  induction hm with
  | refl => exact h
  | step _ ih => exact whileN_succ ih
open Classical in
noncomputable def mWhile (mt : MT G) (mb : MS G) : MS G := fun env g => if h : ∃ n r, whileN mt mb n env g = some r then some (Classical.choose (Classical.choose_spec h)) else none
theorem mWhile_eq {mt : MT G} {mb : MS G} {n : Nat} {env : Env} {g : G} {r} (h : whileN mt mb n env g = some r) : mWhile mt mb env g = some r := by
  have hex : ∃ n r, whileN mt mb n env g = some r := ⟨n, r, h⟩
  unfold mWhile
  rw [dif_pos hex]
  have q := Classical.choose_spec (Classical.choose_spec hex)
  have q1 := whileN_mono q (Nat.le_max_left _ n)
  have q2 := whileN_mono h (Nat.le_max_right (Classical.choose hex) n)
  rw [q1] at q2
  exact q2
theorem mWhile_some {mt : MT G} {mb : MS G} {env : Env} {g : G} {r} (h : mWhile mt mb env g = some r) : ∃ n, whileN mt mb n env g = some r := by
  unfold mWhile at h
  split at h
  · rename_i hex
    cases h
    exact ⟨_, Classical.choose_spec (Classical.choose_spec hex)⟩
  · cases h
theorem ts_while {mb : MS G} {D : Ends} (h : tS X.K S (mWhile mt mb) D σ H) : tWhile (tT X.K S mt) (tS X.K S mb) D σ H := by
  obtain ⟨w, env, g, c, env', g', R, e, k⟩ := h
  obtain ⟨n, e⟩ := mWhile_some e
  refine ⟨fun m σ2 H2 => ∃ I2 env2 g2, Same w.I I2 ∧ Rel X.K S (w.im I2) env2 g2 σ2 H2 ∧ whileN mt mb m env2 g2 = some (c, env', g'), ⟨n, w.I, env, g, Same.refl _, R, e⟩, ?_⟩
  rintro m σ2 H2 ⟨I2, env2, g2, s2, R2, e2⟩
  cases m with
  | zero => simp [whileN] at e2
  | succ m =>
    unfold whileN at e2
    cases et : mt env2 g2 with
    | none => rw [et] at e2; cases e2
    | some q =>
      obtain ⟨b, g3⟩ := q
      rw [et] at e2
      refine ⟨w.im I2, env2, g2, b, g3, R2, et, fun I3 H3 s3 R3 => ?_⟩
      cases b with
      | false =>
        cases e2
        rw [if_neg Bool.false_ne_true]
        exact k σ2 I3 H3 (s2.trans s3) R3
      | true =>
        rw [if_pos rfl]
        refine ⟨fun σ' H' => ∃ I2 env2 g2, Same w.I I2 ∧ Rel X.K S (w.im I2) env2 g2 σ' H' ∧ whileN mt mb m env2 g2 = some (c, env', g'), fun σ' H' q => ⟨m, Nat.lt_succ_self m, q⟩, ?_⟩
        simp only at e2
        cases em : mb env2 g3 with
        | none => rw [em] at e2; cases e2
        | some r4 =>
          obtain ⟨c4, env4, g4⟩ := r4
          rw [em] at e2
          have s4 : Same w.I I3 := s2.trans s3
          refine ⟨w.im I3, env2, g3, c4, env4, g4, R3, em, ?_⟩
          cases c4 with
          | nx => exact fun σ' I5 H5 s5 R5 => ⟨I5, env4, g4, s4.trans s5, R5, e2⟩
          | co => exact fun σ' I5 H5 s5 R5 => ⟨I5, env4, g4, s4.trans s5, R5, e2⟩
          | br => cases e2; exact fun σ' I5 H5 s5 R5 => k σ' I5 H5 (s4.trans s5) R5
          | re d => cases e2; exact fun v σ' I5 H5 s5 R5 p => k v σ' I5 H5 (s4.trans s5) R5 p
          | rl d => cases e2; exact fun p vs σ' I5 H5 s5 R5 n hp ra z => k p vs σ' I5 H5 (s4.trans s5) R5 n hp ra z
theorem ds_while {mb : MS G} (hp : PassesOwn (model X.prog X.w) X.A X.env X.xe) (hc : DT X S c mt) (hb : DB X S body mb) : DS X S (.While c body [] pos) (mWhile mt mb) := PS.imp (ps_while hp hc hb) fun _ _ _ h => ts_while h
end
end Pd

/-! Pd: comprehensions, lists of one's own, defs. -/
namespace Pd
open PySem PySem.Spec L2
section
variable {G : Type} {X : Cx} {S : Gs G} {a b c e : Expr} {es rest : List Expr} {pos : Pos} {ma mb mc : ME G} {mt mu : MT G} {ml : ML G} {st : Stmt} {sts body : List Stmt} {m m1 m2 : MS G} {tg iter : Expr}
variable {K : PySem.W.Frag} {w : Wd} {env env' : Env} {g g' : G} {σ : St} {H H' I' : Hp}

/-! ### comprehensions -/
def Env.wipe (env : Env) : List Nat → Env
  | [] => env
  | v :: vs => (Env.wipe env vs).set v .un
theorem ewipe_len (env : Env) : ∀ vs : List Nat, (env.wipe vs).length = env.length
  | [] => rfl
  | v :: vs => by unfold Env.wipe; rw [List.length_set, ewipe_len env vs]
theorem ewipe_in {env : Env} {k : Nat} : ∀ {vs : List Nat}, k ∈ vs → (env.wipe vs).at k = .un
  | v :: vs, h => by
    unfold Env.wipe
    rw [at_set]
    by_cases z : k = v
    · subst z
      by_cases q : k < (env.wipe vs).length
      · rw [if_pos ⟨rfl, q⟩]
      · rw [if_neg fun z => q z.2]
        show (env.wipe vs).getD k .un = .un
        rw [List.getD_eq_getElem?_getD, List.getElem?_eq_none (by omega)]; rfl
    · rw [if_neg fun q => z q.1]
      rcases List.mem_cons.mp h with e | e
      · exact absurd e z
      · exact ewipe_in e
theorem ewipe_out {env : Env} {k : Nat} : ∀ {vs : List Nat}, k ∉ vs → (env.wipe vs).at k = env.at k
  | [], _ => rfl
  | v :: vs, h => by
    unfold Env.wipe
    rw [at_set, if_neg fun q => h (by simp [q.1])]
    exact ewipe_out fun q => h (List.mem_cons_of_mem _ q)
/-- a state of other slots: where the environment knows something, the same -/
theorem Rel.re {env1 : Env} {σ1 : St} (R : Rel K S w env1 g σ1 H) (hl : σ.length = env.length) (h : ∀ k, env.at k = .un ∨ (env.at k = env1.at k ∧ σ[k]? = σ1[k]?)) : Rel K S w env g σ H where
  e0 := R.e0
  eI := R.eI
  ag := R.ag
  ge := R.ge
  gfp := R.gfp
  grt := R.grt
  gok := R.gok
  fI := R.fI
  f0 := R.f0
  len := hl
  slot := fun k => by
    rcases h k with e | ⟨e, q⟩
    · rw [e]; trivial
    · rw [e]; exact (R.slot k).of_eq q
  dis := fun k j p ds es hkj e1 e2 q1 q2 => by
    rcases h k with e | ⟨e, q⟩
    · rw [e] at e1; cases e1
    · rcases h j with e' | ⟨e', q'⟩
      · rw [e'] at e2; cases e2
      · exact R.dis k j p ds es hkj (e ▸ e1) (e' ▸ e2) (q ▸ q1) (q' ▸ q2)
theorem Rel.wipe (R : Rel K S w env g σ H) (vs : List Nat) : Rel K S w (env.wipe vs) g (L2.wipe σ vs) H := R.re (by rw [wipe_length, ewipe_len]; exact R.len) fun k => by
  by_cases h : k ∈ vs
  · exact .inl (ewipe_in h)
  · exact .inr ⟨ewipe_out h, wipe_out h⟩
theorem wipe_get {σ : St} {k : Nat} : ∀ {vs : List Nat}, k ∈ vs → k < σ.length → (L2.wipe σ vs)[k]? = some none
  | v :: vs, h, hl => by
    unfold L2.wipe
    by_cases z : k = v
    · subst z
      rw [List.getElem?_set_self (by rw [wipe_length]; exact hl)]
    · rw [List.getElem?_set_ne (Ne.symm z)]
      rcases List.mem_cons.mp h with e | e
      · exact absurd e z
      · exact wipe_get e hl
theorem wipe_eq {σ σ2 : St} {vs : List Nat} (hl : σ2.length = (L2.wipe σ vs).length) (h : ∀ k, k ∉ vs → σ2[k]? = (L2.wipe σ vs)[k]?) : L2.wipe σ2 vs = L2.wipe σ vs := by
  apply List.ext_getElem?
  intro k
  rw [wipe_length] at hl
  by_cases hk : k ∈ vs
  · by_cases z : k < σ.length
    · rw [wipe_get hk (by rw [hl]; exact z), wipe_get hk z]
    · rw [List.getElem?_eq_none (by rw [wipe_length]; omega), List.getElem?_eq_none (by rw [wipe_length]; omega)]
  · rw [wipe_out hk, h k hk]
/-- an object that nobody knows, kept in sight -/
abbrev Wd.hold (w : Wd) (p : Addr) (o : HO) : Wd := { w with H0 := upd w.H0 p o }
theorem Rel.hold {p : Addr} {o : HO} (R : Rel K S w env g σ H) (n : Nob w env σ p) (hp : H p = some o) : Rel K S (w.hold p o) env g σ H where
  e0 := fun a u e => by
    have e : upd w.H0 p o a = some u := e
    by_cases z : a = p
    · subst z; rw [upd_same] at e; rw [hp]; exact e
    · rw [upd_ne z] at e; exact R.e0 a u e
  eI := R.eI
  ag := fun a u e => by
    have e : upd w.H0 p o a = some u := e
    by_cases z : a = p
    · subst z
      show w.I a = w.I0 a
      rw [n.i, R.ge.free n.i]
    · rw [upd_ne z] at e; exact R.ag a u e
  ge := R.ge
  gfp := R.gfp
  grt := R.grt
  gok := R.gok
  fI := R.fI
  f0 := fun a ha => by
    have z : a ≠ p := fun z => n.f (z ▸ ha)
    show upd w.H0 p o a = none
    rw [upd_ne z]; exact R.f0 a ha
  len := R.len
  slot := fun i => by
    have q := R.slot i
    cases e : env.at i with
    | un => trivial
    | sh d => rw [e] at q; exact q
    | st => rw [e] at q; exact q
    | raw v => rw [e] at q; exact q
    | ow ds =>
      rw [e] at q
      obtain ⟨a, vs, e1, hp, hi, h0, hf, r, z⟩ := q
      have ne : a ≠ p := fun z => n.o i ds e (z ▸ e1)
      exact ⟨a, vs, e1, hp, hi, (upd_ne ne).trans h0, hf, r, z⟩
  dis := R.dis
/-- .. let go -/
theorem Rel.unhold {p : Addr} {o u : HO} (R : Rel K S (w.hold p o) env g σ H) (n0 : w.H0 p = none) (nI : w.I0 p = none) : Rel K S w env g σ (upd H p u) ∧ Nob w env σ p ∧ H p = some o := by
  have hp : H p = some o := R.e0 p o upd_same
  have nf : ¬ w.fp p := fun z => by
    have q : upd w.H0 p o p = none := R.f0 p z
    rw [upd_same] at q
    cases q
  have ni : w.I p = none := (R.ag p o upd_same).trans nI
  have own : ∀ i ds, env.at i = .ow ds → σ[i]? ≠ some (some (.ref p)) := fun i ds e q => by
    have z := R.slot i
    rw [e] at z
    obtain ⟨a, vs, e1, _, _, h0, _⟩ := z
    rw [q] at e1
    cases e1
    have h0 : upd w.H0 p o p = none := h0
    rw [upd_same] at h0
    cases h0
  refine ⟨?_, ⟨ni, n0, nf, own⟩, hp⟩
  exact {
    e0 := fun a v e => by
      have z : a ≠ p := fun z => by rw [z, n0] at e; cases e
      rw [upd_ne z]
      exact R.e0 a v ((upd_ne z).trans e)
    eI := fun a v e => by
      have z : a ≠ p := fun z => by rw [z, ni] at e; cases e
      rw [upd_ne z]
      exact R.eI a v e
    ag := fun a v e => by
      have z : a ≠ p := fun z => by rw [z, n0] at e; cases e
      exact R.ag a v ((upd_ne z).trans e)
    ge := R.ge
    gfp := R.gfp
    grt := R.grt
    gok := S.loc (fun a ha => by
      have z : a ≠ p := fun z => nf (z ▸ (R.gfp a).mp ha)
      exact upd_ne z) R.gok
    fI := R.fI
    f0 := fun a ha => by
      have z : a ≠ p := fun z => nf (z ▸ ha)
      have q : upd w.H0 p o a = none := R.f0 a ha
      rw [upd_ne z] at q
      exact q
    len := R.len
    slot := fun i => by
      have q := R.slot i
      cases e : env.at i with
      | un => trivial
      | sh d => rw [e] at q; exact q
      | st => rw [e] at q; exact q
      | raw v => rw [e] at q; exact q
      | ow ds =>
        rw [e] at q
        obtain ⟨a, vs, e1, hp', hi, h0, hf, r, z⟩ := q
        have ne : a ≠ p := fun z => own i ds e (z ▸ e1)
        have h0 : upd w.H0 p o a = none := h0
        rw [upd_ne ne] at h0
        exact ⟨a, vs, e1, (upd_ne ne).trans hp', hi, h0, hf, r, z⟩
    dis := R.dis }
def SV.notOw : SV → Bool
  | .ow _ => false
  | _ => true
/-- behind a block: the frame's own slots again -/
theorem Rel.join {I0 I6 H0 H6 : Hp} {g0 g6 : G} {vs : List Nat} (R0 : Rel K S (w.im I0) env g0 σ H0) (R6 : Rel K S (w.im I6) (env.wipe vs) g6 (L2.wipe σ vs) H6) (s : Same I0 I6) (h : ∀ k ∈ vs, (env.at k).notOw = true) : Rel K S (w.im I6) env g6 σ H6 where
  e0 := R6.e0
  eI := R6.eI
  ag := R6.ag
  ge := R6.ge
  gfp := R6.gfp
  grt := R6.grt
  gok := R6.gok
  fI := R6.fI
  f0 := R6.f0
  len := R0.len
  slot := fun k => by
    by_cases hk : k ∈ vs
    · have q := R0.slot k
      have n := h k hk
      cases e : env.at k with
      | un => trivial
      | sh d => rw [e] at q; obtain ⟨v, e1, r⟩ := q; exact ⟨v, e1, r.mono s⟩
      | st => rw [e] at q; exact q
      | raw v => rw [e] at q; exact q
      | ow ds => rw [e] at n; cases n
    · have q := R6.slot k
      rw [ewipe_out hk] at q
      exact q.of_eq (wipe_out hk).symm
  dis := fun k j p ds es hkj e1 e2 q1 q2 => by
    have nk : k ∉ vs := fun z => by have n := h k z; rw [e1] at n; cases n
    have nj : j ∉ vs := fun z => by have n := h j z; rw [e2] at n; cases n
    exact R6.dis k j p ds es hkj (by rw [ewipe_out nk]; exact e1) (by rw [ewipe_out nj]; exact e2) (by rw [wipe_out nk]; exact q1) (by rw [wipe_out nj]; exact q2)
theorem upd_id {H : Hp} {p : Addr} {o : HO} (h : H p = some o) : upd H p o = H := by
  funext b
  by_cases z : b = p
  · rw [z, upd_same, h]
  · rw [upd_ne z]
def compL (b : MTg G) (mt : MT G) (me : ME G) (env : Env) : List D → G → Option (List D × G)
  | [], g => some ([], g)
  | d :: ds, g => match b d env g with
    | none => none
    | some (env1, g1) => match mt env1 g1 with
      | none => none
      | some (false, g2) => compL b mt me env ds g2
      | some (true, g2) => match me env1 g2 with
        | none => none
        | some (x, g3) => match compL b mt me env ds g3 with
          | none => none
          | some (xs, g4) => some (x :: xs, g4)
def mComp (ml : ML G) (vs : List Nat) (b : MTg G) (mt : MT G) (me : ME G) : ML G := fun env g => bD (ml env g) fun ds g1 => if (vs.all fun k => (env.at k).notOw) = true then compL b mt me (env.wipe vs) ds g1 else none
theorem compL_len {b : MTg G} {mt : MT G} {me : ME G} {env : Env} : ∀ {ds : List D} {g : G} {xs : List D} {g' : G}, compL b mt me env ds g = some (xs, g') → xs.length ≤ ds.length
  | [], g, xs, g', h => by simp [compL] at h; rw [h.1]; exact Nat.le_refl 0
  | d :: ds, g, xs, g', h => by
    unfold compL at h
    cases e1 : b d env g with
    | none => rw [e1] at h; cases h
    | some q0 =>
      obtain ⟨env1, g1⟩ := q0
      rw [e1] at h
      dsimp only at h
      cases e2 : mt env1 g1 with
      | none => rw [e2] at h; cases h
      | some q =>
        obtain ⟨t, g2⟩ := q
        rw [e2] at h
        cases t with
        | false => exact Nat.le_trans (compL_len h) (by simp)
        | true =>
          dsimp only at h
          cases e3 : me env1 g2 with
          | none => rw [e3] at h; cases h
          | some q =>
            obtain ⟨x, g3⟩ := q
            rw [e3] at h
            dsimp only at h
            cases e4 : compL b mt me env ds g3 with
            | none => rw [e4] at h; cases h
            | some q =>
              obtain ⟨ys, g4⟩ := q
              rw [e4] at h
              cases h
              have := compL_len e4
              simp only [List.length_cons]
              omega
def mYes : MT G := fun _ g => some (true, g)
structure DTs {G : Type} (X : Cx) (S : Gs G) (ifs : List Expr) (mt : MT G) : Prop where
  pt : PTs X ifs (tT X.K S mt)
theorem dts_nil : DTs X S [] mYes := ⟨⟨fun pins s σ H Q I h => pts_nil.run pins s σ H Q I (by
  obtain ⟨w, env, g, d, g', R, e, k⟩ := h
  cases e
  exact k w.I H (Same.refl _) R)⟩⟩
theorem dts_one (h : DT X S c mt) : DTs X S [c] mt := ⟨pts_one h⟩
theorem tf_comp {idx vs : List Nat} {bt : MTg G} {me : ME G} {Q : VK} (hok : ∀ d env g env' g', bt d env g = some (env', g') → env'.length = env.length ∧ ∀ k, k ∉ idx → env'.at k = env.at k) (hsub : ∀ k ∈ idx, k ∈ vs)
    (h : tF K S (mComp ml vs bt mt me) σ H Q) : tLc (tI K S ml) (tTg K S idx bt) (tT K S mt) (tE K S me) vs σ H Q := by
  obtain ⟨w, env, g, xs, g', R, e, k⟩ := h
  obtain ⟨ds, g1, e1, e⟩ := bD_some e
  split at e
  case isFalse => cases e
  rename_i hown
  have hown : ∀ k ∈ vs, (env.at k).notOw = true := fun k hk => List.all_eq_true.mp hown k hk
  refine ⟨w, env, g, ds, g1, R, e1, fun J I1 H1 s1 R1 ok hz p hp => ?_⟩
  have n0 : w.H0 p = none := R1.e0.free hp
  have nI : w.I0 p = none := by
    have a1 : Same w.I0 I1 := R1.ge
    exact a1.free (R1.eI.free hp)
  -- the word: the list so far at p, the rest of the run
  refine ⟨fun i m H2 => m = ds.length - i ∧ i ≤ ds.length ∧ ∃ I2 g2 acc us as rest, Same I1 I2 ∧ Rel K S (w.im I2) env g2 σ H2 ∧ Nob (w.im I2) env σ p ∧ H2 p = some (.lst us) ∧ RpA K I2 us as ∧ acc = us ∧ as.length ≤ i ∧
    compL bt mt me (env.wipe vs) (ds.drop i) g2 = some (rest, g') ∧ xs = as ++ rest, ⟨ds.length, by omega, Nat.zero_le _, I1, g1, [], [], [], xs, Same.refl _, R1.alloc hp, R1.nob hp, upd_same, .nil, rfl, Nat.le_refl _, e, rfl⟩, ?_⟩
  rintro i m H2 ⟨rfl, hi, I2, g2, acc, us, as, rest, s2, R2, n2, hp2, ra2, rfl, hl2, e2, ex⟩
  by_cases hlt : i < ds.length
  · refine .inr ⟨ok.go i I2 H2 hlt s2 R2.eI, fun H' => i + 1 ≤ ds.length ∧ ∃ I2 g2 acc us as rest, Same I1 I2 ∧ Rel K S (w.im I2) env g2 σ H' ∧ Nob (w.im I2) env σ p ∧ H' p = some (.lst us) ∧ RpA K I2 us as ∧ acc = us ∧ as.length ≤ i + 1 ∧
      compL bt mt me (env.wipe vs) (ds.drop (i + 1)) g2 = some (rest, g') ∧ xs = as ++ rest, fun H' ⟨q1, q⟩ => ⟨ds.length - (i + 1), by omega, rfl, q1, q⟩, fun x H' y => ?_⟩
    have hd : ds[i]? = some ds[i] := by simp [hlt]
    obtain ⟨I3, ps, r⟩ := ok.yl i I2 H2 x H' _ hd s2 R2.eI y
    rw [List.drop_eq_getElem_cons hlt] at e2
    unfold compL at e2
    cases eb : bt ds[i] (env.wipe vs) g2 with
    | none => rw [eb] at e2; cases e2
    | some eg =>
      obtain ⟨env3, g3⟩ := eg
      rw [eb] at e2
      dsimp only at e2
      have R3 := R2.pst ps
      have n3 : Nob (w.im I3) env σ p := ⟨(ps.ag p (by rw [hp2]; simp)).trans n2.i, n2.h0, n2.f, n2.o⟩
      have hp3 : H' p = some (.lst acc) := ps.eH _ _ hp2
      have R4 := (R3.hold n3 hp3).wipe vs
      have hk := hok _ _ _ _ _ eb
      refine ⟨(w.im I3).hold p (.lst acc), env.wipe vs, g2, ds[i], env3, g3, R4, r, eb, fun σ3 I4 H5 s4 R5 l5 f5 => ?_⟩
      have s4 : Same I3 I4 := s4
      have f5' : ∀ k, k ∉ vs → σ3[k]? = (L2.wipe σ vs)[k]? := fun k hk => f5 k fun z => hk (hsub k z)
      refine ⟨wipe_eq l5 f5', ?_⟩
      -- back from the element's state to the frame's
      have back : ∀ I6 H6 g6, Same I3 I6 → Rel K S ((w.im I6).hold p (.lst acc)) env3 g6 σ3 H6 → Rel K S ((w.im I6).hold p (.lst acc)) (env.wipe vs) g6 (L2.wipe σ vs) H6 := fun I6 H6 g6 s6 R6 =>
        R6.re (by rw [wipe_length, ewipe_len]; exact R.len) fun k => by
          by_cases hk' : k ∈ vs
          · exact .inl (ewipe_in hk')
          · exact .inr ⟨(hk.2 k fun z => hk' (hsub k z)).symm, (f5' k hk').symm⟩
      -- behind the element: the list let go
      have next : ∀ I6 H6 g6 (u : List V), Same I3 I6 → Rel K S ((w.im I6).hold p (.lst acc)) env3 g6 σ3 H6 → Rel K S (w.im I6) env g6 σ (upd H6 p (.lst u)) ∧ Nob (w.im I6) env σ p ∧ H6 p = some (.lst acc) := fun I6 H6 g6 u s6 R6 => by
        obtain ⟨q1, q2, q3⟩ := (back I6 H6 g6 s6 R6).unhold (w := w.im I6) (u := .lst u) n0 nI
        exact ⟨Rel.join R3 q1 s6 hown, ⟨q2.i, q2.h0, q2.f, fun j es ej sj => by
          have nj : j ∉ vs := fun z => by have n := hown j z; rw [ej] at n; cases n
          exact q2.o j es (by rw [ewipe_out nj]; exact ej) (by rw [wipe_out nj]; exact sj)⟩, q3⟩
      cases et : mt env3 g3 with
      | none => rw [et] at e2; cases e2
      | some q =>
        obtain ⟨t, g4⟩ := q
        rw [et] at e2
        refine ⟨(w.im I4).hold p (.lst acc), env3, g3, t, g4, R5, et, fun I6 H6 s6 R6 => ?_⟩
        have s6 : Same I4 I6 := s6
        have s6 : Same I3 I6 := s4.trans s6
        cases t with
        | false =>
          refine iteF ?_
          obtain ⟨q1, q2, q3⟩ := next I6 H6 g4 acc s6 R6
          refine ⟨by omega, I6, g4, acc, acc, as, rest, s2.trans (ps.eI.trans s6), ?_, q2, q3, ra2.mono (ps.eI.trans s6), rfl, by omega, e2, ex⟩
          rw [upd_id q3] at q1
          exact q1
        | true =>
          refine iteT ?_
          dsimp only at e2
          cases em : me env3 g4 with
          | none => rw [em] at e2; cases e2
          | some q =>
            obtain ⟨y5, g5⟩ := q
            rw [em] at e2
            dsimp only at e2
            cases ec : compL bt mt me (env.wipe vs) (ds.drop (i + 1)) g5 with
            | none => rw [ec] at e2; cases e2
            | some q =>
              obtain ⟨ys, g7⟩ := q
              rw [ec] at e2
              cases e2
              refine ⟨(w.im I6).hold p (.lst acc), env3, g4, y5, g5, R6, em, fun v I7 H7 s7 R7 p7 => ?_⟩
              have s7 : Same I6 I7 := s7
              obtain ⟨q1, q2, q3⟩ := next I7 H7 g5 (acc ++ [v]) (s6.trans s7) R7
              refine ⟨acc, q3, ?_, by omega, I7, g5, _, _, as ++ [y5], ys, s2.trans (ps.eI.trans (s6.trans s7)), q1, q2, upd_same, (ra2.mono (ps.eI.trans (s6.trans s7))).append (.one p7), rfl, ?_, ec, ?_⟩
              · rw [ra2.len]; omega
              · rw [List.length_append, List.length_singleton]; omega
              · rw [ex, List.append_assoc]; rfl
  · have hi' : i = ds.length := by omega
    subst hi'
    rw [List.drop_length] at e2
    cases e2
    rw [List.append_nil] at ex
    subst ex
    exact .inl ⟨ok.st _ I2 H2 (Nat.le_refl _) s2 R2.eI, k p acc I2 H2 (s1.trans s2) R2 n2 hp2 ra2 (Nat.le_trans hl2 hz)⟩
theorem df_comp {elt : Expr} {ifs : List Expr} {scope : Scope} {own : List (Str × Nat)} {idx : List Nat} {bt : MTg G} {me : ME G} (hc : X.calm = true) (hN : X.N.Nodup) (hi : DI X S tg iter ml) (ok : BlkOk X.N X.env.scope scope own)
    (hg : ∀ (s : Shared) (H : Hp) (C : Addr) (cl : List (Str × Addr)) (fp : List Addr), DTg (X.blk s H scope (compEnvC scope cl C X.env) fp) S tg idx bt) (ht : ∀ (s : Shared) (H : Hp) (C : Addr) (cl : List (Str × Addr)) (fp : List Addr), DTs (X.blk s H scope (compEnvC scope cl C X.env) fp) S ifs mt)
    (he : ∀ (s : Shared) (H : Hp) (C : Addr) (cl : List (Str × Addr)) (fp : List Addr), DE (X.blk s H scope (compEnvC scope cl C X.env) fp) S elt me) (hsub : ∀ k ∈ idx, k ∈ own.map (·.2) := by decide) (hs : ∀ x, foldedSetIterable iter X.env x = pure x := by intro _; rfl) :
    DF X S (.ListComp elt [⟨tg, iter, ifs, 0⟩] scope pos) (mComp ml (own.map (·.2)) bt mt me) :=
  PE.imp (pe_lc hc hN hi ok (fun s H C cl fp => (hg s H C cl fp).pg) (fun s H C cl fp => (ht s H C cl fp).pt) he hs) fun _ _ _ h => tf_comp (hg X.s_0 X.H_0 0 [] []).ok hsub h
/-- x = [.. for ..] on one line -/
theorem ts_setLc {idx vs : List Nat} {bt : MTg G} {me : ME G} {i : Nat} {D : Ends} (hok : ∀ d env g env' g', bt d env g = some (env', g') → env'.length = env.length ∧ ∀ k, k ∉ idx → env'.at k = env.at k) (hsub : ∀ k ∈ idx, k ∈ vs)
    (h : tS K S (mSetF i (mComp ml vs bt mt me)) D σ H) : tAsg (tLc (tI K S ml) (tTg K S idx bt) (tT K S mt) (tE K S me) vs) (gName i) D σ H := by
  obtain ⟨w, env, g, c, env', g', R, e, k⟩ := h
  obtain ⟨x, g1, e1, e⟩ := bD_some e
  cases e
  exact tf_comp hok hsub ⟨w, env, g, x, g', R, e1, fun p vs I' H' s' R' n hp ra hz => k _ I' H' s' (R'.putL n hp ra hz)⟩
theorem ds_setLc {elt : Expr} {ifs : List Expr} {scope : Scope} {own : List (Str × Nat)} {idx : List Nat} {bt : MTg G} {me : ME G} {i : Nat} {y : Str} {py spos : Pos} (hc : X.calm = true) (hN : X.N.Nodup) (hy : X.N[i]? = some y) (hyl : X.env.scope.names.lookup y = some .local)
    (hsw : swapsWith (.ListComp elt [⟨tg, iter, ifs, 0⟩] scope pos) (some (.Name y py)) spos.line X.env = pure true) (hi : DI X S tg iter ml) (ok : BlkOk X.N X.env.scope scope own)
    (hg : ∀ (s : Shared) (H : Hp) (C : Addr) (cl : List (Str × Addr)) (fp : List Addr), DTg (X.blk s H scope (compEnvC scope cl C X.env) fp) S tg idx bt) (ht : ∀ (s : Shared) (H : Hp) (C : Addr) (cl : List (Str × Addr)) (fp : List Addr), DTs (X.blk s H scope (compEnvC scope cl C X.env) fp) S ifs mt)
    (he : ∀ (s : Shared) (H : Hp) (C : Addr) (cl : List (Str × Addr)) (fp : List Addr), DE (X.blk s H scope (compEnvC scope cl C X.env) fp) S elt me) (hsub : ∀ k ∈ idx, k ∈ own.map (·.2) := by decide) (hs : ∀ x, foldedSetIterable iter X.env x = pure x := by intro _; rfl) :
    DS X S (.Assign [.Name y py] (.ListComp elt [⟨tg, iter, ifs, 0⟩] scope pos) spos) (mSetF i (mComp ml (own.map (·.2)) bt mt me)) :=
  PS.imp (ps_setLc hc hN hy hyl hsw hi ok (fun s H C cl fp => (hg s H C cl fp).pg) (fun s H C cl fp => (ht s H C cl fp).pt) he hs) fun _ _ _ h => ts_setLc (hg X.s_0 X.H_0 0 [] []).ok hsub h
/-- .. behind it handed out -/
def mThen (m : MS G) (j : Nat) : MS G := fun env g => match m env g with
  | some (.nx, e, g1) => some (.nx, e.frz j, g1)
  | r => r
theorem ds_then {st : Stmt} {m : MS G} (j : Nat) (h : DS X S st m) : DS X S st (mThen m j) := PS.imp h fun D σ H ⟨w, env, g, c, env', g', R, e, k⟩ => by
  unfold mThen at e
  split at e
  · rename_i e1 g1 em
    cases e
    refine ⟨w, env, g, .nx, e1, g', R, em, fun σ' I' H' s' R' => ?_⟩
    obtain ⟨I2, s2, R2⟩ := R'.frz j
    exact k σ' I2 H' (Same.trans s' s2) R2
  · exact ⟨w, env, g, c, env', g', R, e, k⟩
end
end Pd

/-! Pd: lists of one's own, defs. -/
namespace Pd
open PySem PySem.Spec L2
section
variable {G : Type} {X : Cx} {S : Gs G} {a b c e : Expr} {es rest : List Expr} {pos : Pos} {ma mb mc me : ME G} {mt mu : MT G} {ml : ML G} {st : Stmt} {sts body : List Stmt} {m m1 m2 : MS G} {tg iter : Expr}
variable {K : PySem.W.Frag} {w : Wd} {env env' : Env} {g g' : G} {σ : St} {H H' I' : Hp}

theorem Rel.own {j : Nat} {ds : List D} (R : Rel K S w env g σ H) (e : env.at j = .ow ds) : ∃ p vs, σ[j]? = some (some (.ref p)) ∧ H p = some (.lst vs) ∧ w.I p = none ∧ w.H0 p = none ∧ ¬ w.fp p ∧ RpA K w.I vs ds ∧ ds.length ≤ sizeLine := by
  have q := R.slot j
  rw [e] at q
  exact q
/-- x.append(e) -/
def mApp (j : Nat) (me : ME G) : MS G := fun env g => bD (me env g) fun d g1 => match env.at j with
  | .ow ds => if ds.length < sizeLine then some (.nx, env.set j (.ow (ds ++ [d])), g1) else none
  | _ => none
theorem ts_app {j : Nat} {D : Ends} (h : tS K S (mApp j me) D σ H) : tDrop (tBM K "list" rAppend (tVar j) (tA K S (mCons me mNil))) D σ H := by
  obtain ⟨w, env, g, c, env', g', R, e, k⟩ := h
  obtain ⟨d, g1, e1, e⟩ := bD_some e
  split at e
  · rename_i ds ej
    split at e
    · rename_i hz
      cases e
      obtain ⟨p, vs, sj, hp, _⟩ := R.own ej
      refine ⟨_, sj, .inl ⟨rfl, vs, SqL.of hp⟩, w, env, g, [d], g', R, ?_, fun us I' H' s' R' ra => ?_⟩
      · show bD (me env g) (fun x g1 => bD (mNil env g1) fun xs g2 => some (x :: xs, g2)) = some ([d], g')
        rw [e1]; rfl
      · cases ra with
        | cons r q =>
          cases q
          obtain ⟨p', us, sj', hp', hi, h0, hf, rb, hy⟩ := R'.own ej
          rw [sj] at sj'
          cases sj'
          refine ⟨p, us, _, rfl, rfl, hp', by rw [rb.len]; exact hz, ?_⟩
          exact k σ I' _ s' (R'.setOw ej sj hp' hi h0 hf (rb.append (.one r)) (by rw [List.length_append, List.length_singleton]; omega))
    · cases e
  · cases e
theorem ds_append (j : Nat) {x : Str} {xp ap cp : Pos} (he : DE X S e me) (hN : X.N[j]? = some x := by rfl) (hv : Vis X.env.scope x := by first | exact Or.inl rfl | exact Or.inr (Or.inl rfl) | exact Or.inr (Or.inr rfl)) (hd : (x == ("__debug__" : Str)) = false := by decide)
    (hcd : (x == ("__classdict__" : Str)) = false := by decide)
    (hbase : attributeBase (.Name x xp) "append" X.env (eval (.Name x xp) X.env) = eval (.Name x xp) X.env := by rfl)
    (hfew : ((backTo cp (starEach [e] X.env)).all (fun x => !x.1) && (backToKw cp (keywordEach [] X.env)).all (fun x => x.1.isSome)
      && decide ([e].length + ([] : List Keyword).length + (if ([] : List Keyword).isEmpty then 0 else 1) < 30)) = true := by rfl)
    (hline : (ap.endLine == cp.line) = true := by rfl) (hs : starEach [e] X.env = (false, eval e X.env) :: starEach [] X.env := by rfl) (hplain : (backTo cp (starEach [] X.env)).any (·.1) = false := by rfl)
    (hsw : swapsWith (.Call (.Attribute (.Name x xp) "append" ap) [e] [] cp) none pos.line X.env = pure false := by rfl) :
    DS X S (.Expr (.Call (.Attribute (.Name x xp) "append" ap) [e] [] cp) pos) (mApp j me) :=
  PS.imp (ps_expr (pe_bm PySem.F.plainAttrs_list PySem.F.slot_list_append PySem.F.type_list_append mt_append (pe_var hN hv hd hcd) (da_cons (S := S) he da_nil hs) hbase hfew hline hs hplain) hsw) fun _ _ _ h => ts_app h
/-- x[i] = e -/
def mSetIx (j : Nat) (mi me : ME G) : MS G := fun env g => bD (me env g) fun d g1 => bD (mi env g1) fun i g2 => match env.at j, i with
  | .ow ds, .int i => (ixN ds.length i).map fun k => (.nx, env.set j (.ow (ds.set k d)), g2)
  | _, _ => none
theorem ts_setIx {j : Nat} {mi : ME G} {D : Ends} (h : tS K S (mSetIx j mi me) D σ H) : tAsg (tE K S me) (gSub (tVar j) (tE K S mi) rSetL) D σ H := by
  obtain ⟨w, env, g, c, env', g', R, e, k⟩ := h
  obtain ⟨d, g1, e1, e⟩ := bD_some e
  obtain ⟨i, g2, e2, e⟩ := bD_some e
  split at e
  · rename_i ds i ej
    obtain ⟨n, en, e⟩ := Option.map_eq_some_iff.mp e
    cases e
    refine ⟨w, env, g, d, g1, R, e1, fun v I1 H1 s1 R1 p1 => ?_⟩
    obtain ⟨p, vs, sj, hp, _⟩ := R1.own ej
    refine ⟨_, sj, w.im I1, env, g1, _, g', R1, e2, fun u I2 H2 s2 R2 p2 => ?_⟩
    cases p2
    obtain ⟨p', us, sj', hp', hi, h0, hf, rb, hy⟩ := R2.own ej
    rw [sj] at sj'
    cases sj'
    refine ⟨p, us, i, n, rfl, rfl, hp', by rw [rb.len]; exact en, ?_⟩
    exact k σ I2 _ (s1.trans s2) (R2.setOw ej sj hp' hi h0 hf (rb.set (p1.mono s2) n) (by rw [List.length_set]; exact hy))
  · cases e
theorem ds_setIx (j : Nat) {x : Str} {xp sp : Pos} {i : Expr} {mi : ME G} (hi : DE X S i mi) (he : DE X S e me) (hN : X.N[j]? = some x := by rfl) (hv : Vis X.env.scope x := by first | exact Or.inl rfl | exact Or.inr (Or.inl rfl) | exact Or.inr (Or.inr rfl)) (hd : (x == ("__debug__" : Str)) = false := by decide)
    (hcd : (x == ("__classdict__" : Str)) = false := by decide)
    (ha : ∀ v, assign (.Subscript (.Name x xp) i sp) X.env v = (do
      let ov ← holding [v] (eval (.Name x xp) X.env)
      let iv ← holding [v, ov] (eval i X.env)
      standAt sp
      holding [v, ov, iv] (setItem ov iv v)
      release [v, ov, iv] []) := by intro _; rfl)
    (hs : swapsWithSole [.Subscript (.Name x xp) i sp] e pos.line X.env = pure false := by rfl) (hw : swappedStores [.Subscript (.Name x xp) i sp] e X.env = pure none := by rfl)
    (h1 : (assignEach [.Subscript (.Name x xp) i sp] X.env).map (·.2) = [assign (.Subscript (.Name x xp) i sp) X.env] := by rfl) :
    DS X S (.Assign [.Subscript (.Name x xp) i sp] e pos) (mSetIx j mi me) := PS.imp (ps_asg he (pg_sub (pe_var hN hv hd hcd) hi set_list ha) hs hw h1) fun _ _ _ h => ts_setIx h
/-- x.extend(e), e a list that stands -/
def mExt (j : Nat) (me : ME G) : MS G := fun env g => bD (me env g) fun d g1 => match env.at j, d with
  | .ow ds, .list es => if ds.length + es.length ≤ sizeLine then some (.nx, env.set j (.ow (ds ++ es)), g1) else none
  | _, _ => none
theorem ts_ext {j : Nat} {D : Ends} (h : tS K S (mExt j me) D σ H) : tDrop (tBM K "list" rExtend (tVar j) (tA K S (mCons me mNil))) D σ H := by
  obtain ⟨w, env, g, c, env', g', R, e, k⟩ := h
  obtain ⟨d, g1, e1, e⟩ := bD_some e
  split at e
  · rename_i ds es ej
    split at e
    · rename_i hz
      cases e
      obtain ⟨p, vs, sj, hp, _⟩ := R.own ej
      refine ⟨_, sj, .inl ⟨rfl, vs, SqL.of hp⟩, w, env, g, [.list es], g', R, ?_, fun us I' H' s' R' ra => ?_⟩
      · show bD (me env g) (fun x g1 => bD (mNil env g1) fun xs g2 => some (x :: xs, g2)) = some ([.list es], g')
        rw [e1]; rfl
      · cases ra with
        | cons r q =>
          cases q
          obtain ⟨p', us, sj', hp', hi, h0, hf, rb, hy⟩ := R'.own ej
          rw [sj] at sj'
          cases sj'
          cases r with
          | lst hq rc hx =>
            refine ⟨p, _, us, _, rfl, rfl, hp', R'.eI _ _ hq, by rw [rb.len, rc.len]; exact hz, ?_⟩
            exact k σ I' _ s' (R'.setOw ej sj hp' hi h0 hf (rb.append rc) (by rw [List.length_append]; exact hz))
    · cases e
  · cases e
theorem ds_extend (j : Nat) {x : Str} {xp ap cp : Pos} (he : DE X S e me) (hN : X.N[j]? = some x := by rfl) (hv : Vis X.env.scope x := by first | exact Or.inl rfl | exact Or.inr (Or.inl rfl) | exact Or.inr (Or.inr rfl)) (hd : (x == ("__debug__" : Str)) = false := by decide)
    (hcd : (x == ("__classdict__" : Str)) = false := by decide)
    (hbase : attributeBase (.Name x xp) "extend" X.env (eval (.Name x xp) X.env) = eval (.Name x xp) X.env := by rfl)
    (hfew : ((backTo cp (starEach [e] X.env)).all (fun x => !x.1) && (backToKw cp (keywordEach [] X.env)).all (fun x => x.1.isSome)
      && decide ([e].length + ([] : List Keyword).length + (if ([] : List Keyword).isEmpty then 0 else 1) < 30)) = true := by rfl)
    (hline : (ap.endLine == cp.line) = true := by rfl) (hs : starEach [e] X.env = (false, eval e X.env) :: starEach [] X.env := by rfl) (hplain : (backTo cp (starEach [] X.env)).any (·.1) = false := by rfl)
    (hsw : swapsWith (.Call (.Attribute (.Name x xp) "extend" ap) [e] [] cp) none pos.line X.env = pure false := by rfl) :
    DS X S (.Expr (.Call (.Attribute (.Name x xp) "extend" ap) [e] [] cp) pos) (mExt j me) :=
  PS.imp (ps_expr (pe_bm PySem.F.plainAttrs_list PySem.F.slot_list_extend PySem.F.type_list_extend mt_extend (pe_var hN hv hd hcd) (da_cons (S := S) he da_nil hs) hbase hfew hline hs hplain) hsw) fun _ _ _ h => ts_ext h

/-! ### lent for one look: the answer holds no list -/
def Env.lend (js : List Nat) (env : Env) : Env := js.foldl Env.frz env
theorem frz_at (env : Env) (j k : Nat) : (env.frz j).at k = env.at k ∨ ∃ ds, env.at k = .ow ds ∧ (env.frz j).at k = .sh (.list ds) := by
  unfold Env.frz
  split
  · rename_i ds e
    rw [at_set]
    by_cases z : k = j ∧ j < env.length
    · rw [if_pos z, z.1]
      exact .inr ⟨ds, e, rfl⟩
    · rw [if_neg z]; exact .inl rfl
  · exact .inl rfl
theorem lend_at : ∀ (js : List Nat) (env : Env) (k : Nat), (env.lend js).at k = env.at k ∨ ∃ ds, env.at k = .ow ds ∧ (env.lend js).at k = .sh (.list ds)
  | [], env, k => .inl rfl
  | j :: js, env, k => by
    show (Env.lend js (env.frz j)).at k = env.at k ∨ ∃ ds, env.at k = .ow ds ∧ (Env.lend js (env.frz j)).at k = .sh (.list ds)
    rcases lend_at js (env.frz j) k with h1 | ⟨ds, h1, h2⟩
    · rcases frz_at env j k with h | ⟨ds, h, h'⟩
      · exact .inl (h1.trans h)
      · exact .inr ⟨ds, h, h1.trans h'⟩
    · rcases frz_at env j k with h | ⟨es, h, h'⟩
      · exact .inr ⟨ds, h.symm.trans h1, h2⟩
      · rw [h'] at h1; cases h1
theorem Rel.lend : ∀ (js : List Nat) {w : Wd} {env : Env}, Rel K S w env g σ H → ∃ I', Same w.I I' ∧ Rel K S (w.im I') (env.lend js) g σ H
  | [], w, env, R => ⟨w.I, Same.refl _, R⟩
  | j :: js, w, env, R => by
    obtain ⟨I1, s1, R1⟩ := R.frz j
    obtain ⟨I2, s2, R2⟩ := Rel.lend js R1
    exact ⟨I2, s1.trans s2, R2⟩
def Env.noOw (env : Env) : Bool := (List.range env.length).all fun k => (env.at k).notOw
theorem noOw_at {env : Env} (h : env.noOw = true) (k : Nat) : (env.at k).notOw = true := by
  by_cases z : k < env.length
  · exact List.all_eq_true.mp h k (List.mem_range.mpr z)
  · show (env.getD k .un).notOw = true
    rw [List.getD_eq_getElem?_getD, List.getElem?_eq_none (by omega)]; rfl
theorem Rel.unlend {js : List Nat} {I1 I2 : Hp} (R : Rel K S w env g σ H) (RL : Rel K S (w.im I1) (env.lend js) g σ H) (R2 : Rel K S (w.im I2) (env.lend js) g' σ H') (s0 : Same w.I I1) (s : Same I1 I2) (no : (env.lend js).noOw = true) : Rel K S w env g' σ H' where
  e0 := R2.e0
  eI := s0.trans (s.trans R2.eI)
  ag := R.ag
  ge := R.ge
  gfp := R2.gfp
  grt := R2.grt
  gok := R2.gok
  fI := R.fI
  f0 := R.f0
  len := R.len
  slot := fun k => by
    have q := R.slot k
    cases e : env.at k with
    | un => trivial
    | sh d => rw [e] at q; exact q
    | st => rw [e] at q; exact q
    | raw v => rw [e] at q; exact q
    | ow ds =>
      rw [e] at q
      obtain ⟨p, vs, e1, hp, hi, h0, hf, r, z⟩ := q
      refine ⟨p, vs, e1, ?_, hi, h0, hf, r, z⟩
      rcases lend_at js env k with h | ⟨es, h, h'⟩
      · have n := noOw_at no k
        rw [h, e] at n; cases n
      · have ql := RL.slot k
        rw [h'] at ql
        obtain ⟨v, f1, rp⟩ := ql
        rw [e1] at f1
        cases f1
        cases rp with
        | lst hq _ _ =>
          have hq1 := RL.eI _ _ hq
          rw [hp] at hq1
          cases hq1
          exact R2.eI _ _ (s _ _ hq)
  dis := R.dis
def scal0 : D → Bool
  | .none | .bool _ | .int _ | .str _ => true
  | _ => false
theorem scal0_rp {I J : Hp} {v : V} {d : D} (h : Rp K I v d) (z : scal0 d = true) : Rp K J v d := by
  cases h with
  | non => exact .non
  | bl b => exact .bl b
  | int i => exact .int i
  | str h => exact .str h
  | _ => cases z
def mLend (js : List Nat) (ma : ME G) : ME G := fun env g => if (env.lend js).noOw = true then bD (ma (env.lend js) g) fun d g1 => if scal0 d = true then some (d, g1) else none else none
def mLendT (js : List Nat) (mt : MT G) : MT G := fun env g => if (env.lend js).noOw = true then mt (env.lend js) g else none
theorem de_lend (js : List Nat) (h : DE X S e ma) : DE X S e (mLend js ma) := PE.imp h fun σ H Q ⟨w, env, g, d, g', R, e, k⟩ => by
  unfold mLend at e
  split at e
  case isFalse => cases e
  rename_i no
  obtain ⟨x, g1, e1, e⟩ := bD_some e
  split at e
  case isFalse => cases e
  rename_i sc
  cases e
  obtain ⟨I1, s1, RL⟩ := R.lend js
  exact ⟨w.im I1, env.lend js, g, d, g', RL, e1, fun v I' H' s' R' p => k v w.I H' (Same.refl _) (R.unlend RL R' s1 s' no) (scal0_rp p sc)⟩
theorem dt_lend (js : List Nat) (h : DT X S e mt) : DT X S e (mLendT js mt) := PT.imp h fun σ H Q ⟨w, env, g, d, g', R, e, k⟩ => by
  unfold mLendT at e
  split at e
  case isFalse => cases e
  rename_i no
  obtain ⟨I1, s1, RL⟩ := R.lend js
  exact ⟨w.im I1, env.lend js, g, d, g', RL, e, fun I' H' s' R' => k w.I H' (Same.refl _) (R.unlend RL R' s1 s' no)⟩
/-- x[i], x a list of one's own -/
def mIxOw (j : Nat) (mi : ME G) : ME G := fun env g => bD (mi env g) fun i g1 => match env.at j, i with
  | .ow ds, .int i => (atI ds i).map (·, g1)
  | _, _ => none
theorem de_ixOw (j : Nat) {x : Str} {xp : Pos} {i : Expr} {mi : ME G} (hi : DE X S i mi) (hN : X.N[j]? = some x := by rfl) (hv : Vis X.env.scope x := by first | exact Or.inl rfl | exact Or.inr (Or.inl rfl) | exact Or.inr (Or.inr rfl)) (hd : (x == ("__debug__" : Str)) = false := by decide)
    (hcd : (x == ("__classdict__" : Str)) = false := by decide) (hs : PlainIx i := by exact fun _ _ => rfl) : DE X S (.Subscript (.Name x xp) i pos) (mIxOw j mi) := PE.imp (pe_ix ix_list (pe_var hN hv hd hcd) hi hs) fun σ H Q ⟨w, env, g, d, g', R, e, k⟩ => by
  obtain ⟨i, g1, e1, e⟩ := bD_some e
  split at e
  · rename_i ds i ej
    obtain ⟨e3, rfl⟩ := map_some e
    obtain ⟨p, vs, sj, hp, _⟩ := R.own ej
    refine ⟨_, sj, w, env, g, _, g', R, e1, fun u I2 H2 s2 R2 p2 => ?_⟩
    cases p2
    obtain ⟨p', us, sj', hp', _, _, _, rb, _⟩ := R2.own ej
    rw [sj] at sj'
    cases sj'
    obtain ⟨v, e4, r⟩ := atI_rp rb e3
    exact ⟨p, us, i, v, rfl, rfl, SqL.of hp', e4, k v I2 H2 s2 R2 r⟩
  · cases e
/-- xs + ys, a new list -/
def mCat (ma mb : ME G) : ML G := fun env g => bD (ma env g) fun x g1 => bD (mb env g1) fun y g2 => match x, y with
  | .list xs, .list ys => if xs.length + ys.length ≤ sizeLine then some (xs ++ ys, g2) else none
  | _, _ => none
theorem df_cat (ha : DE X S a ma) (hb : DE X S b mb) : DF X S (.BinOp a .Add b pos) (mCat ma mb) := PE.imp (pe_op op_cat ha hb) fun σ H Q ⟨w, env, g, d, g', R, e, k⟩ => by
  obtain ⟨x, g1, e1, e⟩ := bD_some e
  obtain ⟨y, g2, e2, e⟩ := bD_some e
  split at e
  · rename_i xs ys
    split at e
    · rename_i hz
      cases e
      refine ⟨w, env, g, _, g1, R, e1, fun v I1 H1 s1 R1 p1 => ⟨w.im I1, env, g1, _, g', R1, e2, fun u I2 H2 s2 R2 p2 => ?_⟩⟩
      have s2 : Same I1 I2 := s2
      cases p1 with
      | lst hp ra _ =>
        cases p2 with
        | lst hq rb _ =>
          exact ⟨_, _, _, _, rfl, rfl, R2.eI _ _ (s2 _ _ hp), R2.eI _ _ hq, by rw [ra.len, rb.len]; exact hz, fun p h0 => k p _ I2 _ (s1.trans s2) (R2.alloc h0) (R2.nob h0) upd_same ((ra.mono s2).append rb) (by rw [List.length_append]; exact hz)⟩
    · cases e
  · cases e
def mCatOw (j : Nat) (mb : ME G) : ML G := fun env g => bD (mb env g) fun y g2 => match env.at j, y with
  | .ow xs, .list ys => if xs.length + ys.length ≤ sizeLine then some (xs ++ ys, g2) else none
  | _, _ => none
theorem df_catOw (j : Nat) {x : Str} {xp : Pos} (hb : DE X S b mb) (hN : X.N[j]? = some x := by rfl) (hv : Vis X.env.scope x := by first | exact Or.inl rfl | exact Or.inr (Or.inl rfl) | exact Or.inr (Or.inr rfl)) (hd : (x == ("__debug__" : Str)) = false := by decide)
    (hcd : (x == ("__classdict__" : Str)) = false := by decide) : DF X S (.BinOp (.Name x xp) .Add b pos) (mCatOw j mb) := PE.imp (pe_op op_cat (pe_var hN hv hd hcd) hb) fun σ H Q ⟨w, env, g, d, g', R, e, k⟩ => by
  obtain ⟨y, g2, e2, e⟩ := bD_some e
  split at e
  · rename_i xs ys ej
    split at e
    · rename_i hz
      cases e
      obtain ⟨p, vs, sj, hp, _⟩ := R.own ej
      refine ⟨_, sj, w, env, g, _, g', R, e2, fun u I2 H2 s2 R2 p2 => ?_⟩
      obtain ⟨p', us, sj', hp', _, _, _, ra, _⟩ := R2.own ej
      rw [sj] at sj'
      cases sj'
      cases p2 with
      | lst hq rb _ =>
        exact ⟨_, _, _, _, rfl, rfl, hp', R2.eI _ _ hq, by rw [ra.len, rb.len]; exact hz, fun p h0 => k p _ I2 _ s2 (R2.alloc h0) (R2.nob h0) upd_same (ra.append rb) (by rw [List.length_append]; exact hz)⟩
    · cases e
  · cases e
/-- xs * n -/
def mRep (ma mb : ME G) : ML G := fun env g => bD (ma env g) fun x g1 => bD (mb env g1) fun y g2 => match x, y with
  | .list xs, .int k => if -(2 ^ 63) ≤ k ∧ k < 2 ^ 63 ∧ xs.length * k.toNat ≤ sizeLine then some ((List.replicate k.toNat xs).flatten, g2) else none
  | _, _ => none
theorem df_rep (ha : DE X S a ma) (hb : DE X S b mb) : DF X S (.BinOp a .Mult b pos) (mRep ma mb) := PE.imp (pe_op op_rep ha hb) fun σ H Q ⟨w, env, g, d, g', R, e, k⟩ => by
  obtain ⟨x, g1, e1, e⟩ := bD_some e
  obtain ⟨y, g2, e2, e⟩ := bD_some e
  split at e
  · rename_i xs n
    split at e
    · rename_i hz
      cases e
      refine ⟨w, env, g, _, g1, R, e1, fun v I1 H1 s1 R1 p1 => ⟨w.im I1, env, g1, _, g', R1, e2, fun u I2 H2 s2 R2 p2 => ?_⟩⟩
      have s2 : Same I1 I2 := s2
      cases p1 with
      | lst hp ra _ =>
        cases p2
        refine ⟨_, _, _, rfl, rfl, R2.eI _ _ (s2 _ _ hp), hz.1, hz.2.1, by rw [ra.len]; exact hz.2.2, fun p h0 => k p _ I2 _ (s1.trans s2) (R2.alloc h0) (R2.nob h0) upd_same ((ra.mono s2).flatRep _) ?_⟩
        rw [List.length_flatten, List.map_replicate, List.sum_replicate_nat, Nat.mul_comm]
        exact hz.2.2
    · cases e
  · cases e
end
end Pd

/-! Pd: defs. -/
namespace Pd
open PySem PySem.Spec L2
section
variable {G : Type} {X : Cx} {S : Gs G} {m : MS G}
variable {K : PySem.W.Frag} {w : Wd} {env env' : Env} {g g' : G} {σ : St} {H H' I I' : Hp}

def startE (N : Nat) (as : List SV) : Env := as ++ List.replicate (N - as.length) .un
/-- a def's run: N slots, n parameters -/
def runS (N n : Nat) (m : MS G) (as : List SV) (g : G) : Option (Ct × G) := if as.length = n ∧ n ≤ N then match m (startE N as) g with
  | some (.re d, _, g1) => some (.re d, g1)
  | some (.rl ds, _, g1) => some (.rl ds, g1)
  | some (.nx, _, g1) => some (.re .none, g1)
  | _ => none
  else none
def Ct.data : Ct → Option D
  | .re d => some d
  | .rl ds => some (.list ds)
  | _ => none
def Ct.fresh : Ct → Option (List D)
  | .rl ds => some ds
  | _ => none
def runP (N n : Nat) (m : MS Unit) (ds : List D) : Option D := (runS N n m (ds.map .sh) ()).bind fun c => c.1.data
def runN (N n : Nat) (m : MS Unit) (ds : List D) : Option (List D) := (runS N n m (ds.map .sh) ()).bind fun c => c.1.fresh
def runG (N n : Nat) (m : MS G) (as : List SV) (g : G) : Option (D × G) := (runS N n m as g).bind fun c => c.1.data.map (·, c.2)

/-- the frame at a def's entry -/
theorem start_slot {w : Wd} {rt : V} {N : List Str} {vs : List V} {as : List SV} (hrt : w.rt = rt) (ha : ArgsOk K w.I rt vs as) (hl : as.length ≤ N.length) : ∀ i, SlotOk K w (start N vs) H i ((startE N.length as).at i) ∧ ∀ ds, (startE N.length as).at i ≠ .ow ds := by
  have key : ∀ {vs : List V} {as : List SV}, ArgsOk K w.I rt vs as → ∀ (n i : Nat), SlotOk K w (vs.map some ++ List.replicate n none) H i (Env.at (as ++ List.replicate n .un) i) ∧ ∀ ds, Env.at (as ++ List.replicate n .un) i ≠ .ow ds := by
    intro vs as h
    induction h with
    | nil =>
      intro n i
      have e : Env.at ([] ++ List.replicate n SV.un) i = .un := by
        show ([] ++ List.replicate n SV.un).getD i .un = .un
        rw [List.nil_append, List.getD_eq_getElem?_getD, List.getElem?_replicate]
        split <;> rfl
      rw [e]
      exact ⟨trivial, fun ds z => nomatch z⟩
    | @cons v vs a as ha _ ih =>
      intro n i
      cases i with
      | zero =>
        show SlotOk K w (some v :: _) H 0 a ∧ ∀ ds, a ≠ .ow ds
        cases a with
        | un => exact ha.elim
        | ow ds => exact ha.elim
        | sh d => exact ⟨⟨v, rfl, ha⟩, fun ds z => nomatch z⟩
        | st => exact ⟨(show some (some v) = some (some w.rt) by rw [hrt]; exact congrArg (fun x => some (some x)) ha), fun ds z => nomatch z⟩
        | raw u => exact ⟨(show some (some v) = some (some u) from congrArg (fun x => some (some x)) ha), fun ds z => nomatch z⟩
      | succ i =>
        have q := ih n i
        have e : Env.at ((a :: as) ++ List.replicate n .un) (i + 1) = Env.at (as ++ List.replicate n .un) i := rfl
        rw [e]
        refine ⟨?_, q.2⟩
        have q1 := q.1
        cases z : Env.at (as ++ List.replicate n .un) i with
        | un => trivial
        | sh d => rw [z] at q1; exact q1
        | st => rw [z] at q1; exact q1
        | raw u => rw [z] at q1; exact q1
        | ow ds => exact absurd z (q.2 ds)
  intro i
  have hv := ha.len
  have q := key ha (N.length - as.length) i
  unfold L2.start startE
  rw [hv]
  exact q
theorem start_rel {rt : V} {N : List Str} {vs : List V} {as : List SV} (w : Wd) (hrt : w.rt = rt) (ha : ArgsOk K w.I rt vs as) (hl : as.length ≤ N.length)
    (e0 : Same w.H0 H) (eI : Same w.I H) (ag : ∀ a o, w.H0 a = some o → w.I a = w.I0 a) (ge : Same w.I0 w.I) (gfp : ∀ a, S.fp g a ↔ w.fp a) (grt : S.root g = w.rt) (gok : S.ok g H) (fI : ∀ a, w.fp a → w.I a = none) (f0 : ∀ a, w.fp a → w.H0 a = none) :
    Rel K S w (startE N.length as) g (start N vs) H where
  e0 := e0
  eI := eI
  ag := ag
  ge := ge
  gfp := gfp
  grt := grt
  gok := gok
  fI := fI
  f0 := f0
  len := by
    unfold L2.start startE
    rw [List.length_append, List.length_append, List.length_map, List.length_replicate, List.length_replicate, ha.len]
  slot := fun i => (start_slot hrt ha hl i).1
  dis := fun i j p ds es _ e1 => absurd e1 ((start_slot (H := H) hrt ha hl i).2 ds)
theorem ArgsOk.of_rp {rt : V} : ∀ {vs : List V} {ds : List D}, RpA K I vs ds → ArgsOk K I rt vs (ds.map .sh)
  | _, _, .nil => .nil
  | _, _, .cons a b => .cons a (ArgsOk.of_rp b)
theorem runS_len {N n : Nat} {as : List SV} (r) (h : runS N n m as g = some r) : as.length = n ∧ n ≤ N := by
  unfold runS at h
  split at h
  · assumption
  · cases h
/-- what a def's end tells -/
def EndR (K : PySem.W.Frag) (S : Gs G) (w : Wd) (g' : G) (Q : VK) : Ct → Prop
  | .re d => ∀ v env' σ' I' H', Same w.I I' → Rel K S (w.im I') env' g' σ' H' → Rp K I' v d → Q v H'
  | .rl ds => ∀ p vs env' σ' I' H', Same w.I I' → Rel K S (w.im I') env' g' σ' H' → Nob (w.im I') env' σ' p → H' p = some (.lst vs) → RpA K I' vs ds → ds.length ≤ sizeLine → Q (.ref p) H'
  | _ => True
theorem run_body {N : List Str} {n : Nat} {as : List SV} {vs : List V} {w : Wd} {c : Ct} {Q : VK} (R : Rel K S w (startE N.length as) g (start N vs) H) (h : runS N.length n m as g = some (c, g')) (k : EndR K S w g' Q c) :
    tS K S m { nx := fun _ H' => Q .non H', rt := Q } (start N vs) H := by
  obtain ⟨hl, hn⟩ := runS_len _ h
  unfold runS at h
  rw [if_pos ⟨hl, hn⟩] at h
  split at h
  · rename_i d e1 g1 e
    cases h
    exact ⟨w, _, g, .re d, e1, g', R, e, fun v σ' I' H' s' R' p => k v e1 σ' I' H' s' R' p⟩
  · rename_i d e1 g1 e
    cases h
    exact ⟨w, _, g, .rl d, e1, g', R, e, fun p vs σ' I' H' s' R' n hp ra z => k p vs e1 σ' I' H' s' R' n hp ra z⟩
  · rename_i e1 g1 e
    cases h
    exact ⟨w, _, g, .nx, e1, g', R, e, fun σ' I' H' s' R' => k .non e1 σ' I' H' s' R' .non⟩
  · cases h
variable {P : Program} {wd : World} {mg : Str → Option Value} {base : Heap}
/-- a def's body as a term of rules, in any frame -/
abbrev Body (P : Program) (wd : World) (K : PySem.W.Frag) (mg : Str → Option Value) (base : Heap) (N : List Str) (qual : Str) (st : Stmt) (f : Addr) (k : Nat) (S : Gs G) (m : MS G) : Prop :=
  ∀ (cdv : Value) (A : Around) (outer : List PySem.Env) (s : Shared) (H : Hp) (E : XK), Room k (A.deeper (PyProof.Rows.envOfC qual (defScope st) s.heap.objs.size f cdv)) →
    PSs (cxOf CX0 P wd K mg base N qual (defScope st) f cdv A outer s H E).nox (defBody st) (tS K S m)
theorem fn_pure {x qual : Str} {st : Stmt} {f : Addr} {fd : FuncData} {N ps : List Str} {k : Nat} {m : MS Unit} (F : Fun K x qual st f fd) (Sc : FnScope N ps (defScope st)) (hb : Body P wd K mg base N qual st f k G0 m) :
    FnOk P wd K mg base CX0 (k + 1) f fd ps (spP K (runP N.length ps.length m)) := by
  refine F.ok Sc (fun vs H Q E h => ?_) (fun cdv A outer s H vs Q E hr h => ?_)
  · obtain ⟨I, ds, d, _, ra, e, _⟩ := h
    obtain ⟨c, e1, _⟩ := Option.bind_eq_some_iff.mp e
    have q := (runS_len (c.1, c.2) e1).1
    rw [List.length_map] at q
    rw [ra.len, q]
  · obtain ⟨I, ds, d, sI, ra, e, kk⟩ := h
    obtain ⟨⟨c, u⟩, e1, e2⟩ := Option.bind_eq_some_iff.mp e
    have hl := runS_len _ e1
    refine ⟨_, hb cdv A outer s H E hr, ?_⟩
    have R : Rel K G0 ⟨H, I, I, fun _ => False, .non⟩ (startE N.length (ds.map .sh)) () (start N vs) H :=
      start_rel (rt := .non) ⟨H, I, I, fun _ => False, .non⟩ rfl (ArgsOk.of_rp ra) (by rw [hl.1]; exact hl.2) (Same.refl _) sI (fun _ _ _ => rfl) (Same.refl _) (fun _ => Iff.rfl) rfl trivial (fun _ z => z.elim) (fun _ z => z.elim)
    refine run_body (c := c) (g' := u) R e1 ?_
    have fin : ∀ (env' : Env) σ' I' H', Same I I' → Rel K G0 (Wd.im ⟨H, I, I, fun _ => False, .non⟩ I') env' u σ' H' → Pst I H I' H' := fun env' σ' I' H' s' R' => ⟨s', R'.e0, R'.eI, fun a ha => by
      cases q : H a with
      | none => exact absurd q ha
      | some o => exact R'.ag a o q⟩
    cases c with
    | re d' =>
      cases e2
      exact fun v env' σ' I' H' s' R' p => kk v I' H' (fin env' σ' I' H' s' R') p
    | rl ds' =>
      cases e2
      refine fun p us env' σ' I' H' s' R' n hp rb z => ?_
      have R2 := R'.freeze n hp
      exact kk (.ref p) _ H' (fin env' σ' _ H' (Same.trans s' (same_new n.i)) R2) (.lst upd_same (rb.mono (same_new n.i)) z)
    | _ => cases e2
theorem fn_new {x qual : Str} {st : Stmt} {f : Addr} {fd : FuncData} {N ps : List Str} {k : Nat} {m : MS Unit} (F : Fun K x qual st f fd) (Sc : FnScope N ps (defScope st)) (hb : Body P wd K mg base N qual st f k G0 m) :
    FnOk P wd K mg base CX0 (k + 1) f fd ps (spN K (runN N.length ps.length m)) := by
  refine F.ok Sc (fun vs H Q E h => ?_) (fun cdv A outer s H vs Q E hr h => ?_)
  · obtain ⟨I, ds, d, _, ra, e, _⟩ := h
    obtain ⟨c, e1, _⟩ := Option.bind_eq_some_iff.mp e
    have q := (runS_len (c.1, c.2) e1).1
    rw [List.length_map] at q
    rw [ra.len, q]
  · obtain ⟨I, ds, d, sI, ra, e, kk⟩ := h
    obtain ⟨⟨c, u⟩, e1, e2⟩ := Option.bind_eq_some_iff.mp e
    have hl := runS_len _ e1
    refine ⟨_, hb cdv A outer s H E hr, ?_⟩
    have R : Rel K G0 ⟨H, I, I, fun _ => False, .non⟩ (startE N.length (ds.map .sh)) () (start N vs) H :=
      start_rel (rt := .non) ⟨H, I, I, fun _ => False, .non⟩ rfl (ArgsOk.of_rp ra) (by rw [hl.1]; exact hl.2) (Same.refl _) sI (fun _ _ _ => rfl) (Same.refl _) (fun _ => Iff.rfl) rfl trivial (fun _ z => z.elim) (fun _ z => z.elim)
    refine run_body (c := c) (g' := u) R e1 ?_
    cases c with
    | rl ds' =>
      cases e2
      refine fun p us env' σ' I' H' s' R' n hp rb z => kk p us I' H' ⟨s', R'.e0, R'.eI, fun a ha => ?_⟩ n.h0 n.i hp rb z
      cases q : H a with
      | none => exact absurd q ha
      | some o => exact R'.ag a o q
    | _ => cases e2
open Classical in
theorem fn_ghost {x qual : Str} {st : Stmt} {f : Addr} {fd : FuncData} {N ps : List Str} {k : Nat} {m : MS G} (F : Fun K x qual st f fd) (Sc : FnScope N ps (defScope st)) (hb : Body P wd K mg base N qual st f k S m) :
    FnOk P wd K mg base CX0 (k + 1) f fd ps (spG K S (runG N.length ps.length m)) := by
  refine F.ok Sc (fun vs H Q E h => ?_) (fun cdv A outer s H vs Q E hr h => ?_)
  · obtain ⟨I, g, as, d, g', _, _, _, ra, e, _⟩ := h
    obtain ⟨c, e1, _⟩ := Option.bind_eq_some_iff.mp e
    have q := (runS_len (c.1, c.2) e1).1
    rw [ra.len, q]
  · obtain ⟨I, g, as, d, g', sI, gok, fI, ra, e, kk⟩ := h
    obtain ⟨⟨c, g1⟩, e1, e2⟩ := Option.bind_eq_some_iff.mp e
    have hl := runS_len _ e1
    refine ⟨_, hb cdv A outer s H E hr, ?_⟩
    have h0 : Same (fun a => if S.fp g a then none else H a) H := fun a o q => by
      have q : (if S.fp g a then none else H a) = some o := q
      split at q
      · cases q
      · exact q
    have R : Rel K S ⟨fun a => if S.fp g a then none else H a, I, I, S.fp g, S.root g⟩ (startE N.length as) g (start N vs) H :=
      start_rel (rt := S.root g) ⟨fun a => if S.fp g a then none else H a, I, I, S.fp g, S.root g⟩ rfl ra (by rw [hl.1]; exact hl.2) h0 sI (fun _ _ _ => rfl) (Same.refl _) (fun _ => Iff.rfl) rfl gok fI (fun a z => if_pos z)
    refine run_body (c := c) (g' := g1) R e1 ?_
    have fin : ∀ (env' : Env) σ' I' H', Same I I' → Rel K S (Wd.im ⟨fun a => if S.fp g a then none else H a, I, I, S.fp g, S.root g⟩ I') env' g1 σ' H' → Gst S I H g I' H' g1 := fun env' σ' I' H' s' R' => {
      eI := s'
      eH := fun a o q nf => R'.e0 a o (show (if S.fp g a then none else H a) = some o by rw [if_neg nf]; exact q)
      sub := R'.eI
      ag := fun a ha => by
        by_cases z : S.fp g a
        · exact (R'.fI a z).trans (fI a z).symm
        · cases q : H a with
          | none => exact absurd q ha
          | some o => exact R'.ag a o (show (if S.fp g a then none else H a) = some o by rw [if_neg z]; exact q)
      fp' := R'.gfp
      rt := R'.grt
      ok := R'.gok }
    have e2 : (c.data).map (·, g1) = some (d, g') := e2
    cases c with
    | re d' =>
      cases e2
      exact fun v env' σ' I' H' s' R' p => kk v I' H' (fin env' σ' I' H' s' R') p
    | rl ds' =>
      cases e2
      refine fun p us env' σ' I' H' s' R' n hp rb z => ?_
      have R2 := R'.freeze n hp
      exact kk (.ref p) _ H' (fin env' σ' _ H' (Same.trans s' (same_new n.i)) R2) (.lst upd_same (rb.mono (same_new n.i)) z)
    | _ => cases e2
end
end Pd

/-! Pd: operations by values. -/
namespace Pd
open PySem PySem.Spec L2
section
variable {G : Type} {X : Cx} {S : Gs G} {K : PySem.W.Frag}

/-! ### ints -/
def dI (g : Int → Int → D) : D → D → Option D
  | .int i, .int j => some (g i j)
  | _, _ => none
def dIc (C : Int → Int → Prop) [∀ i j, Decidable (C i j)] (g : Int → Int → D) : D → D → Option D
  | .int i, .int j => if C i j then some (g i j) else none
  | _, _ => none
theorem od_I {gv : Int → Int → V} {g : Int → Int → D} (h : ∀ i j I, Rp K I (gv i j) (g i j)) : OpD K (rI0 gv) (dI g) := by
  intro I H x y d e z s p q hz Q k
  cases p with
  | int i =>
    cases q with
    | int j => cases hz; exact ⟨i, j, rfl, rfl, k _ I H (Pst.refl s) (h i j I)⟩
    | _ => cases hz
  | _ => cases hz
theorem od_Ic {C : Int → Int → Prop} [∀ i j, Decidable (C i j)] {gv : Int → Int → V} {g : Int → Int → D} (h : ∀ i j I, Rp K I (gv i j) (g i j)) : OpD K (rI C gv) (dIc C g) := by
  intro I H x y d e z s p q hz Q k
  cases p with
  | int i =>
    cases q with
    | int j =>
      have hz : (if C i j then some (g i j) else none) = some z := hz
      split at hz
      · rename_i hc
        cases hz
        exact ⟨i, j, rfl, rfl, hc, k _ I H (Pst.refl s) (h i j I)⟩
      · cases hz
    | _ => cases hz
  | _ => cases hz
instance (i j : Int) : Decidable (CMul i j) := by unfold CMul; exact inferInstance
instance (i j : Int) : Decidable (CDivN i j) := by unfold CDivN; exact inferInstance
instance (i j : Int) : Decidable (CPow i j) := by unfold CPow; exact inferInstance

/-! ### + -/
theorem sok_app {x y : Str} (hx : SOk x) (hy : SOk y) (hz : x.length + y.length ≤ sizeLine) : SOk (x ++ y) := by
  refine ⟨?_, ?_⟩
  · have e : (x ++ y).length = x.length + y.length := by
      show (x.cps ++ y.cps).size = x.cps.size + y.cps.size
      rw [Array.size_append]
    rw [e]; exact hz
  · have h1 := hx.2
    have h2 := hy.2
    simp only [PyData.canLay0] at h1 h2 ⊢
    unfold PyData.strOk at h1 h2 ⊢
    show (x.cps ++ y.cps).all _ = true
    rw [Array.all_append, h1, h2]
    rfl
def dAddS : D → D → Option D
  | .str x, .str y => if x.length + y.length ≤ sizeLine then some (.str (x ++ y)) else none
  | _, _ => none
def dAddT : D → D → Option D
  | .tuple xs, .tuple ys => if xs.length + ys.length ≤ sizeLine then some (.tuple (xs ++ ys)) else none
  | _, _ => none
def dAddL : D → D → Option D
  | .list xs, .list ys => if xs.length + ys.length ≤ sizeLine then some (.list (xs ++ ys)) else none
  | _, _ => none
theorem od_addS : OpD K (fun x y H Q => ∃ i j, x = .str i ∧ y = .str j ∧ i.length + j.length ≤ sizeLine ∧ Q (.str (i ++ j)) H) dAddS := by
  intro I H x y d e z s p q hz Q k
  cases p with
  | str hx =>
    cases q with
    | str hy =>
      have hz : (if _ then _ else none) = some z := hz
      split at hz
      · rename_i hc
        cases hz
        exact ⟨_, _, rfl, rfl, hc, k _ I H (Pst.refl s) (.str (sok_app hx hy hc))⟩
      · cases hz
    | _ => cases hz
  | _ => cases hz
theorem od_addT : OpD K (rCatA K) dAddT := by
  intro I H x y d e z s p q hz Q k
  cases p with
  | tup hp ra hl =>
    cases q with
    | tup hq rb hm =>
      have hz : (if _ then _ else none) = some z := hz
      split at hz
      · rename_i hc
        cases hz
        refine ⟨_, _, _, _, rfl, rfl, same_t s hp, same_t s hq, by rw [ra.len, rb.len]; exact hc, fun e => ?_, fun _ e => ?_, fun _ _ p h0 => ?_⟩
        · subst e
          cases ra
          exact k _ I H (Pst.refl s) (.tup hq rb hm)
        · subst e
          cases rb
          rw [List.append_nil] at k
          exact k _ I H (Pst.refl s) (.tup hp ra hl)
        · exact k _ _ _ (Pst.new s h0) (.tup (SqT.of upd_same) ((ra.append rb).mono (Pst.new s h0).eI) (by rw [List.length_append]; exact hc))
      · cases hz
    | _ => cases hz
  | _ => cases hz
theorem od_addL : OpD K rCat dAddL := by
  intro I H x y d e z s p q hz Q k
  cases p with
  | lst hp ra hl =>
    cases q with
    | lst hq rb hm =>
      have hz : (if _ then _ else none) = some z := hz
      split at hz
      · rename_i hc
        cases hz
        refine ⟨_, _, _, _, rfl, rfl, s _ _ hp, s _ _ hq, by rw [ra.len, rb.len]; exact hc, fun p h0 => ?_⟩
        exact k _ _ _ (Pst.new s h0) (.lst upd_same ((ra.append rb).mono (Pst.new s h0).eI) (by rw [List.length_append]; exact hc))
      · cases hz
    | _ => cases hz
  | _ => cases hz
def dAddI : D → D → Option D := dI fun i j => .int (i + j)
/-- + of ints, texts, tuples, lists -/
def dAdd (x y : D) : Option D := match x, y with
  | .int i, .int j => some (.int (i + j))
  | .str x, .str y => if x.length + y.length ≤ sizeLine then some (.str (x ++ y)) else none
  | .tuple xs, .tuple ys => if xs.length + ys.length ≤ sizeLine then some (.tuple (xs ++ ys)) else none
  | .list xs, .list ys => if xs.length + ys.length ≤ sizeLine then some (.list (xs ++ ys)) else none
  | _, _ => none
theorem OpD.imp {r : R2} {f f' : D → D → Option D} (h : OpD K r f) (e : ∀ x y z, f' x y = some z → f x y = some z) : OpD K r f' := by
  intro I H x y d e' z s p q hz Q k
  exact h s p q (e _ _ _ hz) k
abbrev rAddD (K : PySem.W.Frag) : R2 := fun x y H Q => rI0 (fun i j => .int (i + j)) x y H Q ∨ ((∃ i j, x = .str i ∧ y = .str j ∧ i.length + j.length ≤ sizeLine ∧ Q (.str (i ++ j)) H) ∨ (rCatA K x y H Q ∨ rCat x y H Q))
theorem op_addD : OpR X (binaryOp .Add) (rAddD X.K) := op_add.or (op_add_str.or (op_catA.or op_cat))
theorem od_addD : OpD K (rAddD K) dAdd := OpD.imp (OpD.or (od_I (g := fun i j => .int (i + j)) fun i j I => .int _) (OpD.or od_addS (OpD.or od_addT od_addL))) fun x y z h => by
  unfold dAdd at h
  split at h
  · exact h
  · split at h
    · rename_i hc
      simp only [dI, dAddS, if_pos hc]; exact h
    · cases h
  · split at h
    · rename_i hc
      simp only [dI, dAddS, dAddT, if_pos hc]; exact h
    · cases h
  · split at h
    · rename_i hc
      simp only [dI, dAddS, dAddT, dAddL, if_pos hc]; exact h
    · cases h
  · cases h
abbrev dSub : D → D → Option D := dI fun i j => .int (i - j)
theorem od_sub : OpD K (rI0 fun i j => .int (i - j)) dSub := od_I fun i j I => .int _
abbrev dMul : D → D → Option D := dIc CMul fun i j => .int (i * j)
theorem od_mul : OpD K (rI CMul fun i j => .int (i * j)) dMul := od_Ic fun i j I => .int _
abbrev dDiv : D → D → Option D := dIc CDivN fun i j => .int (i.fdiv j)
theorem od_div : OpD K (rI CDivN fun i j => .int (i.fdiv j)) dDiv := od_Ic fun i j I => .int _
abbrev dMod : D → D → Option D := dIc (fun _ j => j ≠ 0) fun i j => .int (i.fmod j)
theorem od_mod : OpD K (rI (fun _ j => j ≠ 0) fun i j => .int (i.fmod j)) dMod := od_Ic fun i j I => .int _
abbrev dPow : D → D → Option D := dIc CPow fun i j => .int (i ^ j.toNat)
theorem od_pow : OpD K (rI CPow fun i j => .int (i ^ j.toNat)) dPow := od_Ic fun i j I => .int _
abbrev dShl : D → D → Option D := dIc CPow fun i j => .int (i * 2 ^ j.toNat)
theorem od_shl : OpD K (rI CPow fun i j => .int (i * 2 ^ j.toNat)) dShl := od_Ic fun i j I => .int _
def dNeg : D → Option D
  | .int i => some (.int (-i))
  | _ => none
theorem ud_neg : UnD K (rU fun i => .int (-i)) dNeg := by
  intro I H x d z s p hz Q k
  cases p with
  | int i => cases hz; exact ⟨i, rfl, k _ I H (Pst.refl s) (.int _)⟩
  | _ => cases hz

/-! ### comparisons -/
abbrev dLtI : D → D → Option D := dI fun i j => .bool (decide (i < j))
theorem od_ltI : OpD K (rI0 fun i j => .bl (decide (i < j))) dLtI := od_I fun i j I => .bl _
abbrev dLeI : D → D → Option D := dI fun i j => .bool (decide (i ≤ j))
theorem od_leI : OpD K (rI0 fun i j => .bl (decide (i ≤ j))) dLeI := od_I fun i j I => .bl _
abbrev dGtI : D → D → Option D := dI fun i j => .bool (decide (j < i))
theorem od_gtI : OpD K (rI0 fun i j => .bl (decide (j < i))) dGtI := od_I fun i j I => .bl _
abbrev dGeI : D → D → Option D := dI fun i j => .bool (decide (j ≤ i))
theorem od_geI : OpD K (rI0 fun i j => .bl (decide (j ≤ i))) dGeI := od_I fun i j I => .bl _
def dEq (x y : D) : Option D := if x.depth ≤ 64 ∧ y.depth ≤ 64 then some (.bool (PyData.eqv x y)) else none
def dNe (x y : D) : Option D := if x.depth ≤ 64 ∧ y.depth ≤ 64 then some (.bool (!PyData.eqv x y)) else none
theorem shaped_of {I : Hp} {v : V} {d : D} (h : Rp K I v d) (hd : d.depth ≤ 64) : SeqAt.shaped d = true := by
  unfold SeqAt.shaped
  rw [h.lay, decide_eq_true hd]
  rfl
theorem od_eq : OpD K (rEqD K) dEq := by
  intro I H x y d e z s p q hz Q k
  unfold dEq at hz
  split at hz
  · rename_i hc
    cases hz
    exact ⟨d, e, (p.mono s).dp, (q.mono s).dp, shaped_of p hc.1, shaped_of q hc.2, k _ I H (Pst.refl s) (.bl _)⟩
  · cases hz
theorem od_ne : OpD K (rNeD K) dNe := by
  intro I H x y d e z s p q hz Q k
  unfold dNe at hz
  split at hz
  · rename_i hc
    cases hz
    exact ⟨d, e, (p.mono s).dp, (q.mono s).dp, shaped_of p hc.1, shaped_of q hc.2, k _ I H (Pst.refl s) (.bl _)⟩
  · cases hz
def isNone : D → Bool
  | .none => true
  | _ => false
def dIs : D → D → Option D
  | x, .none => some (.bool (isNone x))
  | _, _ => none
def dIsNot : D → D → Option D
  | x, .none => some (.bool (!isNone x))
  | _, _ => none
theorem isNone_rp {I : Hp} {v : V} {d : D} (h : Rp K I v d) : decide (v = .non) = isNone d := by
  cases h <;> simp [isNone]
theorem od_is : OpD K (fun x y H Q => y = .non ∧ Q (.bl (decide (x = .non))) H) dIs := by
  intro I H x y d e z s p q hz Q k
  cases q with
  | non => cases hz; exact ⟨rfl, by rw [isNone_rp p]; exact k _ I H (Pst.refl s) (.bl _)⟩
  | _ => cases hz
theorem od_isNot : OpD K (fun x y H Q => y = .non ∧ Q (.bl (!decide (x = .non))) H) dIsNot := by
  intro I H x y d e z s p q hz Q k
  cases q with
  | non => cases hz; exact ⟨rfl, by rw [isNone_rp p]; exact k _ I H (Pst.refl s) (.bl _)⟩
  | _ => cases hz
/-- in: a list of data, a tuple of flat data, one sign in a text -/
def flatD : D → Bool
  | .none | .bool _ | .int _ | .str _ => true
  | _ => false
theorem flat_rp {I : Hp} {v : V} {d : D} (h : Rp K I v d) : flatV v = flatD d := by cases h <;> rfl
theorem eqV_rp {I : Hp} {u v : V} {d e : D} (hu : Rp K I u d) (hv : Rp K I v e) (fd : flatD d = true) (fe : flatD e = true) : eqV u v = PyData.eqv d e := by
  cases hu <;> cases hv <;> first | (cases fd; done) | (cases fe; done) | (simp only [eqV, PyData.eqv])
theorem inV_rp {I : Hp} {x : V} {d : D} (hx : Rp K I x d) (fd : flatD d = true) : ∀ {vs : List V} {ds : List D}, RpA K I vs ds → ds.all flatD = true → inV x vs = ds.any fun e => PyData.eqv e d
  | _, _, .nil, _ => rfl
  | _, _, .cons (d := e) a b, h => by
    rw [List.all_cons, Bool.and_eq_true] at h
    show (eqV _ x || inV x _) = (PyData.eqv e d || _)
    rw [eqV_rp a hx h.1 fd, inV_rp hx fd b h.2]
theorem flats_rp {I : Hp} : ∀ {vs : List V} {ds : List D}, RpA K I vs ds → vs.all flatV = ds.all flatD
  | _, _, .nil => rfl
  | _, _, .cons a b => by rw [List.all_cons, List.all_cons, flat_rp a, flats_rp b]
def dInF (neg : Bool) : D → D → Option D
  | x, .list ds => if flatD x = true ∧ ds.all flatD = true then some (.bool (if neg then !ds.any (fun e => PyData.eqv e x) else ds.any fun e => PyData.eqv e x)) else none
  | x, .tuple ds => if flatD x = true ∧ ds.all flatD = true then some (.bool (if neg then !ds.any (fun e => PyData.eqv e x) else ds.any fun e => PyData.eqv e x)) else none
  | _, _ => none
theorem od_inF (neg : Bool) : OpD K (rIn K neg) (dInF neg) := by
  intro I H x y d e z s p q hz Q k
  cases q with
  | lst hq ra hl =>
    have hz : (if _ then _ else none) = some z := hz
    split at hz
    · rename_i hc
      cases hz
      refine ⟨_, _, rfl, .inl (SqL.of (s _ _ hq)), by rw [flat_rp p]; exact hc.1, by rw [flats_rp ra]; exact hc.2, ?_⟩
      rw [inV_rp p hc.1 ra hc.2]
      exact k _ I H (Pst.refl s) (.bl _)
    · cases hz
  | tup hq ra hl =>
    have hz : (if _ then _ else none) = some z := hz
    split at hz
    · rename_i hc
      cases hz
      refine ⟨_, _, rfl, .inr (same_t s hq), by rw [flat_rp p]; exact hc.1, by rw [flats_rp ra]; exact hc.2, ?_⟩
      rw [inV_rp p hc.1 ra hc.2]
      exact k _ I H (Pst.refl s) (.bl _)
    · cases hz
  | _ => cases hz
def dInS (neg : Bool) : D → D → Option D
  | .str ⟨cs⟩, .str z => match cs.toList with
    | [c] => some (.bool (if neg then !decide (c ∈ z.cps.toList) else decide (c ∈ z.cps.toList)))
    | _ => none
  | _, _ => none
theorem dInS_some {neg : Bool} {x y z : D} (h : dInS neg x y = some z) : ∃ c u, x = .str ⟨#[c]⟩ ∧ y = .str u ∧ z = .bool (if neg then !decide (c ∈ u.cps.toList) else decide (c ∈ u.cps.toList)) := by
  cases x with
  | str s =>
    obtain ⟨cs⟩ := s
    cases y with
    | str u =>
      have h : (match cs.toList with
        | [c] => some (PyData.bool (if neg then !decide (c ∈ u.cps.toList) else decide (c ∈ u.cps.toList)))
        | _ => none) = some z := h
      split at h
      · rename_i c ec
        cases h
        have e : cs = #[c] := by
          apply Array.ext'
          rw [ec]
        exact ⟨c, u, by rw [e], rfl, rfl⟩
      · cases h
    | _ => cases h
  | _ => cases h
theorem od_inS : OpD K (fun x y H Q => ∃ (c : Nat) (z : Str), x = .str ⟨#[c]⟩ ∧ y = .str z ∧ Q (.bl (decide (c ∈ z.cps.toList))) H) (dInS false) := by
  intro I H x y d e z s p q hz Q k
  obtain ⟨c, u, rfl, rfl, rfl⟩ := dInS_some hz
  cases p
  cases q
  exact ⟨c, u, rfl, rfl, k _ I H (Pst.refl s) (.bl _)⟩
theorem od_notInS : OpD K (fun x y H Q => ∃ (c : Nat) (z : Str), x = .str ⟨#[c]⟩ ∧ y = .str z ∧ Q (.bl (!decide (c ∈ z.cps.toList))) H) (dInS true) := by
  intro I H x y d e z s p q hz Q k
  obtain ⟨c, u, rfl, rfl, rfl⟩ := dInS_some hz
  cases p
  cases q
  exact ⟨c, u, rfl, rfl, k _ I H (Pst.refl s) (.bl _)⟩

/-! ### built-in functions -/
def dLen : List D → Option D
  | [.list ds] => some (.int ds.length)
  | [.tuple ds] => some (.int ds.length)
  | [.str x] => some (.int x.length)
  | _ => none
theorem cd_len : CallD K (fun xs H Q => ∃ x n, xs = [x] ∧ LenV K x H n ∧ Q (.int n) H) dLen := by
  intro I H xs ds z s p hz Q k
  cases p with
  | nil => cases hz
  | cons a b =>
    cases b with
    | cons _ _ => cases a <;> cases hz
    | nil =>
      cases a with
      | lst hp ra hl => cases hz; exact ⟨_, _, rfl, .inl ⟨_, SqL.of (s _ _ hp), ra.len.symm⟩, k _ I H (Pst.refl s) (.int _)⟩
      | tup hp ra hl => cases hz; exact ⟨_, _, rfl, .inr ⟨_, same_t s hp, ra.len.symm⟩, k _ I H (Pst.refl s) (.int _)⟩
      | str hx => cases hz; exact ⟨_, _, rfl, ⟨hx.1, rfl⟩, k _ I H (Pst.refl s) (.int _)⟩
      | _ => cases hz
def dAbs : List D → Option D
  | [.int i] => some (.int (if i < 0 then -i else i))
  | _ => none
theorem cd_abs : CallD K (fun xs H Q => ∃ i, xs = [.int i] ∧ Q (.int (if i < 0 then -i else i)) H) dAbs := by
  intro I H xs ds z s p hz Q k
  cases p with
  | nil => cases hz
  | cons a b =>
    cases b with
    | cons _ _ => cases a <;> cases hz
    | nil =>
      cases a with
      | int i => cases hz; exact ⟨i, rfl, k _ I H (Pst.refl s) (.int _)⟩
      | _ => cases hz
def dInt : List D → Option D
  | [.int i] => some (.int i)
  | [.bool b] => some (.int (if b then 1 else 0))
  | _ => none
theorem cd_int : CallD K (fun xs H Q => (∃ i, xs = [.int i] ∧ Q (.int i) H) ∨ ∃ k, xs = [.bl k] ∧ Q (.int (if k then 1 else 0)) H) dInt := by
  intro I H xs ds z s p hz Q k
  cases p with
  | nil => cases hz
  | cons a b =>
    cases b with
    | cons _ _ => cases a <;> cases hz
    | nil =>
      cases a with
      | int i => cases hz; exact .inl ⟨i, rfl, k _ I H (Pst.refl s) (.int _)⟩
      | bl i => cases hz; exact .inr ⟨i, rfl, k _ I H (Pst.refl s) (.int _)⟩
      | _ => cases hz
def dMax2 : List D → Option D
  | [.int i, .int j] => some (.int (if j > i then j else i))
  | _ => none
def dMin2 : List D → Option D
  | [.int i, .int j] => some (.int (if j < i then j else i))
  | _ => none
theorem rpa_two {I : Hp} {xs : List V} {i j : Int} (h : RpA K I xs [.int i, .int j]) : xs = [.int i, .int j] := by
  cases h with
  | cons a b => cases a; cases b with
    | cons a b => cases a; cases b; rfl
theorem cd_max2 : CallD K (fun xs H Q => ∃ i j, xs = [.int i, .int j] ∧ Q (.int (if j > i then j else i)) H) dMax2 := by
  intro I H xs ds z s p hz Q k
  unfold dMax2 at hz
  split at hz
  · cases hz; exact ⟨_, _, rpa_two p, k _ I H (Pst.refl s) (.int _)⟩
  · cases hz
theorem cd_min2 : CallD K (fun xs H Q => ∃ i j, xs = [.int i, .int j] ∧ Q (.int (if j < i then j else i)) H) dMin2 := by
  intro I H xs ds z s p hz Q k
  unfold dMin2 at hz
  split at hz
  · cases hz; exact ⟨_, _, rpa_two p, k _ I H (Pst.refl s) (.int _)⟩
  · cases hz
/-- list(x) -/
def dListOf : List D → Option (List D)
  | [.list ds] => some ds
  | [.tuple ds] => some ds
  | _ => none
theorem cf_list : CallF K (fun xs H Q => ∃ p ys, xs = [.ref p] ∧ (SqL K H p ys ∨ SqT K H p ys) ∧ ∀ l, H l = none → Q (.ref l) (upd H l (.lst ys))) dListOf := by
  intro I H xs ds zs s p hz Q k
  cases p with
  | nil => cases hz
  | cons a b =>
    cases b with
    | cons _ _ => cases a <;> cases hz
    | nil =>
      cases a with
      | lst hp ra hl => cases hz; exact ⟨_, _, rfl, .inl (SqL.of (s _ _ hp)), fun l h0 => k l _ _ h0 (same_new h0) upd_same ra hl⟩
      | tup hp ra hl => cases hz; exact ⟨_, _, rfl, .inr (same_t s hp), fun l h0 => k l _ _ h0 (same_new h0) upd_same ra hl⟩
      | _ => cases hz
def dTupleOf : List D → Option D
  | [.list ds] => some (.tuple ds)
  | [.tuple ds] => some (.tuple ds)
  | _ => none
theorem cd_tuple : CallD K (fun xs H Q => ∃ p ys, xs = [.ref p] ∧ ((SqL K H p ys ∧ ∀ l, H l = none → Q (.ref l) (upd H l (.tup ys))) ∨ (SqT K H p ys ∧ Q (.ref p) H))) dTupleOf := by
  intro I H xs ds zs s p hz Q k
  cases p with
  | nil => cases hz
  | cons a b =>
    cases b with
    | cons _ _ => cases a <;> cases hz
    | nil =>
      cases a with
      | lst hp ra hl =>
        cases hz
        exact ⟨_, _, rfl, .inl ⟨SqL.of (s _ _ hp), fun l h0 => by
          exact k _ _ _ (Pst.new s h0) (.tup (SqT.of upd_same) (ra.mono (Pst.new s h0).eI) hl)⟩⟩
      | tup hp ra hl => cases hz; exact ⟨_, _, rfl, .inr ⟨same_t s hp, k _ I H (Pst.refl s) (.tup hp ra hl)⟩⟩
      | _ => cases hz
def intsD : List D → Option (List Int)
  | [] => some []
  | .int i :: ds => (intsD ds).map (i :: ·)
  | _ => none
theorem intsD_some : ∀ {ds : List D} {ns : List Int}, intsD ds = some ns → ds = ns.map .int
  | [], _, h => by cases h; rfl
  | d :: ds, ns, h => by
    cases d with
    | int i =>
      obtain ⟨r, h1, rfl⟩ := Option.map_eq_some_iff.mp h
      rw [intsD_some h1]; rfl
    | _ => cases h
theorem intsD_map : ∀ ns : List Int, intsD (ns.map .int) = some ns
  | [] => rfl
  | n :: ns => by show (intsD (ns.map .int)).map (n :: ·) = _; rw [intsD_map ns]; rfl
def boolsD : List D → Option (List Bool)
  | [] => some []
  | .bool i :: ds => (boolsD ds).map (i :: ·)
  | _ => none
theorem boolsD_some : ∀ {ds : List D} {ns : List Bool}, boolsD ds = some ns → ds = ns.map .bool
  | [], _, h => by cases h; rfl
  | d :: ds, ns, h => by
    cases d with
    | bool i =>
      obtain ⟨r, h1, rfl⟩ := Option.map_eq_some_iff.mp h
      rw [boolsD_some h1]; rfl
    | _ => cases h
theorem boolsD_map : ∀ ns : List Bool, boolsD (ns.map .bool) = some ns
  | [] => rfl
  | n :: ns => by show (boolsD (ns.map .bool)).map (n :: ·) = _; rw [boolsD_map ns]; rfl
theorem RpA.bools {H : Hp} : ∀ {vs : List V} {ns : List Bool}, RpA K H vs (ns.map .bool) → vs = ns.map V.bl
  | _, [], h => by cases h; rfl
  | _, n :: ns, h => by
    cases h with
    | cons a b => cases a; rw [List.map_cons, ← RpA.bools b]
def dSum : List D → Option D
  | [.list ds] => (intsD ds).map fun ns => .int ns.sum
  | _ => none
theorem one_lst {I : Hp} {xs : List V} {ds : List D} (h : RpA K I xs [.list ds]) : ∃ p vs, xs = [.ref p] ∧ I p = some (.lst vs) ∧ RpA K I vs ds ∧ ds.length ≤ sizeLine := by
  cases h with
  | cons a b => cases b; cases a with
    | lst hp ra hl => exact ⟨_, _, rfl, hp, ra, hl⟩
theorem cd_sum : CallD K (rSum K) dSum := by
  intro I H xs ds z s p hz Q k
  unfold dSum at hz
  split at hz
  · obtain ⟨ns, e, rfl⟩ := Option.map_eq_some_iff.mp hz
    obtain ⟨a, vs, rfl, hp, ra, hl⟩ := one_lst p
    rw [intsD_some e] at ra
    rw [RpA.ints ra] at hp
    exact ⟨a, ns, rfl, SqL.of (s _ _ hp), k _ I H (Pst.refl s) (.int _)⟩
  · cases hz
def dAll : List D → Option D
  | [.list ds] => (boolsD ds).map fun ns => .bool (ns.all id)
  | _ => none
theorem cd_all : CallD K (rAll K) dAll := by
  intro I H xs ds z s p hz Q k
  unfold dAll at hz
  split at hz
  · obtain ⟨ns, e, rfl⟩ := Option.map_eq_some_iff.mp hz
    obtain ⟨a, vs, rfl, hp, ra, hl⟩ := one_lst p
    rw [boolsD_some e] at ra
    rw [RpA.bools ra] at hp
    exact ⟨a, ns, rfl, SqL.of (s _ _ hp), k _ I H (Pst.refl s) (.bl _)⟩
  · cases hz
def dAny : List D → Option D
  | [.list ds] => (boolsD ds).map fun ns => .bool (ns.any id)
  | _ => none
theorem cd_any : CallD K (rAny K) dAny := by
  intro I H xs ds z s p hz Q k
  unfold dAny at hz
  split at hz
  · obtain ⟨ns, e, rfl⟩ := Option.map_eq_some_iff.mp hz
    obtain ⟨a, vs, rfl, hp, ra, hl⟩ := one_lst p
    rw [boolsD_some e] at ra
    rw [RpA.bools ra] at hp
    exact ⟨a, ns, rfl, SqL.of (s _ _ hp), k _ I H (Pst.refl s) (.bl _)⟩
  · cases hz
end
end Pd

/-! Pd: order of data, isinstance, texts. -/
namespace PdLt
open PySem PySem.SeqAt
open SeqRoads2 MeetsSeq3 MeetsSeq2 MeetsSeq
open AutoSeq1 (wpAny_loadPart')
set_option autoImplicit false
/-- two tuples whose first items are unlike: these decide -/
theorem meets_first (p q : Addr) (us ws : Array Value) (c1 c2 : Nat) (e1 e2 : Option Addr) (z1 z2 : Array (Option Value)) (k : Bool) (hu : 0 < us.size) (hw : 0 < ws.size) : Meets (Builtin.«tuple.__lt__» ⟨[.ref p, .ref q], []⟩)
    (fun A R s => s.heap.get? p = some { cls := .type "tuple", dict := e1, data := .seq us c1, slots := z1 } ∧ s.heap.get? q = some { cls := .type "tuple", dict := e2, data := .seq ws c2, slots := z2 } ∧
      EqAt A.in1 s us[0] ws[0] false ∧ RcLt A.in1 s us[0] ws[0] k ∧ R (.ok (.ret (.bool k))) s) :=
  .of_wp fun prog w A R s h => by
    obtain ⟨hp, g, d, tk, os⟩ := s
    obtain ⟨ho, hq, hne, hlt, h⟩ := h
    have sub := AutoSeq1.sub_tuple_tuple
    have first : ∃ r, us.toList.zip ws.toList = (us[0], ws[0]) :: r := by
      obtain ⟨ul⟩ := us
      obtain ⟨wl⟩ := ws
      cases ul with
      | nil => simp at hu
      | cons x xs =>
        cases wl with
        | nil => simp at hw
        | cons y ys => exact ⟨xs.zip ys, by simp⟩
    obtain ⟨rs, first⟩ := first
    wp_walk using wpAny_loadPart' ho, wpAny_loadPart' hq, wpAny_forIn_list _ (fun rest b s' => b.1 = none ∧ s' = ⟨hp, g, d, tk, os⟩ ∧ rest = us.toList.zip ws.toList) _
    case turn =>
      rintro ⟨y, x⟩ rest b s' ⟨hb, rfl, hz⟩
      rw [first] at hz
      injection hz with hyx hrest
      injection hyx with hy hx
      subst hy hx
      refine wpAny_bind (hne prog w _ _ ?_)
      rw [if_pos (by rfl)]
      refine wpAny_bind (wpAny_rule (wpAny_bind (hlt prog w _ _ ?_)))
      wp_walk
      exact ⟨_, rfl, h⟩
    case fin =>
      rintro ⟨b1, b2⟩ s' ⟨hb, rfl, hz⟩
      rw [first] at hz
      cases hz
    case h =>
      exact ⟨rfl, rfl, rfl⟩
theorem rcLt_first {A : Around} {s : Shared} {p q : Addr} {us ws : Array Value} {k : Bool} (ho : s.heap.IsTuple p us) (hq : s.heap.IsTuple q ws) (hA : A.units < cLine) (hu : 0 < us.size) (hw : 0 < ws.size)
    (hne : EqAt A.in1 s us[0] ws[0] false) (hlt : RcLt A.in1 s us[0] ws[0] k) : RcLt A s (.ref p) (.ref q) k := fun prog w E Q h => by
  obtain ⟨⟨k1, dd, t1, sl⟩, ho, hc, n, hd⟩ := id ho
  obtain ⟨⟨k2, dd2, t2, sl2⟩, ho2, hc2, n2, hd2⟩ := id hq
  dsimp only at hc hd hc2 hd2
  subst hc; subst hd; subst hc2; subst hd2
  refine richCompare_meets_room (op := .Lt) ⟨_, ho, rfl⟩ ⟨_, ho2, rfl⟩ F.slot_tuple_lt F.entry_tuple_lt (F.args_tuple_lt_2 _ _) (meets_first p q us ws n n2 dd dd2 sl sl2 k hu hw) ⟨ho, ho2, hne, hlt, ?_⟩ hA
  exact ⟨(fun z => by cases z), h⟩
end PdLt

namespace Pd
open PySem PySem.Spec L2
section
variable {G : Type} {X : Cx} {S : Gs G} {K : PySem.W.Frag}
/-! ### < of data that is alike place by place; of tuples whose first items are unlike ints -/
def dLt (x y : D) : Option D := if x.depth ≤ 64 ∧ y.depth ≤ 64 ∧ PySem.W.alike x y = true ∧ isNone x = false then some (.bool (PySem.W.dataLt x y)) else match x, y with
  | .tuple (.int i :: _), .tuple (.int j :: _) => if i = j then none else some (.bool (decide (i < j)))
  | _, _ => none
def rLtD (K : PySem.W.Frag) : R2 := fun x y H Q => ∃ d e, Dp K H x d ∧ Dp K H y e ∧ ((d.depth ≤ 64 ∧ e.depth ≤ 64 ∧ PySem.W.alike d e = true ∧ isNone d = false ∧ Q (.bl (PySem.W.dataLt d e)) H) ∨
  ∃ i j r t, d = .tuple (.int i :: r) ∧ e = .tuple (.int j :: t) ∧ i ≠ j ∧ Q (.bl (decide (i < j))) H)
theorem reads_tup {h : Heap} {u : Value} {ds : List D} {as : List Addr} (r : Reads h u (.tuple ds) as) : ∃ (l : Addr) (vs : Array Value) (bs : List Addr), u = .ref l ∧ h.IsTuple l vs ∧ ReadsAll h vs.toList ds bs := by
  cases r with
  | tuple h1 h2 h3 h4 => exact ⟨_, _, _, rfl, ⟨_, h1, h2, _, h3⟩, h4⟩
theorem op_ltD (hu : X.A.units + 65 < cLine) : OpR X (compareOp .Lt) (rLtD X.K) := by
  intro pins s σ H x y v u Q I rx ry h
  obtain ⟨d, e, hd, he, h⟩ := h
  obtain ⟨as, r1⟩ := Dp.reads I d x v hd rx
  obtain ⟨bs, r2⟩ := Dp.reads I e y u he ry
  rcases h with ⟨d1, d2, al, nn, q⟩ | ⟨i, j, r, t, rfl, rfl, ne, q⟩
  · have nn' : d ≠ .none := fun z => by rw [z] at nn; cases nn
    have hm : min d.depth e.depth ≤ d.depth := Nat.min_le_left _ _
    exact PySem.W.rcLt_alike d e X.A s v u as bs r1 r2 al nn' (by omega) X.prog X.w _ _ ⟨.bl _, H, I, rfl, q⟩
  · obtain ⟨p, us, cs, rfl, t1, ra⟩ := reads_tup r1
    obtain ⟨q', ws, es, rfl, t2, rb⟩ := reads_tup r2
    obtain ⟨ul⟩ := us
    obtain ⟨wl⟩ := ws
    cases ra with
    | cons r1 ra =>
      cases rb with
      | cons r2 rb =>
        cases r1
        cases r2
        refine PdLt.rcLt_first (k := decide (i < j)) t1 t2 (by omega) (by simp) (by simp) ?_ ?_ X.prog X.w _ _ ⟨.bl _, H, I, rfl, q⟩
        · intro prog w E Q hq
          have e : (i == j) = false := beq_eq_false_iff_ne.mpr ne
          exact wpAny_eqBool_int (by rw [e]; exact hq)
        · intro prog w E Q hq
          exact P.lt_int hq
theorem od_lt : OpD K (rLtD K) dLt := by
  intro I H x y d e z s p q hz Q k
  unfold dLt at hz
  split at hz
  · rename_i hc
    cases hz
    exact ⟨d, e, (p.mono s).dp, (q.mono s).dp, .inl ⟨hc.1, hc.2.1, hc.2.2.1, hc.2.2.2, k _ I H (Pst.refl s) (.bl _)⟩⟩
  · split at hz
    · split at hz
      · cases hz
      · rename_i ne
        cases hz
        exact ⟨_, _, (p.mono s).dp, (q.mono s).dp, .inr ⟨_, _, _, _, rfl, rfl, ne, k _ I H (Pst.refl s) (.bl _)⟩⟩
    · cases hz
end
end Pd

/-! Pd: isinstance, texts. -/
namespace Pd
open PySem PySem.Spec L2
section
variable {G : Type} {X : Cx} {S : Gs G} {K : PySem.W.Frag} {a b c e : Expr} {es : List Expr} {pos : Pos} {ma mb me : ME G}
/-! ### isinstance -/
def tyN : D → String
  | .none => "NoneType"
  | .bool _ => "bool"
  | .int _ => "int"
  | .str _ => "str"
  | .list _ => "list"
  | .tuple _ => "tuple"
  | .dict _ => "dict"
theorem tyX_rp {I H : Hp} {v : V} {d : D} (s : Same I H) (h : Rp K I v d) : TyX K H v (.type (tyN d)) := by
  cases h with
  | non => exact .base .non
  | bl b => exact .base (.bl b)
  | int i => exact .base (.int i)
  | str h => exact .base (.str _)
  | lst hp _ _ => exact .base (.lst (s _ _ hp))
  | tup hp _ _ =>
    rcases hp with (hp | ⟨o, hp⟩) | ⟨o, its, n, hk, hc, _⟩
    · exact .base (.tup (s _ _ hp))
    · exact .fTuple (s _ _ hp)
    · exact .kTuple hk hc
/-- isinstance(e, T), T a built-in class: what it is, by the name of its class -/
def isTy (T : String) (d : D) : Option Bool := kitB (tyN d) T
def mIsi (T : String) (ma : ME G) : ME G := fun env g => bD (ma env g) fun d g1 => (isTy T d).map fun b => (.bool b, g1)
theorem de_isi {T : String} {x : Str} {p q : Pos} (hg : Gl X "isinstance") (hm : X.mg "isinstance" = none) (hgT : Gl X x) (hmT : X.mg x = none) (hvT : bootBuiltins x = some (.type T)) (ha : DE X S e ma)
    (hn : x ≠ "__name__" := by decide) (hd : (x == ("__debug__" : Str)) = false := by decide)
    (he : starEach [e, .Name x q] X.env = (false, eval e X.env) :: starEach [.Name x q] X.env := by rfl) (hs : starEach [.Name x q] X.env = (false, eval (.Name x q) X.env) :: starEach [] X.env := by rfl) (hpl : (backTo pos (starEach [.Name x q] X.env)).any (·.1) = false := by rfl) :
    DE X S (.Call (.Name "isinstance" p) [e, .Name x q] [] pos) (mIsi T ma) :=
  PE.imp (pe_callB call_isi hg hm (by decide +kernel) (pa_cons ha (pa_cons (pe_bltn (v := .ty T) hgT hmT hvT rfl hn hd) pa_nil hs) he) (by decide) (by decide) he hpl) fun σ H Q ⟨w, env, g, d, g', R, e, k⟩ => by
    obtain ⟨y, g1, e1, e⟩ := bD_some e
    obtain ⟨b, e2, e⟩ := Option.map_eq_some_iff.mp e
    cases e
    refine ⟨w, env, g, y, g', R, e1, fun v I' H' s' R' p => ?_⟩
    exact ⟨v, .ty T, .type (tyN y), .type T, b, rfl, .ty T, tyX_rp R'.eI p, kit_ty e2, k _ I' H' s' R' (.bl _)⟩
/-- isinstance(e, (S, T)) -/
def isTy2 (T U : String) (d : D) : Option Bool := match isTy T d with
  | some true => some true
  | some false => isTy U d
  | none => none
def mIsi2 (T U : String) (ma : ME G) : ME G := fun env g => bD (ma env g) fun d g1 => (isTy2 T U d).map fun b => (.bool b, g1)
theorem de_isi2 {T U : String} {x y : Str} {p q r tp : Pos} {kk : Nat} (hg : Gl X "isinstance") (hm : X.mg "isinstance" = none) (hgT : Gl X x) (hmT : X.mg x = none) (hvT : bootBuiltins x = some (.type T)) (hgU : Gl X y) (hmU : X.mg y = none) (hvU : bootBuiltins y = some (.type U)) (ha : DE X S e ma)
    (hn : x ≠ "__name__" := by decide) (hd : (x == ("__debug__" : Str)) = false := by decide) (hn2 : y ≠ "__name__" := by decide) (hd2 : (y == ("__debug__" : Str)) = false := by decide)
    (he : starEach [e, .Tuple [.Name x q, .Name y r] kk tp] X.env = (false, eval e X.env) :: starEach [.Tuple [.Name x q, .Name y r] kk tp] X.env := by rfl) (hs : starEach [.Tuple [.Name x q, .Name y r] kk tp] X.env = (false, eval (.Tuple [.Name x q, .Name y r] kk tp) X.env) :: starEach [] X.env := by rfl)
    (hs1 : starEach [.Name x q, .Name y r] X.env = (false, eval (.Name x q) X.env) :: starEach [.Name y r] X.env := by rfl) (hs2 : starEach [.Name y r] X.env = (false, eval (.Name y r) X.env) :: starEach [] X.env := by rfl)
    (hpl : (backTo pos (starEach [.Tuple [.Name x q, .Name y r] kk tp] X.env)).any (·.1) = false := by rfl) :
    DE X S (.Call (.Name "isinstance" p) [e, .Tuple [.Name x q, .Name y r] kk tp] [] pos) (mIsi2 T U ma) :=
  PE.imp (pe_callB call_isiT hg hm (by decide +kernel) (pa_cons ha (pa_cons (pe_tup (pa_cons (pe_bltn (v := .ty T) hgT hmT hvT rfl hn hd) (pa_cons (pe_bltn (v := .ty U) hgU hmU hvU rfl hn2 hd2) pa_nil hs2) hs1)) pa_nil hs) he) (by decide) (by decide) he hpl) fun σ H Q ⟨w, env, g, d, g', R, e, k⟩ => by
    obtain ⟨y, g1, e1, e⟩ := bD_some e
    obtain ⟨b, e2, e⟩ := Option.map_eq_some_iff.mp e
    cases e
    refine ⟨w, env, g, y, g', R, e1, fun v I' H' s' R' p => ⟨by show 2 ≤ sizeLine; decide, fun t ht => ?_⟩⟩
    refine ⟨v, t, [.ty T, .ty U], .type (tyN y), [.type T, .type U], b, rfl, upd_same, .cons (.ty T) (.cons (.ty U) .nil), tyX_rp (R'.eI.trans (same_new ht)) p, ?_, ?_⟩
    · unfold isTy2 at e2
      cases e3 : isTy T y with
      | none => rw [e3] at e2; cases e2
      | some c =>
        rw [e3] at e2
        cases c with
        | true => cases e2; exact kitAny_cons (kit_ty e3) (fun z => by cases z) fun _ => rfl
        | false =>
          refine kitAny_cons (kit_ty e3) (fun _ => ?_) (fun z => by cases z)
          have e2 : isTy U y = some b := e2
          unfold PySem.W.kitAny
          rw [show PySem.W.kitOne X.K (.type (tyN y)) (.type U) = some b from kit_ty e2]
          cases b <;> rfl
    · have ps := Pst.new (p := t) (o := HO.tup [V.ty T, V.ty U]) R'.eI ht
      exact k _ _ _ (Same.trans s' ps.eI) (R'.pst ps) (.bl _)

/-! ### methods of texts -/
def mM1 (f : D → D → Option D) (ma mb : ME G) : ME G := fun env g => bD (ma env g) fun x g1 => match x with
  | .str z => bD (mb env g1) fun y g2 => (f (.str z) y).map (·, g2)
  | _ => none
theorem te_m1 {r : V → List V → Hp → VK → Prop} {f : D → D → Option D} (hf : OpD X.K (fun x y H Q => r x [y] H Q) f) {σ : St} {H : Hp} {Q : VK} (h : tE X.K S (mM1 f ma mb) σ H Q) : tM1 r (tE X.K S ma) (tE X.K S mb) σ H Q := by
  obtain ⟨w, env, g, d, g', R, e, k⟩ := h
  obtain ⟨x, g1, e1, e⟩ := bD_some e
  split at e
  · obtain ⟨y, g2, e2, e⟩ := bD_some e
    obtain ⟨e3, rfl⟩ := map_some e
    refine ⟨w, env, g, _, g1, R, e1, fun v I1 H1 s1 R1 p1 => ?_⟩
    cases p1 with
    | str hx =>
      refine ⟨⟨_, rfl⟩, w.im I1, env, g1, y, g', R1, e2, fun u I2 H2 s2 R2 p2 => ?_⟩
      exact hf R2.eI (.str hx) p2 e3 fun v3 I3 H3 ps p3 => k v3 I3 H3 (s1.trans (Same.trans s2 ps.eI)) (R2.pst ps) p3
  · cases e
theorem mt_indexF : MtR X "str.index" (fun x xs H Q => ∃ (a b : Str) (i : Nat) (rest : List Nat), x = .str a ∧ xs = [.str b] ∧ Builtin.Str.occurrences a b 0 a.length 1 = i :: rest ∧ Q (.int (i : Nat)) H) := by
  intro pins s σ H x xs v us Q I rx rs h
  obtain ⟨a, b, i, rest, rfl, rfl, ho, q⟩ := h
  obtain ⟨t, rfl⟩ := rx
  cases rs with
  | cons r1 rs =>
    cases rs
    obtain ⟨u, rfl⟩ := r1
    exact PySem.SC.index ho ⟨.int (i : Nat), H, I.tok _, ⟨_, rfl⟩, q⟩
def dIndex : D → D → Option D
  | .str x, .str y => match Builtin.Str.occurrences x y 0 x.length 1 with
    | i :: _ => some (.int (i : Nat))
    | [] => none
  | _, _ => none
theorem od_index : OpD K (fun x y H Q => ∃ (a b : Str) (i : Nat) (rest : List Nat), x = .str a ∧ [y] = [.str b] ∧ Builtin.Str.occurrences a b 0 a.length 1 = i :: rest ∧ Q (.int (i : Nat)) H) dIndex := by
  intro I H x y d e z s p q hz Q k
  cases p with
  | str hx =>
    cases q with
    | str hy =>
      have hz : (match Builtin.Str.occurrences _ _ 0 _ 1 with
        | i :: _ => some (PyData.int (i : Nat))
        | [] => none) = some z := hz
      split at hz
      · rename_i i rest ho
        cases hz
        exact ⟨_, _, i, rest, rfl, rfl, ho, k _ I H (Pst.refl s) (.int _)⟩
      · cases hz
    | _ => cases hz
  | _ => cases hz
def strsD : List D → Option (List Str)
  | [] => some []
  | .str i :: ds => (strsD ds).map (i :: ·)
  | _ => none
theorem strsD_map : ∀ ns : List Str, strsD (ns.map .str) = some ns
  | [] => rfl
  | n :: ns => by show (strsD (ns.map .str)).map (n :: ·) = _; rw [strsD_map ns]; rfl
theorem strsD_some : ∀ {ds : List D} {ns : List Str}, strsD ds = some ns → ds = ns.map .str
  | [], _, h => by cases h; rfl
  | d :: ds, ns, h => by
    cases d with
    | str i =>
      obtain ⟨r, h1, rfl⟩ := Option.map_eq_some_iff.mp h
      rw [strsD_some h1]; rfl
    | _ => cases h
theorem RpA.strs {H : Hp} : ∀ {vs : List V} {ns : List Str}, RpA K H vs (ns.map .str) → vs = ns.map V.str ∧ ∀ n ∈ ns, SOk n
  | _, [], h => by cases h; exact ⟨rfl, fun _ h => nomatch h⟩
  | _, n :: ns, h => by
    cases h with
    | cons a b =>
      cases a with
      | str ha =>
        obtain ⟨h1, h2⟩ := RpA.strs b
        rw [List.map_cons, ← h1]
        refine ⟨rfl, fun m hm => ?_⟩
        rcases List.mem_cons.mp hm with e | e
        · rw [e]; exact ha
        · exact h2 m e
def dJoin : D → D → Option D
  | .str x, .list ds => (strsD ds).bind fun ys => if (ys.map (·.length)).sum + ys.length * x.length ≤ 16777216 ∧ x.length = 0 then some (.str ⟨((ys.map fun y => y.cps.toList).flatten).toArray⟩) else none
  | _, _ => none
theorem join_nil : ∀ {x : Str} {ys : List Str}, x.length = 0 → Txt.join x ys = ⟨((ys.map fun y => y.cps.toList).flatten).toArray⟩ := by
  intro x ys hx
  have hx' : TL.tl x = [] := by
    show x.cps.toList = []
    have : x.cps.size = 0 := hx
    apply List.eq_nil_of_length_eq_zero
    rw [Array.length_toList]; exact this
  have key : ∀ zs : List (List Nat), TL.joinL [] zs = zs.flatten := by
    intro zs
    induction zs with
    | nil => rfl
    | cons z zs ih =>
      cases zs with
      | nil => show z = z ++ []; rw [List.append_nil]
      | cons u us => show z ++ ([] ++ TL.joinL [] (u :: us)) = z ++ (u :: us).flatten; rw [ih]; rfl
  have h2 := TL.tl_join x ys
  rw [hx', key] at h2
  have h3 : (Txt.join x ys).cps.toList = (ys.map fun y => y.cps.toList).flatten := by
    rw [show Txt.join x ys = Str.join x ys from PySem.StrLaws.glued_eq_join x ys]
    exact h2
  cases e : Txt.join x ys with
  | mk cs =>
    rw [e] at h3
    congr
    apply Array.ext'
    rw [h3]
theorem sok_join {ys : List Str} (h : ∀ y ∈ ys, SOk y) (hz : (ys.map (·.length)).sum ≤ 16777216) : SOk ⟨((ys.map fun y => y.cps.toList).flatten).toArray⟩ := by
  refine ⟨?_, ?_⟩
  · show ((ys.map fun y => y.cps.toList).flatten).toArray.size ≤ sizeLine
    rw [List.size_toArray, List.length_flatten, List.map_map, line_val]
    have e : (ys.map (List.length ∘ fun y => y.cps.toList)) = ys.map (·.length) := by
      apply List.map_congr_left
      intro y _
      show y.cps.toList.length = y.cps.size
      rw [Array.length_toList]
    rw [e]; exact hz
  · simp only [PyData.canLay0]
    unfold PyData.strOk
    rw [Array.all_eq_true_iff_forall_mem]
    intro c hc
    have hc : c ∈ (ys.map fun y => y.cps.toList).flatten := by simpa using hc
    obtain ⟨l, hl, hcl⟩ := List.mem_flatten.mp hc
    obtain ⟨y, hy, rfl⟩ := List.mem_map.mp hl
    have h2 := (h y hy).2
    simp only [PyData.canLay0] at h2
    unfold PyData.strOk at h2
    rw [Array.all_eq_true_iff_forall_mem] at h2
    exact h2 c (by simpa using hcl)
theorem od_join : OpD K (fun x y H Q => ∃ a p, ∃ ys : List Str, x = .str a ∧ [y] = [.ref p] ∧ (SqL K H p (ys.map V.str) ∨ SqT K H p (ys.map V.str)) ∧ (ys.map (·.length)).sum + ys.length * a.length ≤ 16777216 ∧ Q (.str (Txt.join a ys)) H) dJoin := by
  intro I H x y d e z s p q hz Q k
  cases p with
  | str hx =>
    cases q with
    | lst hp ra hl =>
      have hz : (strsD _).bind _ = some z := hz
      obtain ⟨ys, e1, hz⟩ := Option.bind_eq_some_iff.mp hz
      split at hz
      · rename_i hc
        cases hz
        rw [strsD_some e1] at ra
        obtain ⟨f1, f2⟩ := RpA.strs ra
        rw [f1] at hp
        refine ⟨_, _, ys, rfl, rfl, .inl (SqL.of (s _ _ hp)), hc.1, ?_⟩
        rw [join_nil hc.2]
        exact k _ I H (Pst.refl s) (.str (sok_join f2 (by have := hc.1; omega)))
      · cases hz
    | _ => cases hz
  | _ => cases hz
theorem de_join {ap : Pos} (ho : DE X S a ma) (he : DE X S e me) (hs : starEach [e] X.env = [(false, eval e X.env)] := by rfl) (hbase : attributeBase a "join" X.env (eval a X.env) = eval a X.env := by rfl) (hline : (ap.endLine == pos.line) = true := by rfl) :
    DE X S (.Call (.Attribute a "join" ap) [e] [] pos) (mM1 dJoin ma me) := PE.imp (pe_join ho he hs hbase hline) fun _ _ _ h => te_m1 od_join h
theorem de_index {ap : Pos} (ho : DE X S a ma) (he : DE X S e me) (hs : starEach [e] X.env = [(false, eval e X.env)] := by rfl) (hbase : attributeBase a "index" X.env (eval a X.env) = eval a X.env := by rfl) (hline : (ap.endLine == pos.line) = true := by rfl) :
    DE X S (.Call (.Attribute a "index" ap) [e] [] pos) (mM1 dIndex ma me) := PE.imp (pe_m1 PySem.F.slot_str_index PySem.F.type_str_index mt_indexF ho he hs hbase hline) fun _ _ _ h => te_m1 od_index h
end
end Pd

/-! Pd: defs by name, constants; the law's list of draws. -/
namespace Pd
open PySem PySem.Spec L2
section
variable {G : Type} {X : Cx} {S : Gs G} {P : Program} {wd : World} {K : PySem.W.Frag} {mg : Str → Option Value} {base : Heap} {a b c e : Expr} {es : List Expr} {pos : Pos} {ma mb me : ME G} {ml : ML G}
/-- a def of the text, by its name -/
structure Dfn (K : PySem.W.Frag) (mg : Str → Option Value) (x qual : Str) (st : Stmt) (ps : List Str) : Prop where
  ex : ∃ f fd, Fun K x qual st f fd ∧ mg x = some (.ref f) ∧ Binds K fd ps []
/-- .. with its promise -/
structure Def1 (P : Program) (wd : World) (K : PySem.W.Frag) (mg : Str → Option Value) (base : Heap) (x : Str) (ps : List Str) (k : Nat) (sp : Sp) : Prop where
  ex : ∃ f fd, FnOk P wd K mg base CX0 k f fd ps sp ∧ mg x = some (.ref f) ∧ PySem.W.keepIn K (.ref f) = true ∧ Binds K fd ps []
theorem def_pure {x qual : Str} {st : Stmt} {N ps : List Str} {k : Nat} {m : MS Unit} (h : Dfn K mg x qual st ps) (Sc : FnScope N ps (defScope st)) (hb : ∀ f, Body P wd K mg base N qual st f k G0 m) : Def1 P wd K mg base x ps (k + 1) (spP K (runP N.length ps.length m)) := by
  obtain ⟨f, fd, F, hm, hB⟩ := h.ex
  exact ⟨f, fd, fn_pure F Sc (hb f), hm, F.kp, hB⟩
theorem def_new {x qual : Str} {st : Stmt} {N ps : List Str} {k : Nat} {m : MS Unit} (h : Dfn K mg x qual st ps) (Sc : FnScope N ps (defScope st)) (hb : ∀ f, Body P wd K mg base N qual st f k G0 m) : Def1 P wd K mg base x ps (k + 1) (spN K (runN N.length ps.length m)) := by
  obtain ⟨f, fd, F, hm, hB⟩ := h.ex
  exact ⟨f, fd, fn_new F Sc (hb f), hm, F.kp, hB⟩
theorem def_ghost {x qual : Str} {st : Stmt} {N ps : List Str} {k : Nat} {m : MS G} (h : Dfn K mg x qual st ps) (Sc : FnScope N ps (defScope st)) (hb : ∀ f, Body P wd K mg base N qual st f k S m) : Def1 P wd K mg base x ps (k + 1) (spG K S (runG N.length ps.length m)) := by
  obtain ⟨f, fd, F, hm, hB⟩ := h.ex
  exact ⟨f, fd, fn_ghost F Sc (hb f), hm, F.kp, hB⟩
theorem Def1.imp {x : Str} {ps : List Str} {k : Nat} {sp sp' : Sp} (h : Def1 P wd K mg base x ps k sp) (i : ∀ vs H Q E, sp' vs H Q E → sp vs H Q E) : Def1 P wd K mg base x ps k sp' := by
  obtain ⟨f, fd, F, r⟩ := h.ex
  exact ⟨f, fd, F.imp i, r⟩
theorem Def1.mono {x : Str} {ps : List Str} {j k : Nat} {sp : Sp} (h : Def1 P wd K mg base x ps j sp) (hk : j ≤ k) : Def1 P wd K mg base x ps k sp := by
  obtain ⟨f, fd, F, r⟩ := h.ex
  exact ⟨f, fd, F.mono hk, r⟩
/-- calls -/
theorem call_P {x : Str} {ps : List Str} {k : Nat} {F : List D → Option D} {p : Pos} (h : Def1 X.prog X.w X.K X.mg X.base x ps k (spP X.K F)) (hr : Room k X.A) (hg : Gl X x) (ha : DA X S (e :: es) ml) (hdb : (x == ("__debug__" : Str)) = false := by decide)
    (he : starEach (e :: es) X.env = (false, eval e X.env) :: starEach es X.env := by rfl) (hpl : (backTo pos (starEach es X.env)).any (·.1) = false := by rfl) : DE X S (.Call (.Name x p) (e :: es) [] pos) (mCall F ml) := by
  obtain ⟨f, fd, FF, hm, hk, hB⟩ := h.ex
  exact de_callP (pe_call FF hr hg hm hk hB .nil pass0 ha hdb he hpl)
theorem call_N {x : Str} {ps : List Str} {k : Nat} {F : List D → Option (List D)} {p : Pos} (h : Def1 X.prog X.w X.K X.mg X.base x ps k (spN X.K F)) (hr : Room k X.A) (hg : Gl X x) (ha : DA X S (e :: es) ml) (hdb : (x == ("__debug__" : Str)) = false := by decide)
    (he : starEach (e :: es) X.env = (false, eval e X.env) :: starEach es X.env := by rfl) (hpl : (backTo pos (starEach es X.env)).any (·.1) = false := by rfl) : DF X S (.Call (.Name x p) (e :: es) [] pos) (mCallF F ml) := by
  obtain ⟨f, fd, FF, hm, hk, hB⟩ := h.ex
  exact df_callN (pe_call FF hr hg hm hk hB .nil pass0 ha hdb he hpl)
theorem call_G {x : Str} {ps : List Str} {k : Nat} {F : List SV → G → Option (D × G)} {p : Pos} {mg' : MG G} (h : Def1 X.prog X.w X.K X.mg X.base x ps k (spG X.K S F)) (hr : Room k X.A) (hg : Gl X x) (ha : DG X S (e :: es) mg') (hdb : (x == ("__debug__" : Str)) = false := by decide)
    (he : starEach (e :: es) X.env = (false, eval e X.env) :: starEach es X.env := by rfl) (hpl : (backTo pos (starEach es X.env)).any (·.1) = false := by rfl) : DE X S (.Call (.Name x p) (e :: es) [] pos) (mCallG F mg') := by
  obtain ⟨f, fd, FF, hm, hk, hB⟩ := h.ex
  exact de_callG (pe_call FF hr hg hm hk hB .nil pass0 ha hdb he hpl)
theorem call_P0 {x : Str} {ps : List Str} {k : Nat} {F : List D → Option D} {p : Pos} (h : Def1 X.prog X.w X.K X.mg X.base x ps k (spP X.K F)) (hr : Room k X.A) (hg : Gl X x) (hdb : (x == ("__debug__" : Str)) = false := by decide) : DE X S (.Call (.Name x p) [] [] pos) (mCall F mNil) := by
  obtain ⟨f, fd, FF, hm, hk, hB⟩ := h.ex
  exact de_callP0 (pe_call0 FF hr hg hm hk hB .nil pass0 hdb)
theorem call_N0 {x : Str} {ps : List Str} {k : Nat} {F : List D → Option (List D)} {p : Pos} (h : Def1 X.prog X.w X.K X.mg X.base x ps k (spN X.K F)) (hr : Room k X.A) (hg : Gl X x) (hdb : (x == ("__debug__" : Str)) = false := by decide) : DF X S (.Call (.Name x p) [] [] pos) (mCallF F mNil) := by
  obtain ⟨f, fd, FF, hm, hk, hB⟩ := h.ex
  exact df_callN0 (pe_call0 FF hr hg hm hk hB .nil pass0 hdb)
/-- a module's constant -/
structure Cst (K : PySem.W.Frag) (mg : Str → Option Value) (x : Str) (d : D) : Prop where
  ex : ∃ u v, mg x = some u ∧ RelV v u ∧ ∀ H, Rp K H v d
theorem de_cst {x : Str} {d : D} (h : Cst X.K X.mg x d) (hg : Gl X x := by rfl) (hdb : (x == ("__debug__" : Str)) = false := by decide) : DE X S (.Name x pos) (mC d) := by
  obtain ⟨u, v, hm, r, q⟩ := h.ex
  exact de_glob hg hm r q hdb
theorem Cst.int {x : Str} {i : Int} {t : Tok} (h : mg x = some (.int i t)) : Cst K mg x (.int i) := ⟨_, .int i, h, ⟨t, rfl⟩, fun _ => .int i⟩
theorem Cst.str {x y : Str} {t : Tok} (h : mg x = some (.str y t)) (hy : SOk y) : Cst K mg x (.str y) := ⟨_, .str y, h, ⟨t, rfl⟩, fun _ => .str hy⟩

theorem hu64 {A : Around} {k : Nat} (hr : Room k A) : A.units + 64 < cLine := by have := hr.un; omega
theorem hu65 {A : Around} {k : Nat} (hr : Room k A) : A.units + 65 < cLine := by have := hr.un; omega

/-! ### the law's draws: a list of a count and a list of cells -/
structure Dr where
  s : Addr
  c : Addr
  n : Int
  cells : List Int
def drA : Gs Dr where
  fp := fun g a => a = g.s ∨ a = g.c
  ok := fun g H => g.s ≠ g.c ∧ H g.s = some (.lst [.int g.n, .ref g.c]) ∧ H g.c = some (.lst (g.cells.map V.int)) ∧ 0 < g.cells.length ∧ g.cells.length ≤ 63
  root := fun g => .ref g.s
  loc := fun {g H H'} h ⟨h1, h2, h3, h4⟩ => ⟨h1, (h _ (.inl rfl)).trans h2, (h _ (.inr rfl)).trans h3, h4⟩
  dom := fun {g H a} ⟨h1, h2, h3, h4⟩ ha => by
    rcases ha with rfl | rfl
    · rw [h2]; simp
    · rw [h3]; simp
/-- a draw below most: what it tells, what is left -/
def Dr.take (g : Dr) (most : Int) : Int × Dr :=
  let cell := g.cells.getD (g.n.fmod g.cells.length).toNat 0
  if cell < 1000000000000000000 then
    let n := g.n + 1
    let x := (cell * 48271 + n * 69621).fmod 2147483647
    let y := (x * 16807 + n * 7919).fmod 1000000007
    ((y.fdiv 7).fmod most, { g with n := n })
  else (cell.fmod most, { g with cells := g.cells.set (g.n.fmod g.cells.length).toNat (cell.fdiv most) })
theorem Dr.take_lo (g : Dr) {most : Int} (h : 0 < most) : 0 ≤ (g.take most).1 ∧ (g.take most).1 < most := by
  unfold Dr.take
  simp only
  split
  · exact ⟨Int.fmod_nonneg_of_pos _ h, Int.fmod_lt_of_pos _ h⟩
  · exact ⟨Int.fmod_nonneg_of_pos _ h, Int.fmod_lt_of_pos _ h⟩
/-- a draw, of data -/
def drawA (as : List SV) (g : Dr) : Option (D × Dr) := match as with
  | [.st, .sh (.int most)] => if 0 < most ∧ most < 1073741824 then some (.int (g.take most).1, (g.take most).2) else none
  | _ => none
end
end Pd

/-! Pd: the law's draws, its end. -/
namespace Pd
open PySem PySem.Spec L2
section
variable {G : Type} {X : Cx} {S : Gs G} {P : Program} {wd : World} {K : PySem.W.Frag} {mg : Str → Option Value} {base : Heap}
/-- what makes the list of draws tells -/
def spState (K : PySem.W.Frag) : Sp := fun vs H Q _ => ∃ (a : Addr) (ns : List Int), vs = [.ref a] ∧ SqL K H a (ns.map V.int) ∧ ns.length ≤ 63 ∧
  ∀ (g : Dr) (H' : Hp), H g.s = none → H g.c = none → drA.ok g H' → Same H H' → Q (.ref g.s) H'
theorem drawA_some {as : List SV} {g g' : Dr} {d : D} (h : drawA as g = some (d, g')) : ∃ most, as = [.st, .sh (.int most)] ∧ 0 < most ∧ most < 1073741824 ∧ d = .int (g.take most).1 ∧ g' = (g.take most).2 := by
  unfold drawA at h
  split at h
  · split at h
    · rename_i hm
      cases h
      exact ⟨_, rfl, hm.1, hm.2, rfl, rfl⟩
    · cases h
  · cases h
/-- the state behind a draw, for the caller -/
theorem dr_gst {I H H' : Hp} {g g' : Dr} (s : Same I H) (ok : drA.ok g H) (hs : g'.s = g.s) (hc : g'.c = g.c) (ok' : drA.ok g' H') (fI : ∀ a, drA.fp g a → I a = none) (h : ∀ a, a ≠ g.s → a ≠ g.c → H' a = H a) : Gst drA I H g I H' g' where
  eI := Same.refl _
  eH := fun a o e nf => by
    rw [h a (fun z => nf (.inl z)) (fun z => nf (.inr z))]; exact e
  sub := fun a o e => by
    have nf : ¬ drA.fp g a := fun z => by rw [fI a z] at e; cases e
    rw [h a (fun z => nf (.inl z)) (fun z => nf (.inr z))]; exact s a o e
  ag := fun _ _ => rfl
  fp' := fun a => by show (a = g'.s ∨ a = g'.c) ↔ (a = g.s ∨ a = g.c); rw [hs, hc]
  rt := by show V.ref g'.s = V.ref g.s; rw [hs]
  ok := ok'
theorem fmod_ix {n : Int} {l : Nat} (h : 0 < l) : ∃ j : Nat, n.fmod (l : Int) = (j : Int) ∧ j < l := by
  have h1 := Int.fmod_nonneg_of_pos n (show (0 : Int) < (l : Int) by omega)
  have h2 := Int.fmod_lt_of_pos n (show (0 : Int) < (l : Int) by omega)
  exact ⟨(n.fmod l).toNat, by omega, by omega⟩
theorem iteT' {b : Bool} {A B : Prop} (h : b = true) (k : A) : if b = true then A else B := by rw [if_pos h]; exact k
theorem iteF' {b : Bool} {A B : Prop} (h : b = false) (k : B) : if b = true then A else B := by rw [h]; exact k
theorem cut_ints (ns : List Int) (lo hi : Option Int) : ∃ ms : List Int, cutV (ns.map V.int) lo hi = ms.map V.int ∧ ms.length ≤ ns.length := by
  refine ⟨(ns.drop (HT.sIx (ns.map V.int).length 0 lo)).take (HT.sIx (ns.map V.int).length (ns.map V.int).length hi - HT.sIx (ns.map V.int).length 0 lo), ?_, ?_⟩
  · unfold cutV
    rw [List.map_take, List.map_drop]
  · rw [List.length_take, List.length_drop]; omega
/-- the law's promise -/
def spLaw (K : PySem.W.Frag) : Sp := fun vs H Q _ => ∃ (a : Addr) (ns : List Int), vs = [.ref a] ∧ SqL K H a (ns.map V.int) ∧ ns.length ≤ 63 ∧ ∀ H', Q (.bl true) H'
/-- the frame behind the list's making: i is its slot, N slots -/
def lawE (N i : Nat) : Env := (List.replicate N SV.un).set i .st
theorem law_start {N i : Nat} {m : MS Dr} {σ : St} {H : Hp} {g : Dr} {D : Ends} (hl : σ.length = N) (hi : σ[i]? = some (some (.ref g.s))) (ok : drA.ok g H) (hm : ∃ e g', m (lawE N i) g = some (.re (.bool true), e, g')) (k : ∀ H', D.rt (.bl true) H') :
    tS K drA m D σ H := by
  obtain ⟨e, g', hm⟩ := hm
  refine ⟨⟨fun _ => none, fun _ => none, fun _ => none, drA.fp g, .ref g.s⟩, lawE N i, g, .re (.bool true), e, g', ?_, hm, fun v σ' I' H' s' R' p => by cases p; exact k H'⟩
  have at_ : ∀ k, (lawE N i).at k = .un ∨ (k = i ∧ (lawE N i).at k = .st) := fun k => by
    unfold lawE
    rw [at_set]
    by_cases z : k = i ∧ i < (List.replicate N SV.un).length
    · rw [if_pos z]; exact .inr ⟨z.1, rfl⟩
    · rw [if_neg z]
      refine .inl ?_
      show (List.replicate N SV.un).getD k .un = .un
      rw [List.getD_eq_getElem?_getD, List.getElem?_replicate]
      split <;> rfl
  exact {
    e0 := fun _ _ z => nomatch z
    eI := fun _ _ z => nomatch z
    ag := fun _ _ z => nomatch z
    ge := Same.refl _
    gfp := fun _ => Iff.rfl
    grt := rfl
    gok := ok
    fI := fun _ _ => rfl
    f0 := fun _ _ => rfl
    len := by unfold lawE; rw [List.length_set, List.length_replicate]; exact hl
    slot := fun k => by
      rcases at_ k with e | ⟨rfl, e⟩
      · rw [e]; trivial
      · rw [e]; exact hi
    dis := fun k j p ds es _ e1 => by
      rcases at_ k with e | ⟨_, e⟩ <;> rw [e] at e1 <;> cases e1 }
end
end Pd

/-! Pd: plain tools, no program in sight. -/
namespace Pd
open PySem
section
variable {G : Type} {env env1 e1 e2 : Env} {g g1 g2 g3 : G} {m1 m2 : MS G} {ma mb : ME G} {mt mu : MT G} {ml : ML G}
/-- it ends with True -/
def Tr (m : MS G) (env : Env) (g : G) : Prop := ∃ e g1, m env g = some (.re (.bool true), e, g1)
theorem tr_seq (h1 : m1 env g = some (.nx, e1, g1)) (h2 : Tr m2 e1 g1) : Tr (mSeq m1 m2) env g := by
  obtain ⟨e, g3, h⟩ := h2
  exact ⟨e, g3, by unfold mSeq; rw [h1]; exact h⟩
theorem tr_ret (h : ma env g = some (.bool true, g1)) : Tr (mRet ma) env g := ⟨env, g1, by unfold mRet; rw [h]⟩
theorem seq_nx {r} (h1 : m1 env g = some (.nx, e1, g1)) (h2 : m2 e1 g1 = r) : mSeq m1 m2 env g = r := by unfold mSeq; rw [h1]; exact h2
theorem seq_re {d : D} (h1 : m1 env g = some (.re d, e1, g1)) : mSeq m1 m2 env g = some (.re d, e1, g1) := by unfold mSeq; rw [h1]
theorem seq_rl {ds : List D} (h1 : m1 env g = some (.rl ds, e1, g1)) : mSeq m1 m2 env g = some (.rl ds, e1, g1) := by unfold mSeq; rw [h1]
theorem seq_co (h1 : m1 env g = some (.co, e1, g1)) : mSeq m1 m2 env g = some (.co, e1, g1) := by unfold mSeq; rw [h1]
theorem seq_br (h1 : m1 env g = some (.br, e1, g1)) : mSeq m1 m2 env g = some (.br, e1, g1) := by unfold mSeq; rw [h1]
theorem if_t {r} (h : mt env g = some (true, g1)) (k : m1 env g1 = r) : mIfS mt m1 m2 env g = r := by unfold mIfS; rw [h]; exact k
theorem if_f {r} (h : mt env g = some (false, g1)) (k : m2 env g1 = r) : mIfS mt m1 m2 env g = r := by unfold mIfS; rw [h]; exact k
/-- an if whose test fails, nothing else -/
theorem if_no (h : mt env g = some (false, g1)) : mIfS mt m1 mSkip env g = some (.nx, env, g1) := if_f h rfl
theorem set_e {i : Nat} {d : D} (h : ma env g = some (d, g1)) : mSet i ma env g = some (.nx, env.set i (.sh d), g1) := by unfold mSet; rw [h]
theorem setF_e {i : Nat} {ds : List D} (h : ml env g = some (ds, g1)) : mSetF i ml env g = some (.nx, env.set i (.ow ds), g1) := by unfold mSetF; rw [h]
theorem then_e {j : Nat} (h : m1 env g = some (.nx, e1, g1)) : mThen m1 j env g = some (.nx, e1.frz j, g1) := by unfold mThen; rw [h]
theorem ret_e {d : D} (h : ma env g = some (d, g1)) : mRet ma env g = some (.re d, env, g1) := by unfold mRet; rw [h]
theorem retF_e {ds : List D} (h : ml env g = some (ds, g1)) : mRetF ml env g = some (.rl ds, env, g1) := by unfold mRetF; rw [h]
theorem drop_e {d : D} (h : ma env g = some (d, g1)) : mDrop ma env g = some (.nx, env, g1) := by unfold mDrop; rw [h]
/-! expressions -/
theorem op_e {f : D → D → Option D} {x y z : D} (ha : ma env g = some (x, g1)) (hb : mb env g1 = some (y, g2)) (h : f x y = some z) : mOp f ma mb env g = some (z, g2) := by unfold mOp; rw [ha]; dsimp only [bD]; rw [hb]; dsimp only [bD]; rw [h]; rfl
theorem un_e {f : D → Option D} {x z : D} (ha : ma env g = some (x, g1)) (h : f x = some z) : mUn f ma env g = some (z, g1) := by unfold mUn; rw [ha]; dsimp only [bD]; rw [h]; rfl
theorem m1_e {f : D → D → Option D} {x y z : D} (ha : ma env g = some (x, g1)) (hb : mb env g1 = some (y, g2)) (h : f x y = some z) (hx : ∃ s, x = .str s := by exact ⟨_, rfl⟩) : mM1 f ma mb env g = some (z, g2) := by
  obtain ⟨s, rfl⟩ := hx
  unfold mM1; rw [ha]; dsimp only [bD]; rw [hb]; dsimp only [bD]; rw [h]; rfl
theorem call_e {f : List D → Option D} {xs : List D} {z : D} (ha : ml env g = some (xs, g1)) (h : f xs = some z) : mCall f ml env g = some (z, g1) := by unfold mCall; rw [ha]; dsimp only [bD]; rw [h]; rfl
theorem callF_e {f : List D → Option (List D)} {xs : List D} {z : List D} (ha : ml env g = some (xs, g1)) (h : f xs = some z) : mCallF f ml env g = some (z, g1) := by unfold mCallF; rw [ha]; dsimp only [bD]; rw [h]; rfl
theorem callG_e {F : List SV → G → Option (D × G)} {m : MG G} {as : List SV} {r} (ha : m env g = some (as, g1)) (h : F as g1 = r) : mCallG F m env g = r := by unfold mCallG; rw [ha]; exact h
theorem cons_e {x : D} {xs : List D} (ha : ma env g = some (x, g1)) (hb : ml env g1 = some (xs, g2)) : mCons ma ml env g = some (x :: xs, g2) := by unfold mCons; rw [ha]; dsimp only [bD]; rw [hb]
theorem nil_e : mNil env g = some ([], g) := rfl
theorem c_e {d : D} : mC d env g = some (d, g) := rfl
theorem L_e {xs : List D} (h : ml env g = some (xs, g1)) : mL ml env g = some (.list xs, g1) := by unfold mL; rw [h]
theorem tup_e {xs : List D} (h : ml env g = some (xs, g1)) (hl : xs.length ≤ sizeLine := by exact Nat.le_of_ble_eq_true rfl) : mTup ml env g = some (.tuple xs, g1) := by unfold mTup; rw [h]; exact if_pos hl
theorem lst_e {xs : List D} (h : ml env g = some (xs, g1)) (hl : xs.length ≤ sizeLine := by exact Nat.le_of_ble_eq_true rfl) : mLst ml env g = some (xs, g1) := by unfold mLst; rw [h]; exact if_pos hl
theorem opT_e {f : D → D → Option D} {x y : D} {b : Bool} (ha : ma env g = some (x, g1)) (hb : mb env g1 = some (y, g2)) (h : f x y = some (.bool b)) : mOpT f ma mb env g = some (b, g2) := by unfold mOpT; rw [ha]; dsimp only [bD]; rw [hb]; dsimp only [bD]; rw [h]; rfl
theorem tru_e {x : D} {b : Bool} (ha : ma env g = some (x, g1)) (h : dTru x = some b) : mTru ma env g = some (b, g1) := by unfold mTru; rw [ha]; dsimp only [bD]; rw [h]; rfl
theorem not_e {b : Bool} (h : mt env g = some (b, g1)) : mNot mt env g = some (!b, g1) := by unfold mNot; rw [h]
theorem and_t {r} (h : mt env g = some (true, g1)) (k : mu env g1 = r) : mAnd mt mu env g = r := by unfold mAnd; rw [h]; exact k
theorem and_f (h : mt env g = some (false, g1)) : mAnd mt mu env g = some (false, g1) := by unfold mAnd; rw [h]; rfl
theorem or_t (h : mt env g = some (true, g1)) : mOr mt mu env g = some (true, g1) := by unfold mOr; rw [h]; rfl
theorem or_f {r} (h : mt env g = some (false, g1)) (k : mu env g1 = r) : mOr mt mu env g = r := by unfold mOr; rw [h]; exact k
theorem mif_t {α : Type} {a b : Env → G → Option (α × G)} {r} (h : mt env g = some (true, g1)) (k : a env g1 = r) : mIf mt a b env g = r := by unfold mIf; rw [h]; exact k
theorem mif_f {α : Type} {a b : Env → G → Option (α × G)} {r} (h : mt env g = some (false, g1)) (k : b env g1 = r) : mIf mt a b env g = r := by unfold mIf; rw [h]; exact k
theorem isi_e {T : String} {x : D} {b : Bool} (ha : ma env g = some (x, g1)) (h : isTy T x = some b) : mIsi T ma env g = some (.bool b, g1) := by unfold mIsi; rw [ha]; dsimp only [bD]; rw [h]; rfl
theorem cat_e {xs ys : List D} (ha : ma env g = some (.list xs, g1)) (hb : mb env g1 = some (.list ys, g2)) (hl : xs.length + ys.length ≤ sizeLine) : mCat ma mb env g = some (xs ++ ys, g2) := by unfold mCat; rw [ha]; dsimp only [bD]; rw [hb]; exact if_pos hl
theorem part_e {i : Int} (h : ma env g = some (.int i, g1)) : mPart ma env g = some (some i, g1) := by unfold mPart; rw [h]
theorem slL_e {lo hi : MO G} {xs : List D} {l h : Option Int} (ha : ma env g = some (.list xs, g1)) (hl : lo env g1 = some (l, g2)) (hh : hi env g2 = some (h, g3)) : mSlL ma lo hi env g = some (cut xs l h, g3) := by unfold mSlL; rw [ha]; dsimp only [bD]; rw [hl]; dsimp only [bD]; rw [hh]
/-! loops -/
theorem for_e {bt : MTg G} {mb : MS G} {ds : List D} {r} (h : ml env g = some (ds, g1)) (k : loopL bt mb ds env g1 = r) : mFor ml bt mb env g = r := by unfold mFor; rw [h]; exact k
theorem loop_inv {bt : MTg G} {mb : MS G} (Inv : Env → G → Prop) : ∀ {ds : List D} {env : Env} {g : G}, Inv env g → (∀ d ∈ ds, ∀ env g, Inv env g → ∃ e1, bt d env g = some (e1, g) ∧ ∃ e2 g2, (mb e1 g = some (.nx, e2, g2) ∨ mb e1 g = some (.co, e2, g2)) ∧ Inv e2 g2) →
    ∃ e2 g2, loopL bt mb ds env g = some (.nx, e2, g2) ∧ Inv e2 g2
  | [], env, g, h, _ => ⟨env, g, rfl, h⟩
  | d :: ds, env, g, h, k => by
    obtain ⟨e1, q1, e2, g2, q2, q3⟩ := k d (by simp) env g h
    obtain ⟨e3, g3, q4, q5⟩ := loop_inv Inv q3 fun d' hd => k d' (List.mem_cons_of_mem _ hd)
    refine ⟨e3, g3, ?_, q5⟩
    unfold loopL
    rw [q1]
    rcases q2 with q2 | q2 <;> (dsimp only; rw [q2]; exact q4)
/-- .. by the turn -/
theorem loop_at {bt : MTg G} {mb : MS G} (Inv : Nat → Env → G → Prop) : ∀ {ds : List D} {k : Nat} {env : Env} {g : G}, Inv k env g → (∀ i d, ds[i]? = some d → ∀ env g, Inv (k + i) env g → ∃ e1, bt d env g = some (e1, g) ∧ ∃ e2 g2, (mb e1 g = some (.nx, e2, g2) ∨ mb e1 g = some (.co, e2, g2)) ∧ Inv (k + i + 1) e2 g2) →
    ∃ e2 g2, loopL bt mb ds env g = some (.nx, e2, g2) ∧ Inv (k + ds.length) e2 g2
  | [], k, env, g, h, _ => ⟨env, g, rfl, h⟩
  | d :: ds, k, env, g, h, hk => by
    obtain ⟨e1, q1, e2, g2, q2, q3⟩ := hk 0 d rfl env g h
    obtain ⟨e3, g3, q4, q5⟩ := loop_at (k := k + 1) Inv q3 fun i d' hd env g hi => by
      have e : k + 1 + i = k + (i + 1) := by omega
      rw [e] at hi ⊢
      exact hk (i + 1) d' hd env g hi
    refine ⟨e3, g3, ?_, by rw [List.length_cons, show k + (ds.length + 1) = k + 1 + ds.length by omega]; exact q5⟩
    unfold loopL
    rw [q1]
    rcases q2 with q2 | q2 <;> (dsimp only; rw [q2]; exact q4)
/-- .. whose body tells nothing and returns nothing: from state to state -/
theorem comp_e {vs : List Nat} {bt : MTg G} {me : ME G} {ds : List D} {r} (h : ml env g = some (ds, g1)) (hv : (vs.all fun k => (env.at k).notOw) = true) (k : compL bt mt me (env.wipe vs) ds g1 = r) : mComp ml vs bt mt me env g = r := by unfold mComp; rw [h]; exact (if_pos hv).trans k
theorem compL_map {bt : MTg G} {me : ME G} (f : D → D) : ∀ {ds : List D}, (∀ d ∈ ds, ∃ e1, bt d env g = some (e1, g) ∧ me e1 g = some (f d, g)) → compL bt mYes me env ds g = some (ds.map f, g)
  | [], _ => rfl
  | d :: ds, h => by
    obtain ⟨e1, q1, q2⟩ := h d (by simp)
    unfold compL
    rw [q1]
    dsimp only [mYes]
    rw [q2]
    dsimp only
    rw [compL_map f fun d' hd => h d' (List.mem_cons_of_mem _ hd)]
    rfl
theorem compL_mm {α : Type} {bt : MTg G} {me : ME G} (f h : α → D) {l : List α} (k : ∀ a ∈ l, ∃ e1, bt (f a) env g = some (e1, g) ∧ me e1 g = some (h a, g)) : compL bt mYes me env (l.map f) g = some (l.map h, g) := by
  induction l with
  | nil => rfl
  | cons a l ih =>
    obtain ⟨e1, q1, q2⟩ := k a (by simp)
    rw [List.map_cons, List.map_cons]
    unfold compL
    rw [q1]
    dsimp only [mYes]
    rw [q2]
    dsimp only
    rw [ih fun d' hd => k d' (List.mem_cons_of_mem _ hd)]
theorem compL_ex {bt : MTg G} {me : ME G} (P : D → Prop) : ∀ {ds : List D} {g : G}, (∀ d ∈ ds, ∀ g, ∃ e1, bt d env g = some (e1, g) ∧ ∃ x g2, me e1 g = some (x, g2) ∧ P x) → ∃ xs g2, compL bt mYes me env ds g = some (xs, g2) ∧ xs.length = ds.length ∧ ∀ x ∈ xs, P x
  | [], g, _ => ⟨[], g, rfl, rfl, fun _ h => nomatch h⟩
  | d :: ds, g, h => by
    obtain ⟨e1, q1, x, g2, q2, q3⟩ := h d (by simp) g
    obtain ⟨xs, g4, q4, q5, q6⟩ := compL_ex P (g := g2) fun d' hd => h d' (List.mem_cons_of_mem _ hd)
    refine ⟨x :: xs, g4, ?_, by rw [List.length_cons, List.length_cons, q5], fun y hy => ?_⟩
    · unfold compL
      rw [q1]
      dsimp only [mYes]
      rw [q2]
      dsimp only
      rw [q4]
    · rcases List.mem_cons.mp hy with e | e
      · rw [e]; exact q3
      · exact q6 y e
theorem while_e {mb : MS G} (n : Nat) {r} (h : whileN mt mb n env g = some r) : mWhile mt mb env g = some r := mWhile_eq h
theorem wn_f {mb : MS G} {n : Nat} (h : mt env g = some (false, g1)) : whileN mt mb (n + 1) env g = some (.nx, env, g1) := by unfold whileN; rw [h]
theorem wn_t {mb : MS G} {n : Nat} {r} (h : mt env g = some (true, g1)) (hb : mb env g1 = some (.nx, e1, g2)) (k : whileN mt mb n e1 g2 = r) : whileN mt mb (n + 1) env g = r := by unfold whileN; rw [h]; dsimp only; rw [hb]; exact k
/-! defs -/
theorem runP_re {N n : Nat} {m : MS Unit} {ds : List D} {e : Env} {u : Unit} {d : D} (h : m (startE N (ds.map .sh)) () = some (.re d, e, u)) (hn : ds.length = n ∧ n ≤ N := by exact ⟨rfl, by decide⟩) : runP N n m ds = some d := by
  unfold runP runS
  rw [if_pos (by rw [List.length_map]; exact hn), h]
  rfl
theorem runP_rl {N n : Nat} {m : MS Unit} {ds xs : List D} {e : Env} {u : Unit} (h : m (startE N (ds.map .sh)) () = some (.rl xs, e, u)) (hn : ds.length = n ∧ n ≤ N := by exact ⟨rfl, by decide⟩) : runP N n m ds = some (.list xs) := by
  unfold runP runS
  rw [if_pos (by rw [List.length_map]; exact hn), h]
  rfl
theorem runN_rl {N n : Nat} {m : MS Unit} {ds xs : List D} {e : Env} {u : Unit} (h : m (startE N (ds.map .sh)) () = some (.rl xs, e, u)) (hn : ds.length = n ∧ n ≤ N := by exact ⟨rfl, by decide⟩) : runN N n m ds = some xs := by
  unfold runN runS
  rw [if_pos (by rw [List.length_map]; exact hn), h]
  rfl
theorem runG_re {N n : Nat} {m : MS G} {as : List SV} {e : Env} {d : D} (h : m (startE N as) g = some (.re d, e, g1)) (hn : as.length = n ∧ n ≤ N := by exact ⟨rfl, by decide⟩) : runG N n m as g = some (d, g1) := by
  unfold runG runS
  rw [if_pos hn, h]
  rfl
theorem runG_rl {N n : Nat} {m : MS G} {as : List SV} {e : Env} {xs : List D} (h : m (startE N as) g = some (.rl xs, e, g1)) (hn : as.length = n ∧ n ≤ N := by exact ⟨rfl, by decide⟩) : runG N n m as g = some (.list xs, g1) := by
  unfold runG runS
  rw [if_pos hn, h]
  rfl
/-! draws -/
theorem draw_ev {m : Int} (g : Dr) (h : 0 < m ∧ m < 1073741824) : ∃ j g1, drawA [.st, .sh (.int m)] g = some (.int j, g1) ∧ 0 ≤ j ∧ j < m := ⟨_, _, if_pos h, Dr.take_lo g h.1⟩
/-! data -/
theorem cut_to (xs : List D) (n : Nat) : cut xs none (some (n : Int)) = xs.take n := by
  unfold cut
  rw [HT.sIx_none, HT.sIx_nat, List.drop_zero, Nat.sub_zero]
  by_cases h : n ≤ xs.length
  · rw [Nat.min_eq_left h]
  · rw [Nat.min_eq_right (by omega), List.take_of_length_le (Nat.le_refl _), List.take_of_length_le (by omega)]
theorem cut_from (xs : List D) (n : Nat) : cut xs (some (n : Int)) none = xs.drop n := by
  unfold cut
  rw [HT.sIx_none, HT.sIx_nat]
  by_cases h : n ≤ xs.length
  · rw [Nat.min_eq_left h, List.take_of_length_le (by rw [List.length_drop]; exact Nat.le_refl _)]
  · rw [Nat.min_eq_right (by omega), List.drop_of_length_le (Nat.le_refl _), List.drop_of_length_le (by omega), List.take_nil]
theorem cut_mid (xs : List D) (a b : Nat) (h : b ≤ xs.length) : cut xs (some (a : Int)) (some (b : Int)) = (xs.drop a).take (b - a) := by
  unfold cut
  rw [HT.sIx_nat, HT.sIx_nat, Nat.min_eq_left h]
  by_cases q : a ≤ xs.length
  · rw [Nat.min_eq_left q]
  · rw [Nat.min_eq_right (by omega), List.drop_of_length_le (Nat.le_refl _), List.drop_of_length_le (by omega), List.take_nil, List.take_nil]
theorem cut_last (xs : List D) : cut xs none (some (-1)) = xs.dropLast := by
  unfold cut
  rw [HT.sIx_none, List.drop_zero, Nat.sub_zero, List.dropLast_eq_take]
  congr 1
  show (if (-1 : Int) < 0 then ((-1 : Int) + (xs.length : Int)).toNat else min (-1 : Int).toNat xs.length) = _
  rw [if_pos (by decide)]
  omega
abbrev iL (xs : List Int) : D := .list (xs.map .int)
theorem eqvAll_iL : ∀ xs ys : List Int, PyData.eqvAll (xs.map .int) (ys.map .int) = decide (xs = ys)
  | [], [] => by rw [List.map_nil, PyData.eqvAll]; rfl
  | [], y :: ys => by rw [List.map_nil, List.map_cons, PyData.eqvAll]; rfl
  | x :: xs, [] => by rw [List.map_nil, List.map_cons, PyData.eqvAll]; rfl
  | x :: xs, y :: ys => by
    rw [List.map_cons, List.map_cons, PyData.eqvAll, eqvAll_iL xs ys, PyData.eqv]
    by_cases h : x = y
    · subst h
      simp
    · simp [h]
theorem eqv_iL (xs ys : List Int) : PyData.eqv (iL xs) (iL ys) = decide (xs = ys) := by rw [PyData.eqv]; exact eqvAll_iL xs ys
theorem depth_iL (xs : List Int) : (iL xs).depth ≤ 64 := by
  have h : ∀ xs : List Int, PyData.depthAll (xs.map .int) = 0 := fun xs => by
    induction xs with
    | nil => rfl
    | cons x xs ih => rw [List.map_cons, PyData.depthAll, ih, PyData.depth]; rfl
  show (PyData.list _).depth ≤ 64
  rw [PyData.depth, h]
  decide
theorem eq_iL (xs ys : List Int) : dEq (iL xs) (iL ys) = some (.bool (decide (xs = ys))) := by unfold dEq; rw [if_pos ⟨depth_iL xs, depth_iL ys⟩, eqv_iL]
theorem ne_iL (xs ys : List Int) : dNe (iL xs) (iL ys) = some (.bool (!decide (xs = ys))) := by unfold dNe; rw [if_pos ⟨depth_iL xs, depth_iL ys⟩, eqv_iL]
theorem alike_iL : ∀ xs ys : List Int, PySem.W.alikeAll (xs.map .int) (ys.map .int) = true
  | [], _ => by rw [List.map_nil]; cases h : (List.map PyData.int _) <;> simp [PySem.W.alikeAll]
  | x :: xs, [] => by rw [List.map_nil, List.map_cons]; simp [PySem.W.alikeAll]
  | x :: xs, y :: ys => by rw [List.map_cons, List.map_cons, PySem.W.alikeAll, alike_iL xs ys]; simp [PySem.W.alike]
theorem ltAll_iL : ∀ xs ys : List Int, PyProof.Rows.lexLt PyProof.Rows.itemOrd (PySem.W.keyToksAll (xs.map .int)) (PySem.W.keyToksAll (ys.map .int)) = decide (xs < ys)
  | [], [] => by decide
  | [], y :: ys => by
    rw [List.map_nil, List.map_cons]
    have : ([] : List Int) < y :: ys := List.nil_lt_cons y ys
    rw [decide_eq_true this]
    rw [PySem.W.keyToksAll, PySem.W.keyToksAll]
    rfl
  | x :: xs, [] => by
    rw [List.map_nil, List.map_cons]
    have : ¬ (x :: xs) < ([] : List Int) := List.not_lt_nil _
    rw [decide_eq_false this]
    rw [PySem.W.keyToksAll, PySem.W.keyToksAll]
    rfl
  | x :: xs, y :: ys => by
    rw [List.map_cons, List.map_cons]
    have al : PySem.W.alike (.int x) (.int y) = true := by simp [PySem.W.alike]
    by_cases h : x = y
    · subst h
      rw [PySem.W.dataLt_all_yes al (by rw [PyData.eqv]; simp), ltAll_iL xs ys]
      simp [List.cons_lt_cons_iff]
    · rw [PySem.W.dataLt_all_no al (by rw [PyData.eqv]; simp [h]), PySem.W.dataLt_int]
      simp [List.cons_lt_cons_iff, h]
theorem lt_iL (xs ys : List Int) : dLt (iL xs) (iL ys) = some (.bool (decide (xs < ys))) := by
  unfold dLt
  rw [if_pos ⟨depth_iL xs, depth_iL ys, by rw [PySem.W.alike]; exact alike_iL xs ys, rfl⟩, PySem.W.dataLt_list, ltAll_iL]
theorem ix_nat {ds : List D} {j : Nat} {x : D} (h : ds[j]? = some x) : dIx (.list ds) (.int j) = some x := L2.atI_nat h
theorem len_e {ds : List D} : dLen [.list ds] = some (.int ds.length) := rfl
end
end Pd
namespace Pd
open PySem
theorem index_e {x y : Str} {i : Nat} (h : (Builtin.Str.occurrences x y 0 x.length 1).head? = some i) : dIndex (.str x) (.str y) = some (.int i) := by
  unfold dIndex
  cases e : Builtin.Str.occurrences x y 0 x.length 1 with
  | nil => rw [e] at h; cases h
  | cons j t => rw [e] at h; cases h; simp only [e]
end Pd
namespace Pd
open PySem
theorem lt_t {i j : Int} (h : i < j) : dLtI (.int i) (.int j) = some (.bool true) := by show some (PyData.bool (decide _)) = _; rw [decide_eq_true h]
theorem lt_f {i j : Int} (h : ¬ i < j) : dLtI (.int i) (.int j) = some (.bool false) := by show some (PyData.bool (decide _)) = _; rw [decide_eq_false h]
theorem le_t {i j : Int} (h : i ≤ j) : dLeI (.int i) (.int j) = some (.bool true) := by show some (PyData.bool (decide _)) = _; rw [decide_eq_true h]
theorem le_f {i j : Int} (h : ¬ i ≤ j) : dLeI (.int i) (.int j) = some (.bool false) := by show some (PyData.bool (decide _)) = _; rw [decide_eq_false h]
theorem gt_t {i j : Int} (h : j < i) : dGtI (.int i) (.int j) = some (.bool true) := by show some (PyData.bool (decide _)) = _; rw [decide_eq_true h]
theorem gt_f {i j : Int} (h : ¬ j < i) : dGtI (.int i) (.int j) = some (.bool false) := by show some (PyData.bool (decide _)) = _; rw [decide_eq_false h]
theorem ge_t {i j : Int} (h : j ≤ i) : dGeI (.int i) (.int j) = some (.bool true) := by show some (PyData.bool (decide _)) = _; rw [decide_eq_true h]
theorem ge_f {i j : Int} (h : ¬ j ≤ i) : dGeI (.int i) (.int j) = some (.bool false) := by show some (PyData.bool (decide _)) = _; rw [decide_eq_false h]
theorem eq_int (i j : Int) : dEq (.int i) (.int j) = some (.bool (i == j)) := by
  unfold dEq
  rw [if_pos ⟨by rw [PyData.depth]; decide, by rw [PyData.depth]; decide⟩, PyData.eqv]
theorem eq_it {i j : Int} (h : i = j) : dEq (.int i) (.int j) = some (.bool true) := by rw [eq_int, h]; simp
theorem eq_if {i j : Int} (h : i ≠ j) : dEq (.int i) (.int j) = some (.bool false) := by rw [eq_int, beq_false_of_ne h]
theorem mul_r {i j : Int} (h : -(2 ^ 64) < j ∧ j < 2 ^ 64) : dMul (.int i) (.int j) = some (.int (i * j)) := if_pos (Or.inr h)
theorem mul_l {i j : Int} (h : -(2 ^ 64) < i ∧ i < 2 ^ 64) : dMul (.int i) (.int j) = some (.int (i * j)) := if_pos (Or.inl h)
theorem iL_get {xs : List Int} {j : Nat} {i : Int} (h : xs[j]? = some i) : dIx (iL xs) (.int (j : Int)) = some (.int i) := ix_nat (by rw [List.getElem?_map, h]; rfl)
theorem iL_len {xs : List Int} : dLen [iL xs] = some (.int (xs.length : Int)) := by show some (PyData.int ((xs.map _).length : Int)) = _; rw [List.length_map]
theorem get_lt {xs : List Int} {j : Nat} {i : Int} (h : xs[j]? = some i) : (j : Int) < (xs.length : Int) := by
  have := (List.getElem?_eq_some_iff.mp h).1
  omega
end Pd
namespace Pd
open PySem
theorem chain_f {G : Type} {env : Env} {g g1 g2 : G} {f f' : D → D → Option D} {ma mb mc : ME G} {x y : D} (ha : ma env g = some (x, g1)) (hb : mb env g1 = some (y, g2)) (h : f x y = some (.bool false)) : mChainT f f' ma mb mc env g = some (false, g2) := by
  unfold mChainT; rw [ha]; dsimp only [bD]; rw [hb]; dsimp only [bD]; rw [h]
theorem chain_t {G : Type} {env : Env} {g g1 g2 g3 : G} {f f' : D → D → Option D} {ma mb mc : ME G} {x y z : D} {b : Bool} (ha : ma env g = some (x, g1)) (hb : mb env g1 = some (y, g2)) (h : f x y = some (.bool true)) (hc : mc env g2 = some (z, g3)) (h' : f' y z = some (.bool b)) : mChainT f f' ma mb mc env g = some (b, g3) := by
  unfold mChainT; rw [ha]; dsimp only [bD]; rw [hb]; dsimp only [bD]; rw [h]; dsimp only; rw [hc]; dsimp only [bD]; rw [h']; rfl
end Pd
namespace Pd
open PySem
theorem itL_e {G : Type} {env : Env} {g g1 : G} {ma : ME G} {xs : List D} (h : ma env g = some (.list xs, g1)) : mItL ma env g = some (xs, g1) := by unfold mItL; rw [h]
theorem itT_e {G : Type} {env : Env} {g g1 : G} {ma : ME G} {xs : List D} (h : ma env g = some (.tuple xs, g1)) : mItT ma env g = some (xs, g1) := by unfold mItT; rw [h]
theorem rng1_e {G : Type} {env : Env} {g g1 : G} {ml : ML G} {j : Int} (h : ml env g = some ([.int j], g1)) (hj : -16777216 < j ∧ j < 16777216) : mRng1 ml env g = some (rng 0 j.toNat, g1) := by unfold mRng1; rw [h]; exact if_pos hj
theorem rng2_e {G : Type} {env : Env} {g g1 : G} {ml : ML G} {i j : Int} (h : ml env g = some ([.int i, .int j], g1)) (hi : (-16777216 < i ∧ i < 16777216) ∧ -16777216 < j ∧ j < 16777216 ∧ j - i < 16777216) : mRng2 ml env g = some (rng i (j - i).toNat, g1) := by unfold mRng2; rw [h]; exact if_pos hi
theorem rng_mem {n : Nat} {d : D} (h : d ∈ rng 0 n) : ∃ k : Nat, k < n ∧ d = .int (k : Int) := by
  unfold rng at h
  obtain ⟨k, hk, rfl⟩ := List.mem_map.mp h
  exact ⟨k, List.mem_range.mp hk, by rw [Int.zero_add]⟩
end Pd
namespace Pd
open PySem
theorem lt_first {i j : Int} {xs ys : List D} (h : i ≠ j) : dLt (.tuple (.int i :: xs)) (.tuple (.int j :: ys)) = some (.bool (decide (i < j))) := by
  unfold dLt
  split
  · rw [PySem.W.dataLt_tuple, PySem.W.dataLt_all_no (by rw [PySem.W.alike]) (by rw [PyData.eqv]; exact beq_false_of_ne h), PySem.W.dataLt_int]
  · show (if i = j then none else some (PyData.bool (decide (i < j)))) = _
    rw [if_neg h]
theorem ltAll_one {x y : D} (al : PySem.W.alike x y = true) : PyProof.Rows.lexLt PyProof.Rows.itemOrd (PySem.W.keyToksAll [x]) (PySem.W.keyToksAll [y]) = PySem.W.dataLt x y := by
  cases e : PyData.eqv x y with
  | false => exact PySem.W.dataLt_all_no al e
  | true =>
    rw [PySem.W.dataLt_all_yes al e]
    unfold PySem.W.dataLt
    rw [(PySem.W.toks_eqv x y al).1 e]
    have h : ∀ l : List (Int ⊕ List Nat), PyProof.Rows.lexLt PyProof.Rows.itemOrd l l = false := fun l => by
      have := PySem.W.lex_pre l [] []
      rw [List.append_nil] at this
      rw [this]; rfl
    rw [h, h]
theorem lt_second {i : Int} {x y : D} (al : PySem.W.alike x y = true) (hx : x.depth ≤ 60) (hy : y.depth ≤ 60) : dLt (.tuple [.int i, x]) (.tuple [.int i, y]) = some (.bool (PySem.W.dataLt x y)) := by
  unfold dLt
  have d1 : ∀ {z : D}, z.depth ≤ 60 → (PyData.tuple [.int i, z]).depth ≤ 64 := fun {z} hz => by
    rw [PyData.depth, PyData.depthAll, PyData.depthAll, PyData.depthAll, PyData.depth]; omega
  rw [if_pos ⟨d1 hx, d1 hy, by rw [PySem.W.alike, PySem.W.alikeAll, PySem.W.alikeAll, PySem.W.alikeAll, al, PySem.W.alike]; rfl, rfl⟩]
  · rw [PySem.W.dataLt_tuple, PySem.W.dataLt_all_yes (by rw [PySem.W.alike]) (by rw [PyData.eqv]; simp), ltAll_one al]
theorem eq_flat {x y : D} (hx : x.depth ≤ 64) (hy : y.depth ≤ 64) : dEq x y = some (.bool (PyData.eqv x y)) := if_pos ⟨hx, hy⟩
theorem ne_flat {x y : D} (hx : x.depth ≤ 64) (hy : y.depth ≤ 64) : dNe x y = some (.bool (!PyData.eqv x y)) := if_pos ⟨hx, hy⟩
end Pd
namespace Pd
open PySem
theorem compL_cons {G : Type} {env e1 : Env} {g g2 g3 : G} {bt : MTg G} {me : ME G} {d x : D} {ds xs : List D} (h1 : bt d env g = some (e1, g)) (h2 : me e1 g = some (x, g2)) (h3 : compL bt mYes me env ds g2 = some (xs, g3)) : compL bt mYes me env (d :: ds) g = some (x :: xs, g3) := by
  unfold compL
  rw [h1]
  dsimp only [mYes]
  rw [h2]
  dsimp only
  rw [h3]
theorem compL_nil {G : Type} {env : Env} {g : G} {bt : MTg G} {me : ME G} {mt : MT G} : compL bt mt me env [] g = some ([], g) := rfl
end Pd
namespace Pd
open PySem
theorem div_e {i j : Int} (h : j ≠ 0 ∧ j.natAbs < 1073741824) : dDiv (.int i) (.int j) = some (.int (i.fdiv j)) := if_pos h
theorem mod_e {i j : Int} (h : j ≠ 0) : dMod (.int i) (.int j) = some (.int (i.fmod j)) := if_pos h
theorem var_e {G : Type} {env : Env} {g : G} {i : Nat} {d : D} (h : env.at i = .sh d) : mVar i env g = some (d, g) := by unfold mVar; rw [h]
end Pd
namespace Pd
open PySem
theorem map_of {α : Type} {f : α → D} {P : α → Prop} : ∀ {xs : List D}, (∀ x ∈ xs, ∃ a, x = f a ∧ P a) → ∃ l : List α, xs = l.map f ∧ ∀ a ∈ l, P a
  | [], _ => ⟨[], rfl, fun _ h => nomatch h⟩
  | x :: xs, h => by
    obtain ⟨a, e, p⟩ := h x (by simp)
    obtain ⟨l, e', p'⟩ := map_of (xs := xs) fun y hy => h y (List.mem_cons_of_mem _ hy)
    refine ⟨a :: l, by rw [e, e']; rfl, fun b hb => ?_⟩
    rcases List.mem_cons.mp hb with z | z
    · rw [z]; exact p
    · exact p' b z
theorem depth_iL1 (xs : List Int) : (iL xs).depth ≤ 1 := by
  have h : ∀ xs : List Int, PyData.depthAll (xs.map .int) = 0 := fun xs => by
    induction xs with
    | nil => rfl
    | cons x xs ih => rw [List.map_cons, PyData.depthAll, ih, PyData.depth]; rfl
  show (PyData.list _).depth ≤ 1
  rw [PyData.depth, h]
  decide
theorem depthAll_le {n : Nat} : ∀ {xs : List D}, (∀ x ∈ xs, x.depth ≤ n) → PyData.depthAll xs ≤ n
  | [], _ => Nat.zero_le _
  | x :: xs, h => by
    rw [PyData.depthAll]
    exact Nat.max_le.mpr ⟨h x (by simp), depthAll_le fun y hy => h y (List.mem_cons_of_mem _ hy)⟩
theorem depth_list {n : Nat} {xs : List D} (h : ∀ x ∈ xs, x.depth ≤ n) : (PyData.list xs).depth ≤ n + 1 := by
  rw [PyData.depth]
  have := depthAll_le h
  omega
theorem depth_tup {n : Nat} {xs : List D} (h : ∀ x ∈ xs, x.depth ≤ n) : (PyData.tuple xs).depth ≤ n + 1 := by
  rw [PyData.depth]
  have := depthAll_le h
  omega
mutual
/-- data without dicts -/
def noDict : D → Bool
  | .none => true
  | .bool _ => true
  | .int _ => true
  | .str _ => true
  | .list xs => noDictA xs
  | .tuple xs => noDictA xs
  | .dict _ => false
def noDictA : List D → Bool
  | [] => true
  | x :: xs => noDict x && noDictA xs
end
mutual
theorem alike_self : ∀ {x : D}, noDict x = true → PySem.W.alike x x = true
  | .none, _ => by rw [PySem.W.alike]
  | .bool _, _ => by rw [PySem.W.alike]
  | .int _, _ => by rw [PySem.W.alike]
  | .str _, _ => by rw [PySem.W.alike]
  | .list xs, h => by rw [noDict] at h; rw [PySem.W.alike]; exact alikeAll_self h
  | .tuple xs, h => by rw [noDict] at h; rw [PySem.W.alike]; exact alikeAll_self h
  | .dict _, h => by rw [noDict] at h; cases h
theorem alikeAll_self : ∀ {xs : List D}, noDictA xs = true → PySem.W.alikeAll xs xs = true
  | [], _ => by rw [PySem.W.alikeAll]
  | x :: xs, h => by
    rw [noDictA, Bool.and_eq_true] at h
    rw [PySem.W.alikeAll, alike_self h.1, alikeAll_self h.2]
    rfl
end
theorem eqv_self {x : D} (h : noDict x = true) : PyData.eqv x x = true := PySem.W.eqv_refl_alike x (alike_self h)
theorem noDictA_of : ∀ {xs : List D}, (∀ x ∈ xs, noDict x = true) → noDictA xs = true
  | [], _ => by rw [noDictA]
  | x :: xs, h => by rw [noDictA, h x (by simp), noDictA_of fun y hy => h y (List.mem_cons_of_mem _ hy)]; rfl
theorem noDict_iL (xs : List Int) : noDict (iL xs) = true := by
  rw [noDict]
  refine noDictA_of fun x hx => ?_
  obtain ⟨i, _, rfl⟩ := List.mem_map.mp hx
  rw [noDict]
theorem eq_self {x : D} (h : noDict x = true) (hd : x.depth ≤ 64) : dEq x x = some (.bool true) := by rw [eq_flat hd hd, eqv_self h]
theorem ne_self {x : D} (h : noDict x = true) (hd : x.depth ≤ 64) : dNe x x = some (.bool false) := by rw [ne_flat hd hd, eqv_self h]; rfl
theorem ne_bb (a b : Bool) : dNe (.bool a) (.bool b) = some (.bool (a != b)) := by
  rw [ne_flat (by rw [PyData.depth]; decide) (by rw [PyData.depth]; decide), PyData.eqv]; rfl
theorem ne_int (a b : Int) : dNe (.int a) (.int b) = some (.bool (!(a == b))) := by
  rw [ne_flat (by rw [PyData.depth]; decide) (by rw [PyData.depth]; decide), PyData.eqv]
end Pd
namespace Pd
open PySem
theorem band_t {G : Type} {env : Env} {g g1 : G} {ma mb : ME G} {r} (h : ma env g = some (.bool true, g1)) (k : mb env g1 = r) : mBAnd ma mb env g = r := by unfold mBAnd; rw [h]; exact k
end Pd
namespace Pd
open PySem
section
variable {G : Type} {env e1 e2 : Env} {g g1 g2 : G}
theorem rng_zero (lo : Int) : rng lo 0 = [] := rfl
theorem rng_succ (lo : Int) (n : Nat) : rng lo (n + 1) = .int lo :: rng (lo + 1) n := by
  unfold rng
  rw [List.range_succ_eq_map, List.map_cons, List.map_map]
  congr 1
  · simp
  · apply List.map_congr_left
    intro k _
    simp only [Function.comp]
    congr 1
    omega
theorem rng0 (n : Nat) : rng 0 n = (List.range n).map fun k => .int (k : Int) := by
  unfold rng
  apply List.map_congr_left
  intro k _
  rw [Int.zero_add]
theorem compL_filter {α : Type} {bt : MTg G} {me : ME G} {mt : MT G} (f h : α → D) (p : α → Bool) {l : List α} (k : ∀ a ∈ l, ∃ e1, bt (f a) env g = some (e1, g) ∧ mt e1 g = some (p a, g) ∧ me e1 g = some (h a, g)) :
    compL bt mt me env (l.map f) g = some ((l.filter p).map h, g) := by
  induction l with
  | nil => rfl
  | cons a l ih =>
    obtain ⟨e1, q1, q2, q3⟩ := k a (by simp)
    have ih := ih fun d' hd => k d' (List.mem_cons_of_mem _ hd)
    rw [List.map_cons]
    unfold compL
    rw [q1]
    dsimp only
    rw [q2]
    cases hp : p a with
    | false => rw [List.filter_cons_of_neg (by rw [hp]; decide)]; exact ih
    | true =>
      rw [List.filter_cons_of_pos hp, List.map_cons]
      dsimp only
      rw [q3]
      dsimp only
      rw [ih]
theorem asg_e {b : MTg G} {ma : ME G} {d : D} (h : ma env g = some (d, g1)) (hb : b d env g1 = some (e1, g2)) : mAsg b ma env g = some (.nx, e1, g2) := by unfold mAsg; rw [h]; dsimp only [bD]; rw [hb]; rfl
theorem par_e {i j : Nat} {ml : ML G} {x y : D} (h : ml env g = some ([x, y], g1)) : mPar i j ml env g = some (.nx, (env.set i (.sh x)).set j (.sh y), g1) := by unfold mPar; rw [h]
theorem enum_e {ml : ML G} {ds : List D} (h : ml env g = some ([.list ds], g1)) : mEnum ml env g = some (enm 0 ds, g1) := by unfold mEnum; rw [h]
theorem loop_nil {bt : MTg G} {mb : MS G} : loopL bt mb [] env g = some (.nx, env, g) := rfl
theorem loop_nx {bt : MTg G} {mb : MS G} {d : D} {ds : List D} {r} (h1 : bt d env g = some (e1, g1)) (h2 : mb e1 g1 = some (.nx, e2, g2)) (h3 : loopL bt mb ds e2 g2 = r) : loopL bt mb (d :: ds) env g = r := by
  unfold loopL; rw [h1]; dsimp only; rw [h2]; exact h3
theorem loop_re {bt : MTg G} {mb : MS G} {d x : D} {ds : List D} (h1 : bt d env g = some (e1, g1)) (h2 : mb e1 g1 = some (.re x, e2, g2)) : loopL bt mb (d :: ds) env g = some (.re x, e2, g2) := by
  unfold loopL; rw [h1]; dsimp only; rw [h2]
theorem setIx_e {j : Nat} {mi me : ME G} {d : D} {i : Int} {ds : List D} {k : Nat} (h : me env g = some (d, g1)) (hi : mi env g1 = some (.int i, g2)) (hj : env.at j = .ow ds) (hk : L2.ixN ds.length i = some k) : mSetIx j mi me env g = some (.nx, env.set j (.ow (ds.set k d)), g2) := by
  unfold mSetIx; rw [h]; dsimp only [bD]; rw [hi]; dsimp only [bD]; rw [hj]; dsimp only; rw [hk]; rfl
theorem ixOw_e {j : Nat} {mi : ME G} {d : D} {i : Int} {ds : List D} (hi : mi env g = some (.int i, g1)) (hj : env.at j = .ow ds) (hk : L2.atI ds i = some d) : mIxOw j mi env g = some (d, g1) := by
  unfold mIxOw; rw [hi]; dsimp only [bD]; rw [hj]; dsimp only; rw [hk]; rfl
theorem ixN_nat {n k : Nat} (h : k < n) : L2.ixN n (k : Int) = some k := by
  unfold L2.ixN
  rw [if_pos (by omega), if_pos (by omega)]; simp
theorem app_e {j : Nat} {me : ME G} {d : D} {ds : List D} (h : me env g = some (d, g1)) (hj : env.at j = .ow ds) (hl : ds.length < sizeLine) : mApp j me env g = some (.nx, env.set j (.ow (ds ++ [d])), g1) := by
  unfold mApp; rw [h]; dsimp only [bD]; rw [hj]; exact if_pos hl
theorem retOw_e {j : Nat} {ds : List D} (hj : env.at j = .ow ds) : mRetOw j env g = some (.rl ds, env.set j .un, g) := by unfold mRetOw; rw [hj]
end
end Pd
namespace Pd
open PySem
theorem neq_f {i j : Int} (h : i = j) : dNe (.int i) (.int j) = some (.bool false) := by rw [ne_int, h]; simp
theorem neq_t {i j : Int} (h : i ≠ j) : dNe (.int i) (.int j) = some (.bool true) := by rw [ne_int, beq_false_of_ne h]; rfl
/-- it tells d, and ends -/
def Re {G : Type} (d : D) (m : MS G) (env : Env) (g : G) : Prop := ∃ e g1, m env g = some (.re d, e, g1)
section
variable {G : Type} {env env1 e1 e2 : Env} {g g1 g2 g3 : G} {m1 m2 : MS G} {ma mb : ME G} {mt mu : MT G} {ml : ML G} {d : D}
theorem re_nx (h1 : m1 env g = some (.nx, e1, g1)) (h2 : Re d m2 e1 g1) : Re d (mSeq m1 m2) env g := by
  obtain ⟨e, g3, h⟩ := h2
  exact ⟨e, g3, seq_nx h1 h⟩
theorem re_in (h : Re d m1 env g) : Re d (mSeq m1 m2) env g := by
  obtain ⟨e, g3, h⟩ := h
  exact ⟨e, g3, seq_re h⟩
theorem re_ift (h : mt env g = some (true, g1)) (k : Re d m1 env g1) : Re d (mIfS mt m1 m2) env g := by
  obtain ⟨e, g3, k⟩ := k
  exact ⟨e, g3, if_t h k⟩
theorem re_iff (h : mt env g = some (false, g1)) (k : Re d m2 env g1) : Re d (mIfS mt m1 m2) env g := by
  obtain ⟨e, g3, k⟩ := k
  exact ⟨e, g3, if_f h k⟩
theorem re_ret (h : ma env g = some (d, g1)) : Re d (mRet ma) env g := ⟨_, _, ret_e h⟩
theorem re_e {e g3} (h : m1 env g = some (.re d, e, g3)) : Re d m1 env g := ⟨e, g3, h⟩
end
theorem runP_Re {N n : Nat} {m : MS Unit} {ds : List D} {d : D} (h : Re d m (startE N (ds.map .sh)) ()) (hn : ds.length = n ∧ n ≤ N := by exact ⟨rfl, by decide⟩) : runP N n m ds = some d := by
  obtain ⟨e, u, h⟩ := h
  exact runP_re h hn
end Pd
namespace Pd
open PySem
theorem any_e {α : Type} (l : List α) (f : α → Bool) : dAny [.list (l.map fun z => .bool (f z))] = some (.bool (l.any f)) := by
  have e : l.map (fun z => PyData.bool (f z)) = (l.map f).map .bool := by rw [List.map_map]; rfl
  rw [e]
  show (boolsD _).map _ = _
  rw [boolsD_map]
  show some (PyData.bool ((l.map f).any id)) = _
  rw [List.any_map]; rfl
theorem all_e {α : Type} (l : List α) (f : α → Bool) : dAll [.list (l.map fun z => .bool (f z))] = some (.bool (l.all f)) := by
  have e : l.map (fun z => PyData.bool (f z)) = (l.map f).map .bool := by rw [List.map_map]; rfl
  rw [e]
  show (boolsD _).map _ = _
  rw [boolsD_map]
  show some (PyData.bool ((l.map f).all id)) = _
  rw [List.all_map]; rfl
end Pd
namespace Pd
open PySem
section
variable {G : Type} {env e1 e2 : Env} {g g1 g2 g3 : G}
theorem setIx_iL {j : Nat} {mi me : ME G} {xs : List Int} {v : Int} {k : Nat} (h : me env g = some (.int v, g1)) (hi : mi env g1 = some (.int (k : Int), g2)) (hj : env.at j = .ow (xs.map .int)) (hk : k < xs.length) : mSetIx j mi me env g = some (.nx, env.set j (.ow ((xs.set k v).map .int)), g2) := by
  rw [setIx_e h hi hj (ixN_nat (by rw [List.length_map]; exact hk)), List.map_set]
end
end Pd
namespace Pd
open PySem
/-- it hands out the new list ds, and ends -/
def Rl {G : Type} (ds : List D) (m : MS G) (env : Env) (g : G) : Prop := ∃ e g1, m env g = some (.rl ds, e, g1)
section
variable {G : Type} {env env1 e1 e2 : Env} {g g1 g2 g3 : G} {m1 m2 : MS G} {ma mb : ME G} {mt mu : MT G} {ml : ML G} {ds : List D}
theorem rl_nx (h1 : m1 env g = some (.nx, e1, g1)) (h2 : Rl ds m2 e1 g1) : Rl ds (mSeq m1 m2) env g := by
  obtain ⟨e, g3, h⟩ := h2
  exact ⟨e, g3, seq_nx h1 h⟩
theorem rl_in (h : Rl ds m1 env g) : Rl ds (mSeq m1 m2) env g := by
  obtain ⟨e, g3, h⟩ := h
  exact ⟨e, g3, seq_rl h⟩
theorem rl_ift (h : mt env g = some (true, g1)) (k : Rl ds m1 env g1) : Rl ds (mIfS mt m1 m2) env g := by
  obtain ⟨e, g3, k⟩ := k
  exact ⟨e, g3, if_t h k⟩
theorem rl_iff (h : mt env g = some (false, g1)) (k : Rl ds m2 env g1) : Rl ds (mIfS mt m1 m2) env g := by
  obtain ⟨e, g3, k⟩ := k
  exact ⟨e, g3, if_f h k⟩
theorem rl_ret (h : ml env g = some (ds, g1)) : Rl ds (mRetF ml) env g := ⟨_, _, retF_e h⟩
theorem rl_retOw {j : Nat} (h : env.at j = .ow ds) : Rl ds (mRetOw j) env g := ⟨_, _, retOw_e h⟩
end
theorem runP_Rl {N n : Nat} {m : MS Unit} {ds xs : List D} (h : Rl xs m (startE N (ds.map .sh)) ()) (hn : ds.length = n ∧ n ≤ N := by exact ⟨rfl, by decide⟩) : runP N n m ds = some (.list xs) := by
  obtain ⟨e, u, h⟩ := h
  exact runP_rl h hn
theorem runN_Rl {N n : Nat} {m : MS Unit} {ds xs : List D} (h : Rl xs m (startE N (ds.map .sh)) ()) (hn : ds.length = n ∧ n ≤ N := by exact ⟨rfl, by decide⟩) : runN N n m ds = some xs := by
  obtain ⟨e, u, h⟩ := h
  exact runN_rl h hn
end Pd
namespace Pd
open PySem
theorem tup2_e {G : Type} {env e1 e2 : Env} {g g1 g2 : G} {b1 b2 : MTg G} {x y : D} (h1 : b1 x env g = some (e1, g1)) (h2 : b2 y e1 g1 = some (e2, g2)) : bTup 2 (bCons b1 (bCons b2 bNil)) (.tuple [x, y]) env g = some (e2, g2) := by
  show (b1 x env g).bind _ = _
  rw [h1]
  show (b2 y e1 g1).bind _ = _
  rw [h2]
  rfl
end Pd
namespace Pd
open PySem
section
variable {G : Type} {env e1 e2 : Env} {g g1 g2 g3 : G}
theorem intsD_mm : ∀ ns : List Int, intsD (ns.map .int) = some ns
  | [] => rfl
  | n :: ns => by show (intsD (ns.map .int)).map (n :: ·) = _; rw [intsD_mm ns]; rfl
theorem sum_e {α : Type} (l : List α) (f : α → Int) : dSum [.list (l.map fun z => .int (f z))] = some (.int ((l.map f).sum)) := by
  have e : l.map (fun z => PyData.int (f z)) = (l.map f).map .int := by rw [List.map_map]; rfl
  rw [e]
  show (intsD _).map _ = _
  rw [intsD_mm]
  rfl
end
end Pd

/-! Pd: targets by place, slices of one's own lists, sorted. -/
namespace Pd
open PySem PySem.Spec L2
section
variable {G : Type} {X : Cx} {S : Gs G} {K : PySem.W.Frag} {a b c e i : Expr} {es rest : List Expr} {pos : Pos} {ma mb me mi : ME G} {mt : MT G} {ml mk : ML G} {w : Wd} {env env' : Env} {g g' : G} {σ : St} {H H' I' : Hp}
/-! ### x[i] as a target, x a list of one's own -/
def bSub (j : Nat) (mi : ME G) : MTg G := fun d env g => bD (mi env g) fun i g1 => match env.at j, i with
  | .ow ds, .int i => (ixN ds.length i).map fun k => (env.set j (.ow (ds.set k d)), g1)
  | _, _ => none
theorem dg_sub (j : Nat) {x : Str} {xp : Pos} (hi : DE X S i mi) (hN : X.N[j]? = some x := by rfl) (hv : Vis X.env.scope x := by first | exact Or.inl rfl | exact Or.inr (Or.inl rfl) | exact Or.inr (Or.inr rfl)) (hd : (x == ("__debug__" : Str)) = false := by decide)
    (hcd : (x == ("__classdict__" : Str)) = false := by decide)
    (ha : ∀ v, assign (.Subscript (.Name x xp) i pos) X.env v = (do
      let ov ← holding [v] (eval (.Name x xp) X.env)
      let iv ← holding [v, ov] (eval i X.env)
      standAt pos
      holding [v, ov, iv] (setItem ov iv v)
      release [v, ov, iv] []) := by intro _; rfl) : DTg X S (.Subscript (.Name x xp) i pos) [j] (bSub j mi) where
  pg := PG.imp (pg_sub (pe_var hN hv hd hcd) hi set_list ha) fun v σ H Q ⟨w, env, g, d, env', g', R, pv, e, k⟩ => by
    obtain ⟨i, g2, e2, e⟩ := bD_some e
    split at e
    · rename_i ds i ej
      obtain ⟨n, en, e⟩ := Option.map_eq_some_iff.mp e
      cases e
      obtain ⟨p, vs, sj, hp, _⟩ := R.own ej
      refine ⟨_, sj, w, env, g, _, g', R, e2, fun u I2 H2 s2 R2 p2 => ?_⟩
      have s2 : Same w.I I2 := s2
      cases p2
      obtain ⟨p', us, sj', hp', hi, h0, hf, rb, hy⟩ := R2.own ej
      rw [sj] at sj'
      cases sj'
      refine ⟨p, us, i, n, rfl, rfl, hp', by rw [rb.len]; exact en, ?_⟩
      exact k σ I2 _ s2 (R2.setOw ej sj hp' hi h0 hf (rb.set (pv.mono s2) n) (by rw [List.length_set]; exact hy)) rfl fun _ _ => rfl
    · cases e
  ok := fun d env g env' g' e => by
    obtain ⟨i, g2, e2, e⟩ := bD_some e
    split at e
    · obtain ⟨n, en, e⟩ := Option.map_eq_some_iff.mp e
      cases e
      exact ⟨by rw [List.length_set], fun k hk => by rw [at_set, if_neg fun z => hk (by simp [z.1])]⟩
    · cases e
/-! ### x[lo:hi] = ys -/
def gSlice (to : TE) (tl th : TO) : TG := fun v σ H Q => to σ H fun o H1 => tl σ H1 fun l H2 => th σ H2 fun u H3 => ∃ p b xs ys a c, o = .ref p ∧ v = .ref b ∧ l = some a ∧ u = some c ∧ H3 p = some (.lst xs) ∧ H3 b = some (.lst ys) ∧ p ≠ b ∧
  0 ≤ a ∧ a ≤ c ∧ c ≤ xs.length ∧ xs.length + ys.length ≤ sizeLine ∧ Q σ (upd H3 p (.lst (xs.take a.toNat ++ ys ++ xs.drop c.toNat)))
theorem pg_slice {o : Expr} {lo hi : Option Expr} {p2 : Pos} {to : TE} {tl th : TO} (ho : PE X o to) (hl : PO X lo tl) (hh : PO X hi th)
    (ha : ∀ v, assign (.Subscript o (.Slice lo hi none p2) pos) X.env v = (do
      let ov ← holding [v] (eval o X.env)
      let iv ← holding [v, ov] (eval (.Slice lo hi none p2) X.env)
      standAt pos
      holding [v, ov, iv] (setItem ov iv v)
      release [iv, v, ov] []) := by intro _; rfl) : PG X (.Subscript o (.Slice lo hi none p2) pos) (gSlice to tl th) := by
  refine ⟨fun pins s σ H v u Q I r h => ?_⟩
  rw [ha]
  refine wpAny_bind (wpAny_holding (thn (ho.run pins s σ H _ I h) fun ov s1 ⟨x, H1, I1, r1, q1⟩ => ?_))
  refine wpAny_bind (wpAny_holding (wpAny_Slice (thn (hl.run pins s1 σ H1 _ I1 q1) fun vl s2 ⟨l, H2, I2, pl, q2⟩ => thn (hh.run pins s2 σ H2 _ I2 q2) fun vu s3 ⟨u', H3, I3, pu, q3⟩ => ?_)))
  rw [evalPart_none]
  refine wpAny_pure ?_
  have I4 : Inv X pins σ H3 { s3 with heap := s3.heap.push { cls := .type "slice", data := .fields #[vl, vu, .none] } } := I3.kept (t' := s3.toks) fun b ob q => Heap.get?_push_of_some _ q
  obtain ⟨p, b, xs, ys, a, c, rfl, rfl, rfl, rfl, hp, hb, hne, h0, hac, hc, hz, q⟩ := q3
  cases pl
  cases pu
  cases r1
  cases r
  refine wpAny_bind (wpAny_standAt (wpAny_bind (wpAny_holding ?_)))
  exact set_slice I4 hp hb hne (Heap.IsSliceOf.new ..) ⟨_, rfl⟩ ⟨_, rfl⟩ h0 hac hc hz fun s' I5 => wpAny_release ⟨σ, _, I5, q⟩
def mSetSl (j : Nat) (lo hi : MO G) (me : ME G) : MS G := fun env g => bD (me env g) fun d g1 => bD (lo env g1) fun l g2 => bD (hi env g2) fun h g3 => match env.at j, d, l, h with
  | .ow ds, .list ys, some a, some c => if 0 ≤ a ∧ a ≤ c ∧ c ≤ ds.length ∧ ds.length + ys.length ≤ sizeLine then some (.nx, env.set j (.ow (ds.take a.toNat ++ ys ++ ds.drop c.toNat)), g3) else none
  | _, _, _, _ => none
theorem rpa_take {I : Hp} : ∀ {vs : List V} {ds : List D}, RpA K I vs ds → ∀ n : Nat, RpA K I (vs.take n) (ds.take n)
  | _, _, .nil, n => by rw [List.take_nil, List.take_nil]; exact .nil
  | _, _, .cons _ _, 0 => .nil
  | _, _, .cons a b, n + 1 => .cons a (rpa_take b n)
theorem rpa_drop {I : Hp} : ∀ {vs : List V} {ds : List D}, RpA K I vs ds → ∀ n : Nat, RpA K I (vs.drop n) (ds.drop n)
  | _, _, .nil, n => by rw [List.drop_nil, List.drop_nil]; exact .nil
  | _, _, .cons a b, 0 => .cons a b
  | _, _, .cons a b, n + 1 => rpa_drop b n
theorem ds_setSl (j : Nat) {x : Str} {xp sp p2 : Pos} {lo hi : Option Expr} {mlo mhi : MO G} (he : DE X S e me) (hl : DO X S lo mlo) (hh : DO X S hi mhi) (hN : X.N[j]? = some x := by rfl) (hv : Vis X.env.scope x := by first | exact Or.inl rfl | exact Or.inr (Or.inl rfl) | exact Or.inr (Or.inr rfl)) (hd : (x == ("__debug__" : Str)) = false := by decide)
    (hcd : (x == ("__classdict__" : Str)) = false := by decide)
    (ha : ∀ v, assign (.Subscript (.Name x xp) (.Slice lo hi none p2) sp) X.env v = (do
      let ov ← holding [v] (eval (.Name x xp) X.env)
      let iv ← holding [v, ov] (eval (.Slice lo hi none p2) X.env)
      standAt sp
      holding [v, ov, iv] (setItem ov iv v)
      release [iv, v, ov] []) := by intro _; rfl)
    (hs : swapsWithSole [.Subscript (.Name x xp) (.Slice lo hi none p2) sp] e pos.line X.env = pure false := by rfl) (hw : swappedStores [.Subscript (.Name x xp) (.Slice lo hi none p2) sp] e X.env = pure none := by rfl)
    (h1 : (assignEach [.Subscript (.Name x xp) (.Slice lo hi none p2) sp] X.env).map (·.2) = [assign (.Subscript (.Name x xp) (.Slice lo hi none p2) sp) X.env] := by rfl) :
    DS X S (.Assign [.Subscript (.Name x xp) (.Slice lo hi none p2) sp] e pos) (mSetSl j mlo mhi me) := PS.imp (ps_asg he (pg_slice (pe_var hN hv hd hcd) hl.po hh.po ha) hs hw h1) fun D σ H ⟨w, env, g, ct, env', g', R, e, k⟩ => by
  obtain ⟨d, g1, e1, e⟩ := bD_some e
  obtain ⟨l, g2, e2, e⟩ := bD_some e
  obtain ⟨h, g3, e3, e⟩ := bD_some e
  split at e
  · rename_i ds ys a c ej _ _
    split at e
    · rename_i hz
      cases e
      refine ⟨w, env, g, _, g1, R, e1, fun v I1 H1 s1 R1 p1 => ?_⟩
      obtain ⟨p, vs, sj, hp, _⟩ := R1.own ej
      refine ⟨_, sj, w.im I1, env, g1, _, g2, R1, e2, fun I2 H2 s2 R2 => ⟨w.im I2, env, g2, _, g', R2, e3, fun I3 H3 s3 R3 => ?_⟩⟩
      have s2 : Same I1 I2 := s2
      have s3 : Same I2 I3 := s3
      cases p1 with
      | lst hb rb hy =>
        obtain ⟨p', us, sj', hp', hi, h0, hf, ra, hx⟩ := R3.own ej
        rw [sj] at sj'
        cases sj'
        have hb3 := s3 _ _ (s2 _ _ hb)
        refine ⟨p, _, us, _, a, c, rfl, rfl, rfl, rfl, hp', R3.eI _ _ hb3, fun z => ?_, hz.1, hz.2.1, by rw [ra.len]; exact hz.2.2.1, by rw [ra.len, rb.len]; exact hz.2.2.2, ?_⟩
        · have hi : I3 p = none := hi
          rw [z, hb3] at hi; cases hi
        · refine k σ I3 _ (s1.trans (s2.trans s3)) (R3.setOw ej sj hp' hi h0 hf (((rpa_take ra _).append (rb.mono (s2.trans s3))).append (rpa_drop ra _)) ?_)
          have := hz.2.2.2
          rw [List.length_append, List.length_append, List.length_take, List.length_drop]
          omega
    · cases e
  · cases e
/-- x[lo:hi] of a list of one's own -/
def mSlOw (j : Nat) (lo hi : MO G) : ML G := fun env g => bD (lo env g) fun l g2 => bD (hi env g2) fun h g3 => match env.at j with
  | .ow ds => some (cut ds l h, g3)
  | _ => none
theorem df_sliceOw (j : Nat) {x : Str} {xp p2 : Pos} {lo hi : Option Expr} {mlo mhi : MO G} (hl : DO X S lo mlo) (hh : DO X S hi mhi) (hN : X.N[j]? = some x := by rfl) (hv : Vis X.env.scope x := by first | exact Or.inl rfl | exact Or.inr (Or.inl rfl) | exact Or.inr (Or.inr rfl)) (hd : (x == ("__debug__" : Str)) = false := by decide)
    (hcd : (x == ("__classdict__" : Str)) = false := by decide) : DF X S (.Subscript (.Name x xp) (.Slice lo hi none p2) pos) (mSlOw j mlo mhi) := PE.imp (pe_slice sl_list (pe_var hN hv hd hcd) hl.po hh.po) fun σ H Q q => by
  obtain ⟨w, env, g, d, g', R, e, k⟩ := q
  obtain ⟨l, g2, e2, e⟩ := bD_some e
  obtain ⟨h, g3, e3, e⟩ := bD_some e
  split at e
  · rename_i ds ej
    cases e
    obtain ⟨p, vs, sj, hp, _⟩ := R.own ej
    refine ⟨_, sj, w, env, g, l, g2, R, e2, fun I2 H2 s2 R2 => ⟨w.im I2, env, g2, h, g', R2, e3, fun I3 H3 s3 R3 => ?_⟩⟩
    have s2 : Same w.I I2 := s2
    have s3 : Same I2 I3 := s3
    obtain ⟨p', us, sj', hp', hi, h0, hf, ra, hx⟩ := R3.own ej
    rw [sj] at sj'
    cases sj'
    refine ⟨_, _, rfl, SqL.of hp', fun p h0 => ?_⟩
    exact k p _ I3 _ (s2.trans s3) (R3.alloc h0) (R3.nob h0) upd_same (cut_rp ra l h) (Nat.le_trans (cut_le ds l h) hx)
  · cases e
/-! ### a new list by a test -/
theorem df_if (hc : DT X S c mt) (ha : DF X S a ml) (hb : DF X S b mk) : DF X S (.IfExp c a b pos) (mIf mt ml mk) := PE.imp (pe_ifExp hc ha hb) fun σ H Q q => by
  obtain ⟨w, env, g, d, g', R, e, k⟩ := q
  obtain ⟨x, g1, e1, e⟩ := bD_some e
  refine ⟨w, env, g, x, g1, R, e1, fun I1 H1 s1 R1 => ?_⟩
  cases x with
  | true => exact ⟨w.im I1, env, g1, d, g', R1, e, fun p vs I2 H2 s2 R2 => k p vs I2 H2 (s1.trans s2) R2⟩
  | false => exact ⟨w.im I1, env, g1, d, g', R1, e, fun p vs I2 H2 s2 R2 => k p vs I2 H2 (s1.trans s2) R2⟩
end
end Pd
namespace Pd
open PySem
section
variable {G : Type} {env e1 e2 : Env} {g g1 g2 g3 : G}
theorem lendT_e {js : List Nat} {mt : MT G} {r} (h0 : (env.lend js).noOw = true) (h : mt (env.lend js) g = r) : mLendT js mt env g = r := by unfold mLendT; rw [if_pos h0]; exact h
theorem frz_e {j : Nat} {m : MS G} {r} (h : m (env.frz j) g = r) : mFrz j m env g = r := h
theorem slOw_e {j : Nat} {lo hi : MO G} {l h : Option Int} {ds : List D} (hl : lo env g = some (l, g1)) (hh : hi env g1 = some (h, g2)) (hj : env.at j = .ow ds) : mSlOw j lo hi env g = some (cut ds l h, g2) := by
  unfold mSlOw; rw [hl]; dsimp only [bD]; rw [hh]; dsimp only [bD]; rw [hj]
theorem catOw_e {j : Nat} {mb : ME G} {ds ys : List D} (hb : mb env g = some (.list ys, g1)) (hj : env.at j = .ow ds) (hl : ds.length + ys.length ≤ sizeLine) : mCatOw j mb env g = some (ds ++ ys, g1) := by
  unfold mCatOw; rw [hb]; dsimp only [bD]; rw [hj]; exact if_pos hl
end
end Pd

/-! Pd: sorted. -/
namespace Pd
open PySem PySem.Spec L2
section
variable {G : Type} {X : Cx} {S : Gs G} {K : PySem.W.Frag}
def rSortD (K : PySem.W.Frag) : List V → Hp → VK → Prop := fun vs H Q => ∃ a xs ds, vs = [.ref a] ∧ SqL K H a xs ∧ DpAll K H xs ds ∧ PySem.W.AllAlike ds ∧ PySem.W.Sortable ds ∧ (∀ d ∈ ds, d.depth ≤ 60) ∧
  ∀ p, H p = none → Q (.ref p) (upd H p (.lst (((xs.zip ds).mergeSort (PySem.W.dataLe false Prod.snd)).map (·.1))))
theorem each_rel {xs : List V} {us : List Value} (h : Vals xs us) : ∀ {ds : List D}, ds.length = xs.length → PySem.W.EachIs (fun (v : Value) (b : V × D) => RelV b.1 v) us (xs.zip ds) := by
  induction h with
  | nil => intro ds _; exact .nil
  | cons r t ih =>
    intro ds hl
    cases ds with
    | nil => cases hl
    | cons d ds => exact .cons r (ih (by simpa using hl))
theorem each_reads {h : Heap} : ∀ {us : List Value} {ds : List D} {as : List Addr} {xs : List V}, ReadsAll h us ds as → xs.length = ds.length → PySem.W.EachIs (fun (v : Value) (b : V × D) => ∃ as, Reads h v b.2 as) us (xs.zip ds)
  | _, [], _, xs, r, hl => by
    cases r
    cases xs with
    | nil => exact .nil
    | cons _ _ => cases hl
  | _, d :: ds, _, xs, r, hl => by
    cases r with
    | cons r1 r2 =>
      cases xs with
      | nil => cases hl
      | cons x xs => exact .cons ⟨_, r1⟩ (each_reads r2 (by simpa using hl))
theorem vals_each {us : List Value} {bs : List (V × D)} (h : PySem.W.EachIs (fun (v : Value) (b : V × D) => RelV b.1 v) us bs) : Vals (bs.map (·.1)) us := by
  induction h with
  | nil => exact .nil
  | cons r _ ih => exact .cons r ih
theorem cr_sortD (hu : X.A.units + 65 < cLine) : CallR X (.builtin "sorted") (rSortD X.K) := by
  intro pins s σ H vs us Q I r h
  obtain ⟨a, xs, ds, rfl, hs, hd, hal, hso, hde, q⟩ := h
  obtain ⟨its, rv, hl, hz⟩ := I.list hs
  obtain ⟨u, rfl, ru⟩ := vals1 r
  obtain rfl : u = Value.ref a := ru
  obtain ⟨as, rd⟩ := Dp.readsAll I ds xs its hd rv
  have hlen : ∀ {vs : List V} {ds : List D}, DpAll X.K H vs ds → ds.length = vs.length := fun {vs ds} h => by
    induction vs generalizing ds with
    | nil => cases h; rfl
    | cons v vs ih => cases h with | cons h1 h2 => rw [List.length_cons, List.length_cons, ih h2]
  have hl2 := hlen hd
  have em : (xs.zip ds).map Prod.snd = ds := List.map_snd_zip (by omega)
  refine PySem.W.sorted_data (vs := its) (bs := xs.zip ds) (enc := Prod.snd) (R := fun v b => RelV b.1 v) hl.isList (each_rel rv hl2) (each_reads rd hl2.symm) (by rw [em]; exact hal) (by rw [em]; exact hso) (by rw [List.length_zip]; omega) (fun b hb => ?_) fun out ho eo => ?_
  · have := hde b.2 (by rw [← em]; exact List.mem_map.mpr ⟨b, hb, rfl⟩)
    omega
  · obtain ⟨n, hn⟩ := PyProof.Rows.sortedAll_at s.heap its out.toArray
    refine ⟨.ref (s.heap.objs.size + 1), upd H _ (.lst _), I.laid (t' := s.toks) (fun b o e => PyProof.Rows.sortedAll_old e) (Nat.le_succ _) ⟨?_, out, n, vals_each eo, hn⟩, rfl, q _ (I.hok.fresh (Nat.le_succ _))⟩
    rw [List.length_map, (List.mergeSort_perm _ _).length_eq, List.length_zip]; omega
/-- the premises, as tests -/
def alikeB (ds : List D) : Bool := ds.all fun d => ds.all fun d' => PySem.W.alike d d'
def isTupNe : D → Bool
  | .tuple (_ :: _) => true
  | _ => false
def notTup : D → Bool
  | .tuple _ => false
  | .none => false
  | _ => true
def dSorted : List D → Option (List D)
  | [.list ds] => if alikeB ds = true ∧ ((ds.all isTupNe) = true ∨ (ds.all notTup) = true) ∧ (ds.all fun d => decide (d.depth ≤ 60)) = true then some (ds.mergeSort (PySem.W.dataLe false id)) else none
  | _ => none
theorem alikeB_of {ds : List D} (h : alikeB ds = true) : PySem.W.AllAlike ds := fun d hd d' hd' => List.all_eq_true.mp (List.all_eq_true.mp h d hd) d' hd'
theorem sortable_of {ds : List D} (h : (ds.all isTupNe) = true ∨ (ds.all notTup) = true) : PySem.W.Sortable ds := by
  rcases h with h | h
  · refine .inl fun d hd => ?_
    have := List.all_eq_true.mp h d hd
    cases d with
    | tuple xs =>
      cases xs with
      | nil => cases this
      | cons x r => exact ⟨x, r, rfl⟩
    | _ => cases this
  · refine .inr fun d hd => ?_
    have := List.all_eq_true.mp h d hd
    constructor
    · rintro rfl; cases this
    · rintro xs rfl; cases this
theorem RpA.zip_map {I : Hp} {xs : List V} {ds : List D} (h : RpA K I xs ds) : ∀ b ∈ xs.zip ds, Rp K I b.1 b.2 := by
  induction xs generalizing ds with
  | nil => intro b hb; rw [List.zip_nil_left] at hb; cases hb
  | cons x xs ih =>
    cases h with
    | cons h1 h2 =>
      intro b hb
      rw [List.zip_cons_cons] at hb
      rcases List.mem_cons.mp hb with e | e
      · rw [e]; exact h1
      · exact ih h2 b e
theorem rpa_pairs {I : Hp} : ∀ {bs : List (V × D)}, (∀ b ∈ bs, Rp K I b.1 b.2) → RpA K I (bs.map (·.1)) (bs.map (·.2))
  | [], _ => .nil
  | b :: bs, h => .cons (h b (by simp)) (rpa_pairs fun b' hb => h b' (List.mem_cons_of_mem _ hb))
theorem RpA.dpAll {I : Hp} : ∀ {xs : List V} {ds : List D}, RpA K I xs ds → DpAll K I xs ds
  | _, _, .nil => .nil
  | _, _, .cons a b => .cons a.dp b.dpAll
theorem cf_sorted : CallF K (rSortD K) dSorted := by
  intro I H xs ds zs s p hz Q k
  cases p with
  | nil => cases hz
  | cons a b =>
    cases b with
    | cons _ _ => cases a <;> cases hz
    | nil =>
      cases a with
      | lst hp ra hl =>
        rename_i p us es
        have hz : (if _ then _ else none) = some zs := hz
        split at hz
        · rename_i hc
          cases hz
          refine ⟨_, us, es, rfl, SqL.of (s _ _ hp), (ra.mono s).dpAll, alikeB_of hc.1, sortable_of hc.2.1, fun d hd => of_decide_eq_true (List.all_eq_true.mp hc.2.2 d hd), fun p h0 => ?_⟩
          have hlen := ra.len
          have em : (us.zip es).map Prod.snd = es := List.map_snd_zip (by omega)
          have e2 : es.mergeSort (PySem.W.dataLe false id) = ((us.zip es).mergeSort (PySem.W.dataLe false Prod.snd)).map (·.2) := by
            have := List.map_mergeSort (r := PySem.W.dataLe false (Prod.snd : V × D → D)) (s := PySem.W.dataLe false (id : D → D)) (f := Prod.snd) (l := us.zip es) fun _ _ _ _ => rfl
            rw [em] at this
            exact this.symm
          refine k p _ _ h0 (same_new h0) upd_same ?_ ?_
          · rw [e2]
            exact rpa_pairs fun b hb => RpA.zip_map ra b ((List.mergeSort_perm _ _).mem_iff.mp hb)
          · rw [(List.mergeSort_perm _ _).length_eq]; exact hl
        · cases hz
      | _ => cases hz
end
end Pd

/-! Pd: defs that call themselves; slices of tuples; is with truth values; index in a list; draws of the kind C. -/
namespace Pd
open PySem PySem.Spec L2
section
variable {G : Type} {X : Cx} {S : Gs G} {P : Program} {wd : World} {K : PySem.W.Frag} {mg : Str → Option Value} {base : Heap} {a b c e : Expr} {es : List Expr} {pos : Pos} {ma mb me : ME G} {ml : ML G}
variable {w : Wd} {env env' : Env} {g g' g1 g2 g3 : G} {σ : St} {H H' I' : Hp}
/-! ### a def whose promise promises nothing (no fuel is left) -/
theorem def_no {x qual : Str} {st : Stmt} {N ps : List Str} {k : Nat} {sp : Sp} (h : Dfn K mg x qual st ps) (Sc : FnScope N ps (defScope st)) (hn : ∀ vs H Q E, ¬ sp vs H Q E) : Def1 P wd K mg base x ps (k + 1) sp := by
  obtain ⟨f, fd, F, hm, hB⟩ := h.ex
  exact ⟨f, fd, F.ok Sc (fun vs H Q E q => (hn _ _ _ _ q).elim) (fun cdv A outer s H vs Q E hr q => (hn _ _ _ _ q).elim), hm, F.kp, hB⟩
theorem spP_no (vs : List V) (H : Hp) (Q : VK) (E : XK) : ¬ spP K (fun _ => none) vs H Q E := fun ⟨_, _, _, _, _, e, _⟩ => by cases e
theorem spN_no (vs : List V) (H : Hp) (Q : VK) (E : XK) : ¬ spN K (fun _ => none) vs H Q E := fun ⟨_, _, _, _, _, e, _⟩ => by cases e
theorem spG_no (vs : List V) (H : Hp) (Q : VK) (E : XK) : ¬ spG K S (fun _ _ => none) vs H Q E := fun ⟨_, _, _, _, _, _, _, _, _, e, _⟩ => by cases e
/-! ### a tuple's slice -/
def partT {α : Type} (xs : List α) (lo hi : Option Int) : Bool := !(decide (HT.sIx xs.length 0 lo = 0) && decide (HT.sIx xs.length xs.length hi = xs.length))
def mSlT (ma : ME G) (lo hi : MO G) : ME G := fun env g => bD (ma env g) fun x g1 => bD (lo env g1) fun l g2 => bD (hi env g2) fun h g3 => match x with
  | .tuple ds => if partT ds l h = true then some (.tuple (cut ds l h), g3) else none
  | _ => none
theorem de_sliceT {lo hi : Option Expr} {ml mh : MO G} {p2 : Pos} (ha : DE X S a ma) (hl : DO X S lo ml) (hh : DO X S hi mh) : DE X S (.Subscript a (.Slice lo hi none p2) pos) (mSlT ma ml mh) := PE.imp (pe_slice sl_tup ha hl.po hh.po) fun σ H Q q => by
  obtain ⟨w, env, g, d, g', R, e, k⟩ := q
  obtain ⟨x, g1, e1, e⟩ := bD_some e
  obtain ⟨l, g2, e2, e⟩ := bD_some e
  obtain ⟨h, g3, e3, e⟩ := bD_some e
  cases x with
  | tuple ds =>
    have e : (if partT ds l h = true then some (PyData.tuple (cut ds l h), g3) else none) = some (d, g') := e
    split at e
    · rename_i hw
      cases e
      refine ⟨w, env, g, _, g1, R, e1, fun v I1 H1 s1 R1 p1 => ⟨w.im I1, env, g1, l, g2, R1, e2, fun I2 H2 s2 R2 => ⟨w.im I2, env, g2, h, g', R2, e3, fun I3 H3 s3 R3 => ?_⟩⟩⟩
      cases p1 with
      | tup hp ra hz =>
        rename_i ad xs
        refine ⟨_, _, rfl, same_t R3.eI (same_t s3 (same_t s2 hp)), ?_, fun p h0 => ?_⟩
        · rw [ra.len]
          intro z
          unfold partT at hw
          rw [decide_eq_true z.1, decide_eq_true z.2] at hw
          cases hw
        · have n := R3.nob h0
          have R4 := (R3.alloc (o := .tup (cutV xs l h)) h0).freeze n upd_same
          refine k (.ref p) _ _ (s1.trans (s2.trans (s3.trans (same_new n.i)))) R4 ?_
          exact .tup (SqT.of upd_same) ((cut_rp (ra.mono (s2.trans s3)) l h).mono (same_new n.i)) (Nat.le_trans (cut_le ds l h) hz)
    · cases e
  | _ => cases e
theorem slT_e {lo hi : MO G} {xs : List D} {l h : Option Int} (ha : ma env g = some (.tuple xs, g1)) (hl : lo env g1 = some (l, g2)) (hh : hi env g2 = some (h, g3)) (hp : partT xs l h = true) : mSlT ma lo hi env g = some (.tuple (cut xs l h), g3) := by
  unfold mSlT
  rw [ha]; dsimp only [bD]; rw [hl]; dsimp only [bD]; rw [hh]; dsimp only [bD]; rw [if_pos hp]
/-! ### is True, is False -/
theorem op_isB : OpR X (compareOp .Is) (fun x y H Q => (∃ b, y = .bl b) ∧ Q (.bl (decide (x = y))) H) := by
  intro pins s σ H x y v u Q I rx ry h
  obtain ⟨⟨b, rfl⟩, q⟩ := h
  cases (show u = Value.bool b from ry)
  by_cases e : x = .bl b
  · subst e
    cases (show v = Value.bool b from rx)
    exact wpAny_is_self rfl ⟨.bl true, H, I, rfl, by simpa using q⟩
  · have q : Q (.bl false) H := by simpa [e] using q
    refine wpAny_is_other (a := v) (b := .bool b) ?_ (fun z => ?_) ⟨.bl false, H, I, rfl, q⟩
    · cases x <;> first | (cases rx; rfl) | (obtain ⟨t, rfl⟩ := rx; rfl)
    · subst z
      cases x <;> first | (cases rx; done) | (obtain ⟨t, z⟩ := rx; cases z; done) | skip
      cases (show Value.bool b = Value.bool _ from rx)
      exact e rfl
theorem op_isNB : OpR X (compareOp .IsNot) (fun x y H Q => (∃ b, y = .bl b) ∧ Q (.bl (!decide (x = y))) H) := by
  intro pins s σ H x y v u Q I rx ry h
  obtain ⟨⟨b, rfl⟩, q⟩ := h
  cases (show u = Value.bool b from ry)
  by_cases e : x = .bl b
  · subst e
    cases (show v = Value.bool b from rx)
    exact wpAny_isNot_self rfl ⟨.bl false, H, I, rfl, by simpa using q⟩
  · have q : Q (.bl true) H := by simpa [e] using q
    refine wpAny_isNot_other (a := v) (b := .bool b) ?_ (fun z => ?_) ⟨.bl true, H, I, rfl, q⟩
    · cases x <;> first | (cases rx; rfl) | (obtain ⟨t, rfl⟩ := rx; rfl)
    · subst z
      cases x <;> first | (cases rx; done) | (obtain ⟨t, z⟩ := rx; cases z; done) | skip
      cases (show Value.bool b = Value.bool _ from rx)
      exact e rfl
def isBd (b : Bool) : D → Bool
  | .bool c => c == b
  | _ => false
def dIsB : D → D → Option D
  | x, .bool b => some (.bool (isBd b x))
  | _, _ => none
def dIsNB : D → D → Option D
  | x, .bool b => some (.bool (!isBd b x))
  | _, _ => none
theorem isBd_rp {I : Hp} {v : V} {d : D} {b : Bool} (h : Rp K I v d) : decide (v = .bl b) = isBd b d := by
  cases h with
  | bl c => cases b <;> cases c <;> rfl
  | _ => simp [isBd]
theorem od_isB : OpD K (fun x y H Q => (∃ b, y = .bl b) ∧ Q (.bl (decide (x = y))) H) dIsB := by
  intro I H x y d e z s p q hz Q k
  cases q with
  | bl b => cases hz; exact ⟨⟨b, rfl⟩, by rw [isBd_rp p]; exact k _ I H (Pst.refl s) (.bl _)⟩
  | _ => cases hz
theorem od_isNB : OpD K (fun x y H Q => (∃ b, y = .bl b) ∧ Q (.bl (!decide (x = y))) H) dIsNB := by
  intro I H x y d e z s p q hz Q k
  cases q with
  | bl b => cases hz; exact ⟨⟨b, rfl⟩, by rw [isBd_rp p]; exact k _ I H (Pst.refl s) (.bl _)⟩
  | _ => cases hz
/-! ### xs.index(x), xs a list of data -/
def dIndexL : D → D → Option D
  | .list ds, d => if d.depth ≤ 64 ∧ (PyData.list ds).depth ≤ 64 then (ds.findIdx? fun z => PyData.eqv z d).map fun (j : Nat) => PyData.int (j : Int) else none
  | _, _ => none
theorem find_at {p : D → Bool} : ∀ {ds : List D} {j : Nat}, ds.findIdx? p = some j → (∃ z, ds[j]? = some z ∧ p z = true) ∧ ∀ (m : Nat) (z : D), m < j → ds[m]? = some z → p z = false := by
  intro ds j h
  obtain ⟨hl, hp, hn⟩ := List.findIdx?_eq_some_iff_getElem.mp h
  refine ⟨⟨_, List.getElem?_eq_getElem hl, hp⟩, fun m z hm hz => ?_⟩
  have := hn m hm
  obtain ⟨h1, h2⟩ := List.getElem?_eq_some_iff.mp hz
  rw [h2] at this
  simpa using this
theorem de_indexL {ap : Pos} (hu : X.A.units + 65 < cLine) (ho : DE X S a ma) (he : DE X S e me)
    (hbase : attributeBase a "index" X.env (eval a X.env) = eval a X.env := by rfl)
    (hfew : ((backTo pos (starEach [e] X.env)).all (fun x => !x.1) && (backToKw pos (keywordEach [] X.env)).all (fun x => x.1.isSome)
      && decide ([e].length + ([] : List Keyword).length + (if ([] : List Keyword).isEmpty then 0 else 1) < 30)) = true := by rfl)
    (hline : (ap.endLine == pos.line) = true := by rfl) (hs : starEach [e] X.env = (false, eval e X.env) :: starEach [] X.env := by rfl) (hplain : (backTo pos (starEach [] X.env)).any (·.1) = false := by rfl) :
    DE X S (.Call (.Attribute a "index" ap) [e] [] pos) (mOp dIndexL ma me) :=
  PE.imp (pe_bm PySem.F.plainAttrs_list PySem.F.slot_list_index PySem.F.type_list_index (mt_indexD hu) ho (da_cons (S := S) he da_nil hs) hbase hfew hline hs hplain) fun σ H Q q => by
    obtain ⟨w, env, g, d, g', R, e, k⟩ := q
    obtain ⟨x, g1, e1, e⟩ := bD_some e
    obtain ⟨y, g2, e2, e⟩ := bD_some e
    obtain ⟨e3, rfl⟩ := map_some e
    refine ⟨w, env, g, x, g1, R, e1, fun v I1 H1 s1 R1 p1 => ?_⟩
    cases x with
    | list ds =>
      have e3 : (if y.depth ≤ 64 ∧ (PyData.list ds).depth ≤ 64 then (ds.findIdx? fun z => PyData.eqv z y).map fun (j : Nat) => PyData.int (j : Int) else none) = some d := e3
      split at e3
      · rename_i hc
        obtain ⟨j, ej, rfl⟩ := Option.map_eq_some_iff.mp e3
        obtain ⟨⟨z, hz, hzj⟩, hno⟩ := find_at ej
        cases p1 with
        | lst hp ra hl =>
          refine ⟨.inl ⟨rfl, _, SqL.of (R1.eI _ _ hp)⟩, w.im I1, env, g1, [y], g', R1, ?_, fun us I2 H2 s2 R2 rb => ?_⟩
          · show bD (me env g1) (fun x g1 => bD (mNil env g1) fun xs g2 => some (x :: xs, g2)) = some ([y], g')
            rw [e2]; rfl
          · cases rb with
            | cons r q =>
              cases q
              have pl : Rp X.K I2 _ (PyData.list ds) := .lst (s2 _ _ hp) (ra.mono s2) hl
              exact ⟨_, _, y, ds, j, z, rfl, rfl, (pl.mono R2.eI).dp, (r.mono R2.eI).dp, shaped_of pl hc.2, shaped_of r hc.1, hz, hzj, hno, k _ I2 H2 (s1.trans s2) R2 (.int _)⟩
      · cases e3
    | _ => cases e3
end
end Pd

/-! Pd: draws of the kind C: a list of two numbers, the script as it is. -/
namespace Pd
open PySem PySem.Spec L2
structure Dc where
  s : Addr
  c : Addr
  tr : Bool
  a : Int
  b : Int
  ns : List Int
/-- the script stands: known to the heap, or one of the text's own objects -/
def ScrOk (K : PySem.W.Frag) (g : Dc) (H : Hp) : Prop := if g.tr = true then Rd H g.c (.lst (g.ns.map V.int)) else ∀ H' : Hp, SqL K H' g.c (g.ns.map V.int)
def drC (K : PySem.W.Frag) : Gs Dc where
  fp := fun g x => x = g.s ∨ (x = g.c ∧ g.tr = true)
  ok := fun g H => H g.s = some (.lst [.int g.a, .int g.b]) ∧ (g.tr = true → g.s ≠ g.c) ∧ ScrOk K g H
  root := fun g => .ref g.s
  loc := fun {g H H'} h ⟨h1, h2, h3⟩ => ⟨(h _ (.inl rfl)).trans h1, h2, by
    unfold ScrOk at h3 ⊢
    by_cases z : g.tr = true
    · rw [if_pos z] at h3 ⊢
      unfold Rd at h3 ⊢
      rw [h _ (.inr ⟨rfl, z⟩)]
      exact h3
    · rw [if_neg z] at h3 ⊢
      exact h3⟩
  dom := fun {g H x} ⟨h1, h2, h3⟩ hx => by
    rcases hx with rfl | ⟨rfl, z⟩
    · rw [h1]; simp
    · unfold ScrOk at h3
      rw [if_pos z] at h3
      rcases h3 with h | ⟨o, h⟩ <;> rw [h] <;> simp
theorem ScrOk.sq {K : PySem.W.Frag} {g : Dc} {H : Hp} (h : ScrOk K g H) : SqL K H g.c (g.ns.map V.int) := by
  unfold ScrOk at h
  by_cases z : g.tr = true
  · rw [if_pos z] at h; exact .inl h
  · rw [if_neg z] at h; exact h H
section
variable {X : Cx} {P : Program} {wd : World} {K : PySem.W.Frag} {mg : Str → Option Value} {base : Heap} {a b c e : Expr} {es : List Expr} {pos : Pos} {ma mb me mi : ME Dc} {ml : ML Dc}
variable {w : Wd} {env env' : Env} {g g' g1 g2 g3 : Dc} {σ : St} {H H' I' : Hp}
theorem Rel.stA {j : Nat} (R : Rel K (drC K) w env g σ H) (e : env.at j = .st) : σ[j]? = some (some (.ref g.s)) := by
  have q := R.slot j
  rw [e] at q
  have q : σ[j]? = some (some w.rt) := q
  rw [q, ← R.grt]
  rfl
/-- the state behind a write -/
theorem drC_set {xa xb : Int} (R : Rel K (drC K) w env g σ H) : Rel K (drC K) w env { g with a := xa, b := xb } σ (upd H g.s (.lst [.int xa, .int xb])) := by
  have n0 : w.I g.s = none := R.fI g.s ((R.gfp g.s).mp (.inl rfl))
  have nH : w.H0 g.s = none := R.f0 g.s ((R.gfp g.s).mp (.inl rfl))
  obtain ⟨h1, h2, h3⟩ := R.gok
  exact {
    e0 := fun x o q => by rw [upd_ne fun z => by rw [z, nH] at q; cases q]; exact R.e0 x o q
    eI := fun x o q => by rw [upd_ne fun z => by rw [z, n0] at q; cases q]; exact R.eI x o q
    ag := R.ag
    ge := R.ge
    gfp := R.gfp
    grt := R.grt
    gok := ⟨upd_same, h2, by
      unfold ScrOk at h3 ⊢
      by_cases z : g.tr = true
      · have z' : ({ g with a := xa, b := xb } : Dc).tr = true := z
        rw [if_pos z] at h3
        rw [if_pos z']
        show Rd (upd H g.s _) g.c (.lst (g.ns.map V.int))
        unfold Rd at h3 ⊢
        rw [upd_ne (h2 z).symm]
        exact h3
      · have z' : ¬ ({ g with a := xa, b := xb } : Dc).tr = true := z
        rw [if_neg z] at h3
        rw [if_neg z']
        exact h3⟩
    fI := R.fI
    f0 := R.f0
    len := R.len
    slot := fun i => by
      have q := R.slot i
      cases e : env.at i with
      | un => trivial
      | sh d => rw [e] at q; exact q
      | st => rw [e] at q; exact q
      | raw v => rw [e] at q; exact q
      | ow ds =>
        rw [e] at q
        obtain ⟨p, vs, e1, hp, hi, h0, hf, r, hz⟩ := q
        refine ⟨p, vs, e1, ?_, hi, h0, hf, r, hz⟩
        rw [upd_ne fun z => hf (by rw [z]; exact (R.gfp g.s).mp (.inl rfl))]
        exact hp
    dis := R.dis }
/-- state[i] -/
def mStIx (j : Nat) (mi : ME Dc) : ME Dc := fun env g => bD (mi env g) fun i g1 => match env.at j, i with
  | .st, .int i => if i = 0 then some (.int g1.a, g1) else if i = 1 then some (.int g1.b, g1) else none
  | _, _ => none
theorem de_stIx (j : Nat) {x : Str} {xp : Pos} {i : Expr} {mi : ME Dc} (hi : DE X (drC X.K) i mi) (hN : X.N[j]? = some x := by rfl) (hv : Vis X.env.scope x := by first | exact Or.inl rfl | exact Or.inr (Or.inl rfl) | exact Or.inr (Or.inr rfl)) (hd : (x == ("__debug__" : Str)) = false := by decide)
    (hcd : (x == ("__classdict__" : Str)) = false := by decide) (hs : PlainIx i := by exact fun _ _ => rfl) : DE X (drC X.K) (.Subscript (.Name x xp) i pos) (mStIx j mi) := PE.imp (pe_ix ix_list (pe_var hN hv hd hcd) hi hs) fun σ H Q ⟨w, env, g, d, g', R, e, k⟩ => by
  obtain ⟨i, g1, e1, e⟩ := bD_some e
  split at e
  · rename_i _ i ej
    have sj := R.stA ej
    refine ⟨_, sj, w, env, g, _, g1, R, e1, fun u I2 H2 s2 R2 p2 => ?_⟩
    cases p2
    have sj2 := R2.stA ej
    rw [sj] at sj2
    have eg : g.s = g1.s := by injection sj2 with z; injection z with z; injection z
    by_cases h0 : i = 0
    · rw [if_pos h0] at e
      cases e
      subst h0
      exact ⟨_, _, 0, _, rfl, rfl, by rw [eg]; exact SqL.of R2.gok.1, rfl, k _ I2 H2 s2 R2 (.int _)⟩
    · rw [if_neg h0] at e
      by_cases h1 : i = 1
      · rw [if_pos h1] at e
        cases e
        subst h1
        exact ⟨_, _, 1, _, rfl, rfl, by rw [eg]; exact SqL.of R2.gok.1, rfl, k _ I2 H2 s2 R2 (.int _)⟩
      · rw [if_neg h1] at e
        cases e
  · cases e
/-- state[i] = e -/
def mStSet (j : Nat) (mi me : ME Dc) : MS Dc := fun env g => bD (me env g) fun d g1 => bD (mi env g1) fun i g2 => match env.at j, i, d with
  | .st, .int i, .int v => if i = 0 then some (.nx, env, { g2 with a := v }) else if i = 1 then some (.nx, env, { g2 with b := v }) else none
  | _, _, _ => none
theorem ts_stSet {j : Nat} {D : Ends} (h : tS K (drC K) (mStSet j mi me) D σ H) : tAsg (tE K (drC K) me) (gSub (tVar j) (tE K (drC K) mi) rSetL) D σ H := by
  obtain ⟨w, env, g, c, env', g', R, e, k⟩ := h
  obtain ⟨d, g1, e1, e⟩ := bD_some e
  obtain ⟨i, g2, e2, e⟩ := bD_some e
  cases ej : env.at j with
  | st =>
    rw [ej] at e
    cases i with
    | int i =>
      cases d with
      | int v =>
        refine ⟨w, env, g, _, g1, R, e1, fun u I1 H1 s1 R1 p1 => ?_⟩
        cases p1
        have sj := R1.stA ej
        refine ⟨_, sj, w.im I1, env, g1, _, g2, R1, e2, fun u I2 H2 s2 R2 p2 => ?_⟩
        cases p2
        have sj2 := R2.stA ej
        rw [sj] at sj2
        have eg : g1.s = g2.s := by injection sj2 with z; injection z with z; injection z
        have e : (if i = 0 then some (Ct.nx, env, { g2 with a := v }) else if i = 1 then some (Ct.nx, env, { g2 with b := v }) else none) = some (c, env', g') := e
        by_cases h0 : i = 0
        · rw [if_pos h0] at e
          cases e
          subst h0
          refine ⟨_, _, 0, 0, rfl, rfl, by rw [eg]; exact R2.gok.1, rfl, ?_⟩
          rw [eg]
          exact k σ I2 _ (s1.trans s2) (drC_set R2)
        · rw [if_neg h0] at e
          by_cases h1 : i = 1
          · rw [if_pos h1] at e
            cases e
            subst h1
            refine ⟨_, _, 1, 1, rfl, rfl, by rw [eg]; exact R2.gok.1, rfl, ?_⟩
            rw [eg]
            exact k σ I2 _ (s1.trans s2) (drC_set R2)
          · rw [if_neg h1] at e
            cases e
      | _ => cases e
    | _ => cases e
  | _ => rw [ej] at e; cases e
theorem ds_stSet (j : Nat) {x : Str} {xp sp : Pos} {i : Expr} {mi : ME Dc} (hi : DE X (drC X.K) i mi) (he : DE X (drC X.K) e me) (hN : X.N[j]? = some x := by rfl) (hv : Vis X.env.scope x := by first | exact Or.inl rfl | exact Or.inr (Or.inl rfl) | exact Or.inr (Or.inr rfl)) (hd : (x == ("__debug__" : Str)) = false := by decide)
    (hcd : (x == ("__classdict__" : Str)) = false := by decide)
    (ha : ∀ v, assign (.Subscript (.Name x xp) i sp) X.env v = (do
      let ov ← holding [v] (eval (.Name x xp) X.env)
      let iv ← holding [v, ov] (eval i X.env)
      standAt sp
      holding [v, ov, iv] (setItem ov iv v)
      release [v, ov, iv] []) := by intro _; rfl)
    (hs : swapsWithSole [.Subscript (.Name x xp) i sp] e pos.line X.env = pure false := by rfl) (hw : swappedStores [.Subscript (.Name x xp) i sp] e X.env = pure none := by rfl)
    (h1 : (assignEach [.Subscript (.Name x xp) i sp] X.env).map (·.2) = [assign (.Subscript (.Name x xp) i sp) X.env] := by rfl) :
    DS X (drC X.K) (.Assign [.Subscript (.Name x xp) i sp] e pos) (mStSet j mi me) := PS.imp (ps_asg he (pg_sub (pe_var hN hv hd hcd) hi set_list ha) hs hw h1) fun _ _ _ h => ts_stSet h
/-- script[i], len(script) -/
def mRawIx (j : Nat) (mi : ME Dc) : ME Dc := fun env g => bD (mi env g) fun i g1 => match env.at j, i with
  | .raw (.ref p), .int i => if p = g1.c then (atI g1.ns i).map fun v => (.int v, g1) else none
  | _, _ => none
theorem Rel.rawA {j : Nat} {v : V} (R : Rel K (drC K) w env g σ H) (e : env.at j = .raw v) : σ[j]? = some (some v) := by
  have q := R.slot j
  rw [e] at q
  exact q
theorem atI_map {ns : List Int} {i v : Int} (h : atI ns i = some v) : atI (ns.map V.int) i = some (.int v) := by
  unfold atI at h ⊢
  rw [List.length_map]
  obtain ⟨j, h1, h2⟩ := Option.bind_eq_some_iff.mp h
  rw [h1]
  show (ns.map V.int)[j]? = _
  rw [List.getElem?_map, h2]
  rfl
theorem de_rawIx (j : Nat) {x : Str} {xp : Pos} {i : Expr} {mi : ME Dc} (hi : DE X (drC X.K) i mi) (hN : X.N[j]? = some x := by rfl) (hv : Vis X.env.scope x := by first | exact Or.inl rfl | exact Or.inr (Or.inl rfl) | exact Or.inr (Or.inr rfl)) (hd : (x == ("__debug__" : Str)) = false := by decide)
    (hcd : (x == ("__classdict__" : Str)) = false := by decide) (hs : PlainIx i := by exact fun _ _ => rfl) : DE X (drC X.K) (.Subscript (.Name x xp) i pos) (mRawIx j mi) := PE.imp (pe_ix ix_list (pe_var hN hv hd hcd) hi hs) fun σ H Q ⟨w, env, g, d, g', R, e, k⟩ => by
  obtain ⟨i, g1, e1, e⟩ := bD_some e
  split at e
  · rename_i _ p i ej
    split at e
    · rename_i hp
      obtain ⟨v, e3, e⟩ := Option.map_eq_some_iff.mp e
      cases e
      refine ⟨_, R.rawA ej, w, env, g, _, g', R, e1, fun u I2 H2 s2 R2 p2 => ?_⟩
      cases p2
      exact ⟨p, _, i, _, rfl, rfl, by rw [hp]; exact ScrOk.sq R2.gok.2.2, atI_map e3, k _ I2 H2 s2 R2 (.int _)⟩
    · cases e
  · cases e
def mRawLen (j : Nat) : ME Dc := fun env g => match env.at j with
  | .raw (.ref p) => if p = g.c then some (.int g.ns.length, g) else none
  | _ => none
theorem de_rawLen (j : Nat) {x : Str} {xp p : Pos} (hg : Gl X "len") (hm : X.mg "len" = none) (hN : X.N[j]? = some x := by rfl) (hv : Vis X.env.scope x := by first | exact Or.inl rfl | exact Or.inr (Or.inl rfl) | exact Or.inr (Or.inr rfl)) (hd : (x == ("__debug__" : Str)) = false := by decide)
    (hcd : (x == ("__classdict__" : Str)) = false := by decide) (hs : starEach [.Name x xp] X.env = (false, eval (.Name x xp) X.env) :: starEach [] X.env := by rfl) (hpl : (backTo pos (starEach [] X.env)).any (·.1) = false := by rfl) :
    DE X (drC X.K) (.Call (.Name "len" p) [.Name x xp] [] pos) (mRawLen j) := PE.imp (pe_callB call_len_seq hg hm PySem.boot_len (pa_cons (pe_var hN hv hd hcd) pa_nil hs)) fun σ H Q ⟨w, env, g, d, g', R, e, k⟩ => by
  unfold mRawLen at e
  split at e
  · rename_i p ej
    split at e
    · rename_i hp
      cases e
      refine ⟨_, R.rawA ej, ?_⟩
      refine ⟨p, _, rfl, .inl (by rw [hp]; exact ScrOk.sq R.gok.2.2), ?_⟩
      rw [List.length_map]
      exact k _ w.I H (Same.refl _) R (.int _)
    · cases e
  · cases e
end
end Pd

/-! Pd: a law whose frame knows that no text is being made of anything (for repr of data). -/
namespace Pd
open PySem PySem.Spec L2
/-- a def's run in one surrounding that is known -/
theorem run_at {CX : CXT} {P : Program} {wd : World} {K : PySem.W.Frag} {mg : Str → Option Value} {base : Heap} {k : Nat} {f : Addr} {nm qual : Str} {pars : Arguments} {bd : List Stmt} {sc : Scope} {dV kV doc pm cdv ct oc : Value} {an od : Option Addr}
    {osl : Array (Option Value)} {N ps : List Str} (lk : K.lookup f = some ⟨oc, od, .func (PySem.W.fnOf nm qual pars bd sc dV kV doc pm an cdv ct), osl⟩) (hc : PySem.W.codeIn K cdv qual = true) (Sc : FnScope N ps sc)
    {A : Around} {fr : List PySem.Env} {s0 : Shared} {H0 : Hp} {args : Args} {us : List Value} {vs : List V} {Q : VK} {E : XK} (hroom : Room (k + 1) A) (e0 : Env0 P wd K mg base A fr s0 H0)
    (bnd : BindsTo s0 (PySem.W.fnOf nm qual pars bd sc dV kV doc pm an cdv ct) args (ps.zip us)) (rv : Vals vs us) (len : vs.length = ps.length)
    (hb : ∃ t, PSs (cxOf CX P wd K mg base N qual sc f cdv A fr s0 H0 E) bd t ∧ t { nx := fun _ H1 => Q .non H1, rt := Q } (start N vs) H0) :
    codeAny (model P wd) A (.call (.ref f) args) (CR CX fr P wd H0 s0 Q E) s0 := by
  have inK : K.In s0.heap := e0.mod.kin.keeps fun x u q => And.left (e0.bs x u q)
  have noL : s0.heap.NoLimit := e0.mod.nolimit.keeps fun x u q => And.left (e0.bs x u q)
  have kinds : ∀ p ∈ ps.zip us, sc.names.lookup p.1 = some .local ∨ (sc.names.lookup p.1 = some .cell ∧ ((cellsFrom (s0.heap.objs.size + 1) sc.names []).lookup p.1).isSome = true) := by
    rintro ⟨n, v⟩ hp
    cases Sc.par n (List.of_mem_zip hp).1 with
    | inl q => exact .inl q
    | inr q => exact .inr ⟨q, PySem.W.cellsFrom_some _ _ _ (.inl q)⟩
  apply codeAny_call_function hroom.depth (inK _ _ lk) rfl Sc.co Sc.gen rfl (PySem.W.codeRec_of inK hc)
  apply bnd
  apply wpAny_newFunctionEnv_cells Sc.kind kinds
  intro env he s1 x
  subst he
  obtain ⟨t, ht, hq⟩ := hb
  have I : Inv (cxOf CX P wd K mg base N qual sc f cdv A fr s0 H0 E) [] (start N vs) H0 s1 := inv_start Sc hroom.hd e0 len rv x
  have done : ∀ {σ1 : St} {H1 : Hp} {v : V} {u : Value} {s2 : Shared}, Inv (cxOf CX P wd K mg base N qual sc f cdv A fr s0 H0 E) [] σ1 H1 s2 → RelV v u → Q v H1 → CE fr P wd H0 s0 Q u s2 := by
    intro σ1 H1 v u s2 J rw_ q
    exact ⟨v, H1, J.os, J.bare, J.base, J.hok, rw_, q⟩
  refine ⟨noL.keeps x.toInCall.keep, codeAny_func (wpAny_mono (ht.run [] s1 (start N vs) H0 _ I hq) ?_ fun _ _ z => z)⟩
  intro fl s2 z
  cases fl with
  | brk => obtain ⟨_, _, _, q⟩ := z; exact q.elim
  | cont => obtain ⟨_, _, _, q⟩ := z; exact q.elim
  | next => obtain ⟨_, _, J, q⟩ := z; exact done (v := V.non) (u := Value.none) J rfl q
  | ret u => obtain ⟨_, _, _, J, r1, q⟩ := z; exact done J r1 q
/-- what a heap must be at the law's call: it knows of the script at most -/
structure Bare1 (P : Program) (wd : World) (K : PySem.W.Frag) (a : Addr) (ns : List Int) (h : Heap) (H : Hp) : Prop where
  one : ∀ x u, H x = some u → x = a ∧ K.lookup a = none ∧ ∃ o xs, u = .frz o (.lst xs)
  scr : SqL K H a (ns.map V.int)
  ok : HOk P wd H h
theorem Bare1.free {P : Program} {wd : World} {K : PySem.W.Frag} {a x : Addr} {ns : List Int} {h : Heap} {H : Hp} (B : Bare1 P wd K a ns h H) (hx : x = a → K.lookup a ≠ none) : H x = none := by
  cases q : H x with
  | none => rfl
  | some u => exact absurd (B.one x u q).2.1 (hx (B.one x u q).1)
/-- the two heaps: the script is an object of the text, or one that the heap knows -/
theorem bare_ex {P : Program} {wd : World} {K : PySem.W.Frag} {a : Addr} {vs : List Value} {ns : List Int} {h : Heap} (KX : K.In h) (ho : h.get? a = some { cls := .type "list", data := .seq vs.toArray }) (hi : PyProof.Rows.IntsAre vs ns) (hl : ns.length ≤ sizeLine) : ∃ H, Bare1 P wd K a ns h H := by
  have ev := vals_ints hi
  have el := hi.length
  cases hk : K.lookup a with
  | some o =>
    have e : h.get? a = some o := KX a o hk
    cases ho.symm.trans e
    refine ⟨fun _ => none, ⟨fun x u z => (nomatch (show (none : Option HO) = some u from z)), .inr ⟨_, vs.toArray, _, hk, rfl, rfl, rfl, ?_, ?_⟩, fun x u z => (nomatch (show (none : Option HO) = some u from z))⟩⟩
    · rw [List.size_toArray]; omega
    · simpa using ev
  | none =>
    refine ⟨fun x => if x = a then some (.frz { cls := .type "list", data := .seq vs.toArray } (.lst (ns.map V.int))) else none, ⟨fun x u z => ?_, .inl (.inr ⟨_, if_pos rfl⟩), fun x u z => ?_⟩⟩
    · split at z
      · rename_i q; cases z; exact ⟨q, hk, _, _, rfl⟩
      · cases z
    · split at z
      · rename_i q
        cases z
        subst q
        exact ⟨ho, by rw [List.length_map]; exact hl, vs, _, ev, ho⟩
      · cases z
theorem law_at {P : Program} {wd : World} {K : PySem.W.Frag} {mg mb : Str → Option Value} {fa a : Addr} {s1 : Shared} {vs : List Value} {ns : List Int}
    (KX : K.In s1.heap) (hns : s1.heap.Ns mainGlobals mg) (hb : s1.heap.Ns builtinsNs mb) (hbb : ∀ x : Str, x ≠ "__name__" → mb x = bootBuiltins x) (hlim : s1.heap.NoLimit) (hg : s1.gens = #[])
    (ho : s1.heap.get? a = some { cls := .type "list", data := .seq vs.toArray }) (hi : PyProof.Rows.IntsAre vs ns) (hl : ns.length ≤ sizeLine)
    (run : ∀ (base : Heap) (H : Hp), SqL K H a (ns.map V.int) → Env0 P wd K mg base callerA [] s1 H → codeAny (model P wd) callerA (.call (.ref fa) ⟨[.ref a], []⟩) (CR CX0 [] P wd H s1 (fun v _ => v = .bl true) fun _ _ _ => False) s1) :
    codeAny (model P wd) callerA (.call (.ref fa) ⟨[.ref a], []⟩) (fun r s' => r = .ok (.ret (.bool true)) ∧ OldK s1.heap s'.heap ∧ s'.os = s1.os ∧ PyProof.Rows.AllBare s'.gens) s1 := by
  obtain ⟨H, B⟩ := bare_ex (P := P) (wd := wd) KX ho hi hl
  have keepD : ∀ {x : Addr} {o : Obj} {es : Array DictEntry} {ep : Nat}, s1.heap.get? x = some o → o.data = .dict es ep → (hidT s1.heap H).get? x = some o := by
    intro x o es ep e d
    refine hidT_get e ?_
    cases q : H x with
    | none => rfl
    | some u =>
      obtain ⟨rfl, _⟩ := B.one x u q
      rw [ho] at e
      cases e
      exact nomatch (show Data.seq vs.toArray _ = Data.dict es ep from d)
  have keepN : ∀ {x : Addr} {m : Str → Option Value}, s1.heap.Ns x m → (hidT s1.heap H).Ns x m := by
    rintro x m ⟨o, es, ep, e, d, r⟩
    exact ⟨o, es, ep, keepD e d, d, r⟩
  have inB : K.In (hidT s1.heap H) := by
    intro x o e
    refine hidT_get (KX x o e) (B.free fun z => ?_)
    subst z
    rw [e]
    exact fun z => nomatch z
  obtain ⟨mc, l1, l2⟩ := hlim
  have M : Mod K mg (hidT s1.heap H) := ⟨inB, keepN hns, ⟨mb, keepN hb, hbb⟩, ⟨mc, keepN l1, l2⟩⟩
  have nil_ : ∀ {x : Addr}, x ∉ ([] : List Addr) := by simp
  have e0 : Env0 P wd K mg (hidT s1.heap H) callerA [] s1 H := {
    frames := rfl
    mod := M
    bs := fun x o e => of_hidT e
    bsz := Nat.le_of_eq (hidT_size _ _)
    funs := trivial
    frf := fun x z => absurd z nil_
    hok := B.ok
    bare := .of_eq hg }
  refine codeAny_mono (run _ H B.scr e0) ?_
  rintro (e | fl) s2 z
  · exact (show False from z).elim
  · cases fl with
    | next => exact z.elim
    | brk => exact z.elim
    | cont => exact z.elim
    | ret u =>
      obtain ⟨v, H2, os, bare, un, ok2, r2, q⟩ := z
      have q : v = V.bl true := q
      subst q
      have eu : u = Value.bool true := r2
      subst eu
      refine ⟨rfl, OldK.of_keep fun x o e => ?_, os, bare⟩
      cases q : H x with
      | none => exact un.keep x o e q (fun z => nil_ z) (by simp)
      | some u =>
        obtain ⟨_, _, ob, xs, rfl⟩ := B.one x u q
        have f2 := un.frzs x ob _ q
        obtain ⟨w1, _⟩ := B.ok x _ q
        obtain ⟨w2, _⟩ := ok2 x _ f2
        rw [w1] at e
        cases e
        exact w2
/-- a row from the law's run where nothing is being shown -/
theorem walk_at {l : PySem.W.OpenLaw} {n : Nat} {q : Program} {loose : List Str} {XP : (Str → Option Value) → Heap → Prop} {YP : World → Heap → Prop} {d : DefRec} {K : Params → PySem.W.Frag}
    (hn : l.most = some n) (hn2 : n ≤ sizeLine) (hdf : d.params.defaults = []) (hY : ∀ (w : World) (h : Heap), YP w h → (K w.params).In h)
    (F : ∀ (w : World) (mg : Str → Option Value) (fa : Addr) (h : Heap), (K w.params).In h → h.Ns mainGlobals mg → mg d.name = some (.ref fa) →
      ∀ (base : Heap) (H : Hp) (s1 : Shared) (a : Addr) (ns : List Int), ns.length ≤ n → SqL (K w.params) H a (ns.map V.int) → Env0 l.prog w (K w.params) mg base callerA [] s1 H →
        codeAny (model l.prog w) callerA (.call (.ref fa) ⟨[.ref a], []⟩) (CR CX0 [] l.prog w H s1 (fun v _ => v = .bl true) fun _ _ _ => False) s1) :
    PySem.W.WalkO q loose XP YP l.row.toRowW d [] (fun f vs => PySem.call f vs) := by
  apply Att.attach_call hn hdf
  intro w s0 s1 mg mb fa o pm cd doc a vs ns G Y _ _ _ hmg hobj hi hlen hg
  have inK := hY w _ Y
  exact law_at inK G.T.g G.T.b G.T.builtins G.T.nolimit hg hobj hi (Nat.le_trans hlen hn2) fun base H hS e0 => F w mg fa _ inK G.T.g hmg base H s1 a ns hlen hS e0
end Pd

/-! Pd: repr of data; the law's start with draws of the kind C. -/
namespace Pd
open PySem PySem.Spec L2
/-! ### the signs of what repr tells -/
def Cps (x : Str) : Prop := ∀ c ∈ x.cps.toList, c < 0x110000
theorem cps_iff {x : Str} : PyData.canLay0 (.str x) = true ↔ Cps x := by
  simp only [PyData.canLay0]
  unfold PyData.strOk Cps
  rw [← Array.all_toList, List.all_eq_true]
  simp only [decide_eq_true_eq]
theorem cps_of (s : String) : Cps (Str.ofString s) := by
  intro c hc
  rw [Str.ofString_eq_toList] at hc
  obtain ⟨k, _, rfl⟩ := List.mem_map.mp (show c ∈ s.toList.map Char.toNat from hc)
  have := k.valid
  rcases this with h | h
  · exact Nat.lt_trans h (by decide)
  · exact h.2
theorem cps_app {x y : Str} (hx : Cps x) (hy : Cps y) : Cps (x ++ y) := by
  intro c hc
  have hc : c ∈ (x.cps ++ y.cps).toList := hc
  rw [Array.toList_append] at hc
  rcases List.mem_append.mp hc with h | h
  · exact hx c h
  · exact hy c h
theorem cps_from : ∀ (ts : List Str) (k : Nat) (acc : Str), Cps acc → (∀ t ∈ ts, Cps t) → Cps (textFrom k acc ts)
  | [], _, _, h, _ => h
  | t :: ts, k, acc, h, ht => cps_from ts (k + 1) _ (cps_app (cps_app h (cps_of _)) (ht t (List.mem_cons_self ..))) fun u hu => ht u (List.mem_cons_of_mem _ hu)
theorem cps_list {ts : List Str} (ht : ∀ t ∈ ts, Cps t) : Cps (listText ts) := cps_app (cps_from ts 0 _ (cps_of _) ht) (cps_of _)
theorem cps_join : ∀ {ts : List Str}, (∀ t ∈ ts, Cps t) → Cps (Str.join ", " ts)
  | [], _ => cps_of ""
  | [x], h => h x (List.mem_singleton_self _)
  | x :: y :: r, h => by
    show Cps (x ++ ", " ++ Str.join ", " (y :: r))
    exact cps_app (cps_app (h x (List.mem_cons_self ..)) (cps_of _)) (cps_join fun t ht => h t (List.mem_cons_of_mem _ ht))
theorem cps_tuple {ts : List Str} (ht : ∀ t ∈ ts, Cps t) : Cps (tupleText ts) := cps_app (cps_app (cps_of _) (cps_join ht)) (cps_of _)
theorem cps_char {q c : Nat} (hq : q < 0x110000) (hc : c < 0x110000) : ∀ z ∈ Builtin.Str.reprChar q c, z < 0x110000 := by
  have hex : ∀ wd z : Nat, z ∈ List.replicate (wd - ((Nat.toDigits 16 c).map Char.toNat).length) 48 ++ (Nat.toDigits 16 c).map Char.toNat → z < 0x110000 := by
    intro wd z hz
    rcases List.mem_append.mp hz with h | h
    · rw [(List.mem_replicate.mp h).2]; decide
    · obtain ⟨k, _, rfl⟩ := List.mem_map.mp h
      rcases k.valid with h | h
      · exact Nat.lt_trans h (by decide)
      · exact h.2
  intro z hz
  unfold Builtin.Str.reprChar at hz
  simp only at hz
  split at hz
  · simp only [List.mem_cons, List.not_mem_nil, or_false] at hz; rcases hz with rfl | rfl <;> omega
  · split at hz
    · simp only [List.mem_cons, List.not_mem_nil, or_false] at hz; omega
    · split at hz
      · simp only [List.mem_cons, List.not_mem_nil, or_false] at hz; omega
      · split at hz
        · simp only [List.mem_cons, List.not_mem_nil, or_false] at hz; omega
        · split at hz
          · simp only [List.mem_cons, List.not_mem_nil, or_false] at hz; omega
          · split at hz
            · rcases List.mem_append.mp hz with h | h
              · simp only [List.mem_cons, List.not_mem_nil, or_false] at h; omega
              · exact hex _ z h
            · split at hz
              · rcases List.mem_append.mp hz with h | h
                · simp only [List.mem_cons, List.not_mem_nil, or_false] at h; omega
                · exact hex _ z h
              · rcases List.mem_append.mp hz with h | h
                · simp only [List.mem_cons, List.not_mem_nil, or_false] at h; omega
                · exact hex _ z h
theorem cps_fold {q : Nat} (hq : q < 0x110000) : ∀ (l : List Nat) (acc : Array Nat), (∀ c ∈ l, c < 0x110000) → (∀ c ∈ acc.toList, c < 0x110000) → ∀ c ∈ (l.foldl (fun out c => out ++ (Builtin.Str.reprChar q c).toArray) acc).toList, c < 0x110000
  | [], _, _, h => h
  | x :: l, acc, hl, h => cps_fold hq l _ (fun c hc => hl c (List.mem_cons_of_mem _ hc)) fun c hc => by
    rw [Array.toList_append] at hc
    rcases List.mem_append.mp hc with z | z
    · exact h c z
    · exact cps_char hq (hl x (List.mem_cons_self ..)) c z
theorem cps_repr {x : Str} (h : Cps x) : Cps (reprText x) := by
  have hq : reprQuote x < 0x110000 := by unfold reprQuote; split <;> decide
  intro c hc
  unfold reprText at hc
  have hc : c ∈ ((x.cps.foldl (fun out c => out ++ (Builtin.Str.reprChar (reprQuote x) c).toArray) #[reprQuote x]).push (reprQuote x)).toList := hc
  rw [Array.toList_push] at hc
  rcases List.mem_append.mp hc with z | z
  · rw [← Array.foldl_toList] at z
    exact cps_fold hq x.cps.toList _ h (fun c hc => by rw [List.mem_singleton.mp hc]; exact hq) c z
  · rw [List.mem_singleton.mp z]; exact hq
mutual
theorem cps_shown : ∀ d : D, d.canLay0 = true → Cps d.shown
  | .none, _ => by simp only [PyData.shown]; exact cps_of _
  | .bool b, _ => by simp only [PyData.shown]; cases b <;> exact cps_of _
  | .int i, _ => by simp only [PyData.shown]; exact cps_of _
  | .str x, h => by simp only [PyData.shown]; exact cps_repr (cps_iff.mp h)
  | .list xs, h => by simp only [PyData.shown]; exact cps_list (cps_shownA xs (by simpa only [PyData.canLay0] using h))
  | .tuple xs, h => by simp only [PyData.shown]; exact cps_tuple (cps_shownA xs (by simpa only [PyData.canLay0] using h))
  | .dict _, h => by simp [PyData.canLay0] at h
theorem cps_shownA : ∀ ds : List D, PyData.canLayAll0 ds = true → ∀ t ∈ PyData.shownAll ds, Cps t
  | [], _, t, ht => by simp only [PyData.shownAll] at ht; exact nomatch ht
  | d :: ds, h, t, ht => by
    simp only [PyData.canLayAll0, Bool.and_eq_true] at h
    simp only [PyData.shownAll] at ht
    rcases List.mem_cons.mp ht with rfl | z
    · exact cps_shown d h.1
    · exact cps_shownA ds h.2 t z
end
/-- what may be shown -/
def showOk (d : D) : Bool := PyData.layable0 d && (PyData.showable d && PyData.intsShort 13 d)
theorem sok_shown {d : D} (h : showOk d = true) : SOk d.shown := by
  unfold showOk at h
  rw [Bool.and_eq_true, Bool.and_eq_true] at h
  refine ⟨PyData.shown_fits_of_layable0 (B := 13) (by decide) (by decide) h.1 h.2.2, cps_iff.mpr (cps_shown d ?_)⟩
  have := h.1
  unfold PyData.layable0 at this
  rw [Bool.and_eq_true, Bool.and_eq_true] at this
  exact this.1.1
section
variable {X : Cx} {K : PySem.W.Frag}
def rRepr (K : PySem.W.Frag) : List V → Hp → VK → Prop := fun vs H Q => ∃ x d, vs = [x] ∧ Dp K H x d ∧ showOk d = true ∧ Q (.str d.shown) H
theorem cr_repr (hG : X.A.guards = some []) (hu : X.A.units + 65 < cLine) : CallR X (.builtin "repr") (rRepr X.K) := by
  intro pins s σ H xs us Q I r h
  obtain ⟨x, d, rfl, hd, hs, q⟩ := h
  obtain ⟨u, rfl, ru⟩ := vals1 r
  obtain ⟨as, rd⟩ := Dp.reads I d x u hd ru
  have hs0 := hs
  unfold showOk at hs
  rw [Bool.and_eq_true, Bool.and_eq_true] at hs
  have hz : d.shown.length ≤ sizeLine := (sok_shown hs0).1
  have hdep : d.depth ≤ 64 := PyData.depth_le_of_layable hs.1
  have leaf : ∀ (tk : Tok), Q (.str d.shown) H → EP X pins σ Q (.str d.shown s.toks) { s with toks := s.toks + 1 } := fun _ q => ⟨.str _, H, I.tok _, ⟨_, rfl⟩, q⟩
  have ref : ∀ a : Addr, u = .ref a → wpAny (model X.prog X.w) X.A (call (.builtin "repr") [u]) (EP X pins σ Q) X.xe s := by
    rintro a rfl
    refine repr_of_reads' rd hs.2.1 (PyData.noDict_hsm (PyData.hasDict_of_canLay d ?_)) hG (by omega) (fun _ _ e => e) (fun h' u' tk k => ?_) hz
    · have := hs.1
      unfold PyData.layable0 at this
      rw [Bool.and_eq_true, Bool.and_eq_true] at this
      exact this.1.1
    · have I2 : Inv X pins σ H { s with heap := h', toks := s.toks } := I.kept fun b o e => k b o e
      exact ⟨.str _, H, I2.tok _, ⟨_, rfl⟩, q⟩
  cases hd with
  | non =>
    cases ru
    have e : (PyData.none).shown = ("None" : Str) := PyData.shown_none
    rw [e] at q
    exact PySem.P.repr_of_none ⟨.str _, H, I.tok _, ⟨_, rfl⟩, q⟩
  | bl b =>
    cases ru
    rw [PyData.shown_bool] at q
    exact PySem.P.repr_of_bool ⟨.str _, H, I.tok _, ⟨_, rfl⟩, q⟩
  | int i =>
    obtain ⟨t, rfl⟩ := ru
    rw [PyData.shown_int] at q
    have hl : i.natAbs.log2 < 1920 := by simpa only [PyData.showable, decide_eq_true_eq] using hs.2.1
    exact PySem.P.repr_of_int hl ⟨.str _, H, I.tok _, ⟨_, rfl⟩, q⟩
  | str y =>
    obtain ⟨t, rfl⟩ := ru
    rw [PyData.shown_str] at q hz
    exact PySem.P.repr_of_str ⟨.str _, H, I.tok _, ⟨_, rfl⟩, q⟩ hz
  | lst _ _ => exact ref _ ru
  | tup _ _ => exact ref _ ru
def dRepr : List D → Option D
  | [d] => if showOk d = true then some (.str d.shown) else none
  | _ => none
theorem cd_repr : CallD K (rRepr K) dRepr := by
  intro I H xs ds zs s p hz Q k
  cases p with
  | nil => cases hz
  | cons a b =>
    cases b with
    | nil =>
      have hz : (if _ then _ else none) = some zs := hz
      split at hz
      · rename_i hc
        cases hz
        exact ⟨_, _, rfl, (a.mono s).dp, hc, k _ I H (Pst.refl s) (.str (sok_shown hc))⟩
      · cases hz
    | cons _ _ => cases hz
end
/-! ### the law's start -/
def lawEC (N i : Nat) (c : Addr) : Env := ((List.replicate N SV.un).set 0 (.raw (.ref c))).set i .st
theorem law_startC {K : PySem.W.Frag} {N i : Nat} {m : MS Dc} {σ : St} {H : Hp} {g : Dc} {D : Ends} (hl : σ.length = N) (h0 : σ[0]? = some (some (.ref g.c))) (hi : σ[i]? = some (some (.ref g.s))) (ok : (drC K).ok g H) (hm : ∃ e g', m (lawEC N i g.c) g = some (.re (.bool true), e, g')) (k : ∀ H', D.rt (.bl true) H') :
    tS K (drC K) m D σ H := by
  obtain ⟨e, g', hm⟩ := hm
  refine ⟨⟨fun _ => none, fun _ => none, fun _ => none, (drC K).fp g, .ref g.s⟩, lawEC N i g.c, g, .re (.bool true), e, g', ?_, hm, fun v σ' I' H' s' R' p => by cases p; exact k H'⟩
  have at_ : ∀ k, (lawEC N i g.c).at k = .un ∨ (k = i ∧ (lawEC N i g.c).at k = .st) ∨ (k = 0 ∧ (lawEC N i g.c).at k = .raw (.ref g.c)) := fun k => by
    unfold lawEC
    rw [at_set]
    by_cases z : k = i ∧ i < ((List.replicate N SV.un).set 0 (.raw (.ref g.c))).length
    · rw [if_pos z]; exact .inr (.inl ⟨z.1, rfl⟩)
    · rw [if_neg z, at_set]
      by_cases z0 : k = 0 ∧ 0 < (List.replicate N SV.un).length
      · rw [if_pos z0]; exact .inr (.inr ⟨z0.1, rfl⟩)
      · rw [if_neg z0]
        refine .inl ?_
        show (List.replicate N SV.un).getD k .un = .un
        rw [List.getD_eq_getElem?_getD, List.getElem?_replicate]
        split <;> rfl
  exact {
    e0 := fun _ _ z => nomatch z
    eI := fun _ _ z => nomatch z
    ag := fun _ _ z => nomatch z
    ge := Same.refl _
    gfp := fun _ => Iff.rfl
    grt := rfl
    gok := ok
    fI := fun _ _ => rfl
    f0 := fun _ _ => rfl
    len := by unfold lawEC; rw [List.length_set, List.length_set, List.length_replicate]; exact hl
    slot := fun k => by
      rcases at_ k with e | ⟨rfl, e⟩ | ⟨rfl, e⟩
      · rw [e]; trivial
      · rw [e]; exact hi
      · rw [e]; exact h0
    dis := fun k j p ds es _ e1 => by
      rcases at_ k with e | ⟨_, e⟩ | ⟨_, e⟩ <;> rw [e] at e1 <;> cases e1 }
/-- the state at the law's start -/
theorem drC_new {K : PySem.W.Frag} {H : Hp} {a q : Addr} {ns : List Int} (hS : SqL K H a (ns.map V.int)) (hq : H q = none) : ∃ g : Dc, g.s = q ∧ g.c = a ∧ g.ns = ns ∧ (drC K).ok g (upd H q (.lst [.int 0, .int 0])) := by
  rcases hS with h | h
  · have ne : q ≠ a := fun z => by subst z; rcases h with h | ⟨o, h⟩ <;> rw [hq] at h <;> cases h
    refine ⟨⟨q, a, true, 0, 0, ns⟩, rfl, rfl, rfl, upd_same, fun _ => ne, ?_⟩
    unfold ScrOk
    rw [if_pos rfl]
    show Rd (upd H q _) a _
    unfold Rd at h ⊢
    rw [upd_ne ne.symm]
    exact h
  · refine ⟨⟨q, a, false, 0, 0, ns⟩, rfl, rfl, rfl, upd_same, (fun z => nomatch z), ?_⟩
    unfold ScrOk
    rw [if_neg (by simp)]
    exact fun H' => .inr h
end Pd

/-! Pd: sorted(set(..)) of numbers, of tuples of numbers. -/
namespace Pd
open PySem PySem.Spec L2
/-! ### the sorted list without doubles, by a key -/
def insK {α : Type} (key : α → Int) (x : α) : List α → List α
  | [] => [x]
  | y :: ys => if key x < key y then x :: y :: ys else if key x = key y then y :: ys else y :: insK key x ys
def sortK {α : Type} (key : α → Int) : List α → List α
  | [] => []
  | x :: xs => insK key x (sortK key xs)
section
variable {α : Type} {key : α → Int}
theorem insK_mem {x z : α} : ∀ {l : List α}, z ∈ insK key x l → z = x ∨ z ∈ l
  | [], h => .inl (List.mem_singleton.mp h)
  | y :: ys, h => by
    unfold insK at h
    split at h
    · exact List.mem_cons.mp h
    · split at h
      · exact .inr h
      · rcases List.mem_cons.mp h with e | e
        · exact .inr (by rw [e]; exact List.mem_cons_self ..)
        · rcases insK_mem e with e | e
          · exact .inl e
          · exact .inr (List.mem_cons_of_mem _ e)
theorem insK_old {x z : α} : ∀ {l : List α}, z ∈ l → z ∈ insK key x l
  | y :: ys, h => by
    unfold insK
    split
    · exact List.mem_cons_of_mem _ h
    · split
      · exact h
      · rcases List.mem_cons.mp h with e | e
        · rw [e]; exact List.mem_cons_self ..
        · exact List.mem_cons_of_mem _ (insK_old e)
theorem insK_new {x : α} : ∀ {l : List α}, ∃ z ∈ insK key x l, key z = key x
  | [] => ⟨x, List.mem_singleton_self _, rfl⟩
  | y :: ys => by
    unfold insK
    split
    · exact ⟨x, List.mem_cons_self .., rfl⟩
    · split
      · rename_i h; exact ⟨y, List.mem_cons_self .., h.symm⟩
      · obtain ⟨z, h1, h2⟩ := insK_new (x := x) (l := ys)
        exact ⟨z, List.mem_cons_of_mem _ h1, h2⟩
theorem sortK_mem : ∀ {l : List α} {z : α}, z ∈ sortK key l → z ∈ l
  | x :: xs, z, h => by
    rcases insK_mem h with e | e
    · rw [e]; exact List.mem_cons_self ..
    · exact List.mem_cons_of_mem _ (sortK_mem e)
theorem sortK_has : ∀ {l : List α} {z : α}, z ∈ l → ∃ y ∈ sortK key l, key y = key z
  | x :: xs, z, h => by
    rcases List.mem_cons.mp h with e | e
    · rw [e]; exact insK_new
    · obtain ⟨y, h1, h2⟩ := sortK_has e
      exact ⟨y, insK_old h1, h2⟩
theorem insK_srt {x : α} : ∀ {l : List α}, l.Pairwise (fun a b => key a < key b) → (insK key x l).Pairwise fun a b => key a < key b
  | [], _ => List.pairwise_singleton _ _
  | y :: ys, h => by
    have h' := List.pairwise_cons.mp h
    unfold insK
    split
    · rename_i hxy
      refine List.pairwise_cons.mpr ⟨fun z hz => ?_, h⟩
      rcases List.mem_cons.mp hz with e | e
      · rw [e]; exact hxy
      · exact Int.lt_trans hxy (h'.1 z e)
    · split
      · exact h
      · rename_i h1 h2
        refine List.pairwise_cons.mpr ⟨fun z hz => ?_, insK_srt h'.2⟩
        rcases insK_mem hz with e | e
        · rw [e]; omega
        · exact h'.1 z e
theorem sortK_srt : ∀ l : List α, (sortK key l).Pairwise fun a b => key a < key b
  | [] => List.Pairwise.nil
  | x :: xs => insK_srt (sortK_srt xs)
theorem insK_len {x : α} : ∀ {l : List α}, (insK key x l).length ≤ l.length + 1
  | [] => Nat.le_refl _
  | y :: ys => by
    unfold insK
    split
    · exact Nat.le_refl _
    · split
      · exact Nat.le_succ _
      · rw [List.length_cons, List.length_cons]
        exact Nat.succ_le_succ insK_len
theorem sortK_len : ∀ l : List α, (sortK key l).length ≤ l.length
  | [] => Nat.le_refl _
  | x :: xs => Nat.le_trans insK_len (Nat.succ_le_succ (sortK_len xs))
/-- two rising lists of the same members are one -/
theorem rise_ext {P : α → Prop} (inj : ∀ a b, P a → P b → key a = key b → a = b) : ∀ {a b : List α}, (∀ x ∈ a, P x) → (∀ x ∈ b, P x) → a.Pairwise (fun x y => key x < key y) → b.Pairwise (fun x y => key x < key y) → (∀ x, x ∈ a ↔ x ∈ b) → a = b
  | [], [], _, _, _, _, _ => rfl
  | [], y :: _, _, _, _, _, h => nomatch (h y).mpr (List.mem_cons_self ..)
  | x :: _, [], _, _, _, _, h => nomatch (h x).mp (List.mem_cons_self ..)
  | x :: a, y :: b, pa, pb, ha, hb, h => by
    have ha' := List.pairwise_cons.mp ha
    have hb' := List.pairwise_cons.mp hb
    have e : x = y := by
      rcases List.mem_cons.mp ((h x).mp (List.mem_cons_self ..)) with e | e
      · exact e
      · rcases List.mem_cons.mp ((h y).mpr (List.mem_cons_self ..)) with e2 | e2
        · exact e2.symm
        · have h1 := hb'.1 x e
          have h2 := ha'.1 y e2
          omega
    subst e
    rw [rise_ext inj (fun z hz => pa z (List.mem_cons_of_mem _ hz)) (fun z hz => pb z (List.mem_cons_of_mem _ hz)) ha'.2 hb'.2 fun z => ⟨fun hz => ?_, fun hz => ?_⟩]
    · rcases List.mem_cons.mp ((h z).mp (List.mem_cons_of_mem _ hz)) with e | e
      · subst e
        have := ha'.1 z hz
        omega
      · exact e
    · rcases List.mem_cons.mp ((h z).mpr (List.mem_cons_of_mem _ hz)) with e | e
      · subst e
        have := hb'.1 z hz
        omega
      · exact e
end
/-- the data: all numbers, or all tuples of d numbers below 64 -/
def tupI : D → Option (List Int)
  | .tuple ds => intsD ds
  | _ => none
def tupsI : List D → Option (List (List Int))
  | [] => some []
  | d :: ds => match tupI d, tupsI ds with
    | some ns, some r => some (ns :: r)
    | _, _ => none
theorem tupsI_some : ∀ {ds : List D} {ks : List (List Int)}, tupsI ds = some ks → ds = ks.map fun ns => .tuple (ns.map .int)
  | [], ks, h => by cases h; rfl
  | d :: ds, ks, h => by
    unfold tupsI at h
    split at h
    · rename_i ns r e1 e2
      cases h
      rw [List.map_cons, ← tupsI_some e2]
      cases d with
      | tuple es => rw [intsD_some (show intsD es = some ns from e1)]
      | _ => cases e1
    · cases h
theorem tupsI_mm : ∀ ks : List (List Int), tupsI (ks.map fun ns => PyData.tuple (ns.map .int)) = some ks
  | [] => rfl
  | ns :: ks => by
    have e : ∀ l : List Int, intsD (l.map PyData.int) = some l := fun l => by
      induction l with
      | nil => rfl
      | cons x l ih => show (intsD (l.map PyData.int)).map (x :: ·) = _; rw [ih]; rfl
    show (match intsD (ns.map PyData.int), tupsI (ks.map fun ns => PyData.tuple (ns.map .int)) with
      | some ns, some r => some (ns :: r)
      | _, _ => none) = _
    rw [e, tupsI_mm ks]
def fitT (d : Nat) (ks : List (List Int)) : Bool := ks.all fun ns => decide (ns.length = d) && ns.all fun m => decide (0 ≤ m) && decide (m < 64)
def widthT : List (List Int) → Nat
  | [] => 1
  | ns :: _ => ns.length
def dSortedSet : List D → Option (List D)
  | [.list ds] => match intsD ds with
    | some ns => if ns.length < 64 then some ((sortK id ns).map .int) else none
    | none => match tupsI ds with
      | some ks => if ks.length < 64 ∧ 1 ≤ widthT ks ∧ fitT (widthT ks) ks = true then some ((sortK (TS.code 64) ks).map fun ns => .tuple (ns.map .int)) else none
      | none => none
  | _ => none
theorem code_eq {B : Int} : ∀ {a b : List Int}, a.length = b.length → TS.Bd B a → TS.Bd B b → TS.code B a = TS.code B b → a = b
  | [], [], _, _, _, _ => rfl
  | [], _ :: _, h, _, _, _ => nomatch h
  | _ :: _, [], h, _, _, _ => nomatch h
  | x :: a, y :: b, h, ha, hb, e => by
    have hl : a.length = b.length := Nat.succ.inj h
    rcases Int.lt_trichotomy x y with z | z | z
    · have := TS.code_lt hl ha.tail hb.tail z
      omega
    · subst z
      have e2 : TS.code B a = TS.code B b := by
        have e : x * B ^ a.length + TS.code B a = x * B ^ b.length + TS.code B b := e
        rw [hl] at e
        omega
      rw [code_eq hl ha.tail hb.tail e2]
    · have := TS.code_lt hl.symm hb.tail ha.tail z
      omega
theorem fitT_of {d : Nat} {ks : List (List Int)} (h : fitT d ks = true) : ∀ ns ∈ ks, ns.length = d ∧ TS.Bd 64 ns := by
  intro ns hn
  have := List.all_eq_true.mp h ns hn
  rw [Bool.and_eq_true, decide_eq_true_eq, List.all_eq_true] at this
  refine ⟨this.1, fun m hm => ?_⟩
  have := this.2 m hm
  rw [Bool.and_eq_true, decide_eq_true_eq, decide_eq_true_eq] at this
  exact this
/-- the tuples' addresses -/
theorem tups_rp {K : PySem.W.Frag} {I : Hp} : ∀ {ks : List (List Int)} {vs : List V}, RpA K I vs (ks.map fun ns => .tuple (ns.map .int)) → ∃ L : List (Addr × List Int), vs = L.map (fun p => V.ref p.1) ∧ L.map (·.2) = ks ∧ ∀ p ∈ L, SqT K I p.1 (p.2.map V.int)
  | [], _, h => by cases h; exact ⟨[], rfl, rfl, fun _ h => nomatch h⟩
  | ns :: ks, _, h => by
    cases h with
    | cons a b =>
      obtain ⟨L, rfl, e2, h⟩ := tups_rp b
      cases a with
      | tup hp ra hz =>
        rename_i ad xs
        have := ra.ints
        subst this
        exact ⟨(ad, ns) :: L, rfl, by rw [List.map_cons, e2], fun p hp' => by
          rcases List.mem_cons.mp hp' with e | e
          · rw [e]; exact hp
          · exact h p e⟩
theorem tups_of {K : PySem.W.Frag} {I : Hp} : ∀ {L : List (Addr × List Int)}, (∀ p ∈ L, SqT K I p.1 (p.2.map V.int) ∧ p.2.length ≤ sizeLine) → RpA K I (L.map fun p => V.ref p.1) ((L.map (·.2)).map fun ns => .tuple (ns.map .int))
  | [], _ => .nil
  | p :: L, h => .cons (.tup (h p (List.mem_cons_self ..)).1 (RpA.of_ints _) (by rw [List.length_map]; exact (h p (List.mem_cons_self ..)).2)) (tups_of fun q hq => h q (List.mem_cons_of_mem _ hq))
def rSST (K : PySem.W.Frag) (P : Program) (w : World) : List V → Hp → VK → Prop := fun vs H Q => rSetOfT K P w vs H fun v H2 => rSortedT K P w [v] H2 Q
theorem rSST_of {K : PySem.W.Frag} {P : Program} {w : World} {I H : Hp} {xs : List V} {ds zs : List D} {ks : List (List Int)} (s : Same I H) (p : RpA K I xs [.list ds]) (ek : tupsI ds = some ks) (hc : ks.length < 64 ∧ 1 ≤ widthT ks ∧ fitT (widthT ks) ks = true) (ez : zs = (sortK (TS.code 64) ks).map fun ns => .tuple (ns.map .int))
    {Q : VK} (k : ∀ p vs H', H p = none → Same H H' → H' p = some (.lst vs) → RpA K I vs zs → zs.length ≤ sizeLine → Q (.ref p) H') : rSST K P w xs H Q := by
  have ed := tupsI_some ek
  cases p with
  | cons a b =>
    cases b
    cases a with
    | lst hp ra hz =>
      rename_i l vs
      rw [ed] at ra hz
      obtain ⟨L, rfl, e2, hL⟩ := tups_rp ra
      have hlen : L.length = ks.length := by rw [← e2, List.length_map]
      have fit := fitT_of hc.2.2
      refine ⟨l, L, rfl, SqL.of (s _ _ hp), fun p hp' => same_t s (hL p hp'), by rw [hlen]; exact hc.1, fun a2 L2 hn hsub hall => ?_⟩
      have hs2 : Same H (upd H a2 (SetTO P w a2 L2)) := same_new hn
      have mem2 : ∀ p ∈ L2, p.2 ∈ ks := fun p hp' => by rw [← e2]; exact List.mem_map.mpr ⟨p, hsub p hp', rfl⟩
      refine ⟨a2, L2, widthT ks, 64, rfl, upd_same, fun p hp' => same_t hs2 (same_t s (hL p (hsub p hp'))), hc.2.1, fun p hp' => fit _ (mem2 p hp'), fun L3 q pm nd hl3 srt hq => ?_⟩
      have hq0 : H q = none := by
        by_cases z : q = a2
        · rw [z]; exact hn
        · rw [upd_ne z] at hq; exact hq
      have mem3 : ∀ p ∈ L3, p ∈ L := fun p hp' => hsub p (pm.mem_iff.mp hp')
      have em : L3.map (·.2) = sortK (TS.code 64) ks := by
        refine rise_ext (key := TS.code 64) (P := fun ns => ns.length = widthT ks ∧ TS.Bd 64 ns) (fun x y hx hy e => code_eq (by rw [hx.1, hy.1]) hx.2 hy.2 e) (fun x hx => ?_) (fun x hx => fit x (sortK_mem hx)) ?_ (sortK_srt _) fun x => ⟨fun hx => ?_, fun hx => ?_⟩
        · obtain ⟨p, hp', rfl⟩ := List.mem_map.mp hx
          exact fit _ (mem2 p (pm.mem_iff.mp hp'))
        · rw [List.pairwise_map]
          have nd' : L3.Pairwise fun p q => p.2 ≠ q.2 := List.pairwise_map.mp nd
          refine (srt.and nd').imp_of_mem fun {p q} hp' hq' h => ?_
          have fp := fit _ (mem2 p (pm.mem_iff.mp hp'))
          have fq := fit _ (mem2 q (pm.mem_iff.mp hq'))
          rcases Int.lt_or_eq_of_le h.1 with z | z
          · exact z
          · exact absurd (code_eq (by rw [fp.1, fq.1]) fp.2 fq.2 z) h.2
        · obtain ⟨p, hp', rfl⟩ := List.mem_map.mp hx
          obtain ⟨y, h1, h2⟩ := sortK_has (key := TS.code 64) (mem2 p (pm.mem_iff.mp hp'))
          have fp := fit _ (mem2 p (pm.mem_iff.mp hp'))
          have fy := fit _ (sortK_mem h1)
          rw [← code_eq (by rw [fy.1, fp.1]) fy.2 fp.2 h2]
          exact h1
        · have hx' := sortK_mem hx
          rw [← e2] at hx'
          obtain ⟨p, hp', rfl⟩ := List.mem_map.mp hx'
          obtain ⟨p2, h1, h2⟩ := List.mem_map.mp (hall p hp')
          exact List.mem_map.mpr ⟨p2, pm.mem_iff.mpr h1, h2⟩
      have hw : ∀ p ∈ L3, p.2.length ≤ sizeLine := fun p hp' => by
        have hm : PyData.tuple (p.2.map .int) ∈ ks.map fun ns => PyData.tuple (ns.map .int) := List.mem_map.mpr ⟨p.2, mem2 p (pm.mem_iff.mp hp'), rfl⟩
        obtain ⟨i, hi⟩ := List.getElem?_of_mem hm
        obtain ⟨v, _, rv⟩ := ra.get hi
        cases rv with
        | tup _ _ hz => rw [List.length_map] at hz; exact hz
      have r3 : RpA K I (L3.map fun p => V.ref p.1) zs := by
        rw [ez, ← em]
        exact tups_of fun p hp' => ⟨hL p (mem3 p hp'), hw p hp'⟩
      refine k q _ _ hq0 (hs2.trans (same_new hq)) upd_same r3 ?_
      rw [ez, List.length_map]
      have := sortK_len (key := TS.code 64) ks
      have : (64 : Nat) ≤ sizeLine := by decide
      omega
end Pd

/-! Pd: set(xs) of a list of numbers, sorted. -/
namespace Pd
open PySem PySem.Spec L2
/-- a set as it is made -/
abbrev bornSet (w : World) : Obj := { cls := .type "set", dict := none, data := .set #[] 0 (.fresh 0 0 (!w.params.followText "set-order")) }
section
variable {P : Program} {w : World} {A : Around} {E : Value → Shared → Prop} {s : Shared}
/-- what set(xs) leaves: the heap, the tokens, how many -/
def SetMade (w : World) (s : Shared) (ns : List Int) (h2 : Heap) (cnt : Nat) : Prop :=
  SetR w h2 s.heap.objs.size (fun j => decide (j ∈ ns)) cnt ∧ cnt ≤ ns.length ∧ ∀ x o, s.heap.get? x = some o → h2.get? x = some o
set_option maxHeartbeats 8000000 in
theorem setOf_ints {l : Addr} {its : Array Value} (ns : List Int) {Q : Value → Shared → Prop} (hd : A.handled = none) (hl : s.heap.IsList l its) (hi : PyProof.Rows.IntsAre its.toList ns) (hb : ns.length + 1 < scanBound)
    (fin : ∀ (h2 : Heap) (tk cnt : Nat), SetMade w s ns h2 cnt → Q (.ref s.heap.objs.size) { s with heap := h2, toks := tk }) : wpAny (model P w) A (call (.type "set") [.ref l]) Q E s := by
  have en : its.size = ns.length := by have := hi.length; simpa using this
  obtain ⟨_, _, m1⟩ := F.called_set.mro
  have m2 := F.called_set.made
  have m3 := F.called_set.sub
  apply wpAny_call
  apply codeAny_of_tree
  show wpAny _ _ (callAny (.type "set") _) _ _ _
  apply wpAny_pure
  refine ⟨Code.quiet_builtin _ (by decide +kernel), ?_⟩
  apply codeAny_builtin F.entry_type_call
  rw [Around.under_plain (weight_type_call_type "set" [.ref l] []) rfl]
  have m4 := F.called_set.notType
  have m5 := F.called_set.canCreate
  have m6 := F.typeCall_set_1 (.ref l)
  repeat (any_goals (first | assumption | wp_step))
  refine codeAny_mono (code_set_led1 (.ref l) (E := E) (Q₁ := fun ob t => ob = .ref s.heap.objs.size ∧ t = { s with heap := s.heap.push (bornSet w) }) ⟨rfl, rfl⟩) ?_
  rintro (e | fl) t z
  · exact z
  cases fl with
  | ret ob =>
    obtain ⟨rfl, rfl⟩ := z
    have at0 : (s.heap.push (bornSet w)).get? s.heap.objs.size = some (bornSet w) := Heap.get?_push_size _ rfl
    have ty0 : Shared.TypeIs { s with heap := s.heap.push (bornSet w) } (.ref s.heap.objs.size) "set" := ⟨_, at0, rfl⟩
    have i1 := F.called_set.init.lookup
    have i2 := F.called_set.init.bind (.ref s.heap.objs.size)
    repeat (any_goals (first | assumption | wp_step))
    refine codeAny_mono (codeAny_call_builtin (R := wants (fun r t => r = .none ∧ ∃ h2 tk cnt, t = { s with heap := h2, toks := tk } ∧ SetMade w s ns h2 cnt) E) F.called_set.init.plain F.entry_set_init (check_set_init_1 ty0 ?_)) ?_
    · obtain ⟨⟨lc, ld, ldt, lsl⟩, hol, hcl, nl, hdl⟩ := hl
      simp only at hcl hdl
      subst hcl
      subst hdl
      have at1 : (s.heap.push (bornSet w)).get? l = some { cls := .type "list", dict := ld, data := .seq its nl, slots := lsl } := Heap.get?_push_of_some _ hol
      have u1 := F.sub_list_set
      have u2 := F.sub_list_frozenset
      have u3 : (Value.type "list" == Value.type "dict") = false := by decide
      have isl : (s.heap.push (bornSet w)).IsList l its := ⟨_, at1, rfl, nl, rfl⟩
      unfold Builtin.«set.__init__» noKeywords Builtin.Frozenset.updateFrom
      generalize ep : pyIter = PI
      wp_walk
      subst ep
      refine wpAny_pyIter_list isl ?_
      apply wpAny_bind
      apply wpAny_runValue
      have lt : l < s.heap.objs.size := Heap.lt_size hol
      have q3 : A.in1.in1.in1.handled = none := by simp [hd]
      have sz : (s.heap.push (bornSet w)).objs.size = s.heap.objs.size + 1 := Heap.size_push ..
      have n1 : l ≠ (s.heap.push (bornSet w)).objs.size := by rw [sz]; exact Nat.ne_of_lt (Nat.lt_succ_of_lt lt)
      have n2 : s.heap.objs.size ∉ [(s.heap.push (bornSet w)).objs.size, l] := by
        rw [sz]
        simp only [List.mem_cons, List.not_mem_nil, or_false, not_or]
        exact ⟨Nat.ne_of_lt (Nat.lt_succ_self _), Nat.ne_of_gt lt⟩
      have each : ∀ (i : Nat) (v : Value), its[i]? = some v → ∃ k t, ns[i]? = some k ∧ v = .int k t := by
        intro i v hv
        have lt2 : i < ns.length := by rw [← en]; exact (Array.getElem?_eq_some_iff.mp hv).1
        obtain ⟨t, e⟩ := PyProof.Rows.IntsAre.int_at hi i v (by rw [Array.getElem?_toList]; exact hv)
        have eg := List.getElem?_eq_getElem lt2
        rw [List.getD_eq_getElem?_getD, eg] at e
        exact ⟨_, t, eg, e⟩
      refine set_update_ints ((Walks.list q3 _ l n1 its).toS) s.heap.objs.size n2 ns en hb each (its.size - 0) 0 _ (by omega) (Nat.zero_le _)
        ⟨⟨_, Heap.get?_push_size _ rfl, rfl, rfl⟩, (isl.push _)⟩ ⟨0, Nat.le_refl 0, setR_new_at (Heap.get?_push_of_some _ at0)⟩ ?_
      rintro ⟨h2, g2, d2, tk2, os2⟩ cnt mv hc hS
      have x1 : g2 = s.gens := mv.gens
      have x2 : d2 = s.drawn := mv.drawn
      have x3 : os2 = s.os := mv.os
      subst x1
      subst x2
      subst x3
      show wpAny _ _ _ _ _ _
      apply wpAny_pure
      show wpAny _ _ (ret Value.none) _ _ _
      apply wpAny_pure
      refine ⟨rfl, h2, tk2, cnt, rfl, hS, by omega, fun x o e => ?_⟩
      have lt3 : x < s.heap.objs.size := Heap.lt_size e
      refine mv.heap x o ?_ (Heap.get?_push_of_some _ (Heap.get?_push_of_some _ e))
      rw [sz]
      simp only [List.mem_cons, List.not_mem_nil, or_false, not_or]
      exact ⟨Nat.ne_of_lt lt3, Nat.ne_of_lt (Nat.lt_succ_of_lt lt3)⟩
    · rintro (e | f2) t z
      · exact z
      cases f2 with
      | ret r =>
        obtain ⟨rfl, h2, tk, cnt, rfl, made⟩ := z
        repeat (any_goals (first | assumption | wp_step))
        exact fin _ _ _ made
      | _ => exact z.elim
  | _ => exact z.elim
end
section
variable {G : Type} {X : Cx} {S : Gs G} {K : PySem.W.Frag}
def rSetI (K : PySem.W.Frag) (w : World) : List V → Hp → VK → Prop := fun xs H Q => ∃ (l : Addr) (ns : List Int), xs = [V.ref l] ∧ SqL K H l (ns.map V.int) ∧ ns.length < 64 ∧
  ∀ a cnt, H a = none → cnt ≤ ns.length → Q (.ref a) (upd H a (SetO w a (fun j => decide (j ∈ ns)) cnt))
theorem cr_setI (hc : X.calm = true) : CallR X (.type "set") (rSetI X.K X.w) := by
  intro pins s σ H xs us Q I r h
  obtain ⟨l, ns, rfl, hl, h64, q⟩ := h
  rw [Vals.ref1 r]
  obtain ⟨its, rv, pl, hz⟩ := I.list hl
  have hn : H s.heap.objs.size = none := I.hok.fresh (Nat.le_refl _)
  refine setOf_ints (P := X.prog) (w := X.w) ns (I.ok.hd hc) pl.isList (by simpa using rv.ints) (by unfold scanBound; omega) fun h2 tk cnt hm => ?_
  obtain ⟨hS, hcnt, kp⟩ := hm
  exact ⟨.ref s.heap.objs.size, _, I.laid (t' := tk) kp (Nat.le_refl _) (setO_new hS), rfl, q _ cnt hn hcnt⟩
def rSSI (K : PySem.W.Frag) (w : World) : List V → Hp → VK → Prop := fun vs H Q => rSetI K w vs H fun v H2 => rSortedSet w [v] H2 Q
theorem rSSI_of {w : World} {I H : Hp} {xs : List V} {ds zs : List D} {ns : List Int} (s : Same I H) (p : RpA K I xs [.list ds]) (en : intsD ds = some ns) (hc : ns.length < 64) (ez : zs = (sortK id ns).map .int)
    {Q : VK} (k : ∀ p vs H', H p = none → Same H H' → H' p = some (.lst vs) → RpA K I vs zs → zs.length ≤ sizeLine → Q (.ref p) H') : rSSI K w xs H Q := by
  have ed := intsD_some en
  cases p with
  | cons a b =>
    cases b
    cases a with
    | lst hp ra hz =>
      rename_i l vs
      rw [ed] at ra hz
      have := ra.ints
      subst this
      refine ⟨l, ns, rfl, SqL.of (s _ _ hp), hc, fun a2 cnt hn hcnt => ?_⟩
      refine ⟨a2, _, cnt, rfl, upd_same, by omega, fun out q srt mem hl hq => ?_⟩
      have hq0 : H q = none := by
        by_cases z : q = a2
        · rw [z]; exact hn
        · rw [upd_ne z] at hq; exact hq
      have em : out = sortK id ns := by
        refine rise_ext (key := id) (P := fun _ => True) (fun x y _ _ e => e) (fun _ _ => trivial) (fun _ _ => trivial) srt (sortK_srt _) fun x => ⟨fun hx => ?_, fun hx => ?_⟩
        · have hx := (mem x).mp hx
          obtain ⟨y, h1, h2⟩ := sortK_has (key := id) (of_decide_eq_true hx)
          have h2 : y = x := h2
          rw [← h2]
          exact h1
        · exact (mem x).mpr (decide_eq_true (sortK_mem hx))
      refine k q _ _ hq0 ((same_new hn).trans (same_new hq)) upd_same (by rw [ez, em]; exact RpA.of_ints _) ?_
      rw [ez, List.length_map]
      have := sortK_len (key := id) ns
      have : (64 : Nat) ≤ sizeLine := by decide
      omega
/-- sorted(set(e)) -/
theorem df_sortedSet {e : Expr} {ml : ML G} {p q q2 pos : Pos} (hc : X.calm = true) (hu : X.A.units + 65 < cLine) (hg : Gl X "sorted") (hm : X.mg "sorted" = none) (hg2 : Gl X "set") (hm2 : X.mg "set" = none) (ha : DA X S [e] ml)
    (he : starEach [e] X.env = (false, eval e X.env) :: starEach [] X.env := by rfl) (hpl : (backTo q2 (starEach [] X.env)).any (·.1) = false := by rfl)
    (he2 : starEach [.Call (.Name "set" q) [e] [] q2] X.env = (false, eval (.Call (.Name "set" q) [e] [] q2) X.env) :: starEach [] X.env := by rfl) (hpl2 : (backTo pos (starEach [] X.env)).any (·.1) = false := by rfl) :
    DF X S (.Call (.Name "sorted" p) [.Call (.Name "set" q) [e] [] q2] [] pos) (mCallF dSortedSet ml) := by
  have h1 := pe_callB (pos := pos) (p := p) (cr_sortedSet hc) hg hm (by decide +kernel) (pa_cons (pe_callTy (pos := q2) (p := q) (cr_setI hc) hg2 hm2 (by decide +kernel) ha (by decide) (by decide) he hpl) pa_nil he2) (by decide) (by decide) he2 hpl2
  have h2 := pe_callB (pos := pos) (p := p) (cr_sortedT hc) hg hm (by decide +kernel) (pa_cons (pe_callTy (pos := q2) (p := q) (cr_setOfT hc (by omega)) hg2 hm2 (by decide +kernel) ha (by decide) (by decide) he hpl) pa_nil he2) (by decide) (by decide) he2 hpl2
  refine ⟨fun pins s σ H Q I hq => ?_⟩
  obtain ⟨w, env, g, d, g', R, e0, k⟩ := hq
  obtain ⟨xs, g1, e1, e3⟩ := bD_some e0
  obtain ⟨e3, rfl⟩ := map_some e3
  unfold dSortedSet at e3
  split at e3
  · rename_i ds
    split at e3
    · rename_i ns en
      split at e3
      · rename_i hc64
        cases e3
        exact h1.run pins s σ H Q I ⟨w, env, g, _, g', R, e1, fun vs I1 H1 s1 R1 p1 => rSSI_of R1.eI p1 en hc64 rfl fun p us H3 h0 sm hp ra z => k p us I1 H3 s1 (Rel.fresh (p := p) R1 sm) (R1.nob h0) hp ra z⟩
      · cases e3
    · split at e3
      · rename_i ks ek
        split at e3
        · rename_i hcc
          cases e3
          exact h2.run pins s σ H Q I ⟨w, env, g, _, g', R, e1, fun vs I1 H1 s1 R1 p1 => rSST_of R1.eI p1 ek hcc rfl fun p us H3 h0 sm hp ra z => k p us I1 H3 s1 (Rel.fresh (p := p) R1 sm) (R1.nob h0) hp ra z⟩
        · cases e3
      · cases e3
  · cases e3
end
end Pd

namespace K30
open PySem PySem.Spec L2 Pd
/-! ### the text by places -/
def top (i : Nat) : Stmt := PySem.Challenge.pw_plainserial_k30_whole_values_of_expressi.main.body.getD i (.Pass ⟨0, 0, 0, 0⟩)
abbrev s_turned : Stmt := top 1
abbrev s_both : Stmt := top 2
abbrev s_either : Stmt := top 3
abbrev s_reckoned : Stmt := top 4
abbrev s_among : Stmt := top 5
abbrev s_value_of : Stmt := top 6
abbrev s_is_met : Stmt := top 7
abbrev s_parts_of : Stmt := top 8
abbrev s_places_of : Stmt := top 9
abbrev s_put_at : Stmt := top 10
abbrev s_cells_of : Stmt := top 11
abbrev s_tables_of : Stmt := top 12
abbrev s_conjuncts : Stmt := top 13
abbrev s_joined : Stmt := top 14
abbrev s_size_of : Stmt := top 15
abbrev s__law_draw : Stmt := top 17
abbrev s__law_pick : Stmt := top 18
abbrev s__law_some : Stmt := top 19
abbrev s__law_leaf : Stmt := top 20
abbrev s__law_expr : Stmt := top 21
abbrev s__law_val : Stmt := top 22
abbrev s__law_within : Stmt := top 24
abbrev s__law_places : Stmt := top 25
abbrev s__law_put : Stmt := top 26
abbrev s__law_parts : Stmt := top 27
abbrev s_law : Stmt := top 28
structure Txt (K : PySem.W.Frag) (mg : Str → Option Value) : Prop where
  d_turned : Dfn K mg "turned" "turned" s_turned ["value"]
  d_both : Dfn K mg "both" "both" s_both ["one", "other"]
  d_either : Dfn K mg "either" "either" s_either ["one", "other"]
  d_reckoned : Dfn K mg "reckoned" "reckoned" s_reckoned ["word", "one", "other"]
  d_among : Dfn K mg "among" "among" s_among ["value", "values"]
  d_value_of : Dfn K mg "value_of" "value_of" s_value_of ["tree", "rows", "fields"]
  d_is_met : Dfn K mg "is_met" "is_met" s_is_met ["tree", "rows", "fields"]
  d_parts_of : Dfn K mg "parts_of" "parts_of" s_parts_of ["tree"]
  d_places_of : Dfn K mg "places_of" "places_of" s_places_of ["tree"]
  d_put_at : Dfn K mg "put_at" "put_at" s_put_at ["tree", "path", "part"]
  d_cells_of : Dfn K mg "cells_of" "cells_of" s_cells_of ["tree"]
  d_tables_of : Dfn K mg "tables_of" "tables_of" s_tables_of ["tree"]
  d_conjuncts : Dfn K mg "conjuncts" "conjuncts" s_conjuncts ["tree"]
  d_joined : Dfn K mg "joined" "joined" s_joined ["parts"]
  d_size_of : Dfn K mg "size_of" "size_of" s_size_of ["tree"]
  d__law_draw : Dfn K mg "_law_draw" "_law_draw" s__law_draw ["state", "script", "size"]
  d__law_pick : Dfn K mg "_law_pick" "_law_pick" s__law_pick ["state", "script", "items"]
  d__law_some : Dfn K mg "_law_some" "_law_some" s__law_some ["state", "script", "kind"]
  d__law_leaf : Dfn K mg "_law_leaf" "_law_leaf" s__law_leaf ["state", "script", "kind", "cells"]
  d__law_expr : Dfn K mg "_law_expr" "_law_expr" s__law_expr ["state", "script", "kind", "cells", "fuel"]
  d__law_val : Dfn K mg "_law_val" "_law_val" s__law_val ["tree", "rows", "fields"]
  d__law_within : Dfn K mg "_law_within" "_law_within" s__law_within ["tree"]
  d__law_places : Dfn K mg "_law_places" "_law_places" s__law_places ["tree", "path"]
  d__law_put : Dfn K mg "_law_put" "_law_put" s__law_put ["tree", "path", "part"]
  d__law_parts : Dfn K mg "_law_parts" "_law_parts" s__law_parts ["tree"]
  z_int : mg "int" = none
  z_len : mg "len" = none
  z_list : mg "list" = none
  z_range : mg "range" = none
  z_repr : mg "repr" = none
  z_set : mg "set" = none
  z_sorted : mg "sorted" = none
  z_tuple : mg "tuple" = none
section
variable {P : Program} {wd : World} {K : PySem.W.Frag} {mg : Str → Option Value} {base : Heap}
/-! #### turned -/
abbrev n_turned : List Str := ["value"]
theorem sc_turned : FnScope n_turned ["value"] (defScope s_turned) := ⟨rfl, rfl, rfl, by decide +kernel, rfl, by decide +kernel, by decide +kernel⟩
def m_turned : MS Unit := (mRet (mIf (mOpT dIs (mVar 0) (mC .none)) (mC .none) (mBNot (mVar 0))))
def F_turned : List D → Option D := runP 1 1 m_turned
theorem ok_turned (T : Txt K mg) : Def1 P wd K mg base "turned" ["value"] 1 (spP K F_turned) := def_pure T.d_turned sc_turned fun f cdv A outer s H E hr =>
    (db_one (ds_ret (de_if (dt_cmp op_isN od_is (de_var 0) de_non (nomark _)) de_non (de_not (de_var 0)))))
/-! #### both -/
abbrev n_both : List Str := ["one", "other"]
theorem sc_both : FnScope n_both ["one", "other"] (defScope s_both) := ⟨rfl, rfl, rfl, by decide +kernel, rfl, by decide +kernel, by decide +kernel⟩
def m_both : MS Unit := (mSeq (mIfS (mOr (mOpT dIsB (mVar 0) (mC (.bool false))) (mOpT dIsB (mVar 1) (mC (.bool false))))
    (mRet (mC (.bool false)))
    mSkip)
    (mRet (mIf (mOr (mOpT dIs (mVar 0) (mC .none)) (mOpT dIs (mVar 1) (mC .none))) (mC .none) (mC (.bool true)))))
def F_both : List D → Option D := runP 2 2 m_both
theorem ok_both (T : Txt K mg) : Def1 P wd K mg base "both" ["one", "other"] 1 (spP K F_both) := def_pure T.d_both sc_both fun f cdv A outer s H E hr =>
    (db_cons (ds_if (PW.pt (dw_or (dt_cmp op_isB od_isB (de_var 0) de_bl (nomark _)) (dw_or1 (dt_cmp op_isB od_isB (de_var 1) de_bl (nomark _)))))
    (db_one (ds_ret de_bl))
    db_nil)
    (db_one (ds_ret (de_if (PW.pt (dw_or (dt_cmp op_isN od_is (de_var 0) de_non (nomark _)) (dw_or1 (dt_cmp op_isN od_is (de_var 1) de_non (nomark _))))) de_non de_bl))))
/-! #### either -/
abbrev n_either : List Str := ["one", "other"]
theorem sc_either : FnScope n_either ["one", "other"] (defScope s_either) := ⟨rfl, rfl, rfl, by decide +kernel, rfl, by decide +kernel, by decide +kernel⟩
def m_either : MS Unit := (mSeq (mIfS (mOr (mOpT dIsB (mVar 0) (mC (.bool true))) (mOpT dIsB (mVar 1) (mC (.bool true))))
    (mRet (mC (.bool true)))
    mSkip)
    (mRet (mIf (mOr (mOpT dIs (mVar 0) (mC .none)) (mOpT dIs (mVar 1) (mC .none))) (mC .none) (mC (.bool false)))))
def F_either : List D → Option D := runP 2 2 m_either
theorem ok_either (T : Txt K mg) : Def1 P wd K mg base "either" ["one", "other"] 1 (spP K F_either) := def_pure T.d_either sc_either fun f cdv A outer s H E hr =>
    (db_cons (ds_if (PW.pt (dw_or (dt_cmp op_isB od_isB (de_var 0) de_bl (nomark _)) (dw_or1 (dt_cmp op_isB od_isB (de_var 1) de_bl (nomark _)))))
    (db_one (ds_ret de_bl))
    db_nil)
    (db_one (ds_ret (de_if (PW.pt (dw_or (dt_cmp op_isN od_is (de_var 0) de_non (nomark _)) (dw_or1 (dt_cmp op_isN od_is (de_var 1) de_non (nomark _))))) de_non de_bl))))
/-! #### reckoned -/
abbrev n_reckoned : List Str := ["word", "one", "other"]
theorem sc_reckoned : FnScope n_reckoned ["word", "one", "other"] (defScope s_reckoned) := ⟨rfl, rfl, rfl, by decide +kernel, rfl, by decide +kernel, by decide +kernel⟩
def m_reckoned : MS Unit := (mSeq (mIfS (mOr (mOpT dIs (mVar 1) (mC .none)) (mOpT dIs (mVar 2) (mC .none)))
    (mRet (mC .none))
    mSkip)
    (mSeq (mIfS (mOpT dEq (mVar 0) (mC (.str "plus")))
    (mRet (mOp dAdd (mVar 1) (mVar 2)))
    mSkip)
    (mSeq (mIfS (mOpT dEq (mVar 0) (mC (.str "minus")))
    (mRet (mOp dSub (mVar 1) (mVar 2)))
    mSkip)
    (mSeq (mIfS (mOpT dEq (mVar 0) (mC (.str "times")))
    (mRet (mOp dMul (mVar 1) (mVar 2)))
    mSkip)
    (mRet (mIf (mOpT dEq (mVar 0) (mC (.str "same"))) (mOp dEq (mVar 1) (mVar 2)) (mOp dLt (mVar 1) (mVar 2))))))))
def F_reckoned : List D → Option D := runP 3 3 m_reckoned
theorem ok_reckoned (T : Txt K mg) : Def1 P wd K mg base "reckoned" ["word", "one", "other"] 1 (spP K F_reckoned) := def_pure T.d_reckoned sc_reckoned fun f cdv A outer s H E hr =>
    (db_cons (ds_if (PW.pt (dw_or (dt_cmp op_isN od_is (de_var 1) de_non (nomark _)) (dw_or1 (dt_cmp op_isN od_is (de_var 2) de_non (nomark _)))))
    (db_one (ds_ret de_non))
    db_nil)
    (db_cons (ds_if (dt_cmp (op_eqD (hu64 hr)) od_eq (de_var 0) de_str (nomark _))
    (db_one (ds_ret (de_op op_addD od_addD (de_var 1) (de_var 2))))
    db_nil)
    (db_cons (ds_if (dt_cmp (op_eqD (hu64 hr)) od_eq (de_var 0) de_str (nomark _))
    (db_one (ds_ret (de_op op_sub od_sub (de_var 1) (de_var 2))))
    db_nil)
    (db_cons (ds_if (dt_cmp (op_eqD (hu64 hr)) od_eq (de_var 0) de_str (nomark _))
    (db_one (ds_ret (de_op op_mul od_mul (de_var 1) (de_var 2))))
    db_nil)
    (db_one (ds_ret (de_if (dt_cmp (op_eqD (hu64 hr)) od_eq (de_var 0) de_str (nomark _)) (de_cmp (op_eqD (hu64 hr)) od_eq (de_var 1) (de_var 2) (nomark _)) (de_cmp (op_ltD (hu65 hr)) od_lt (de_var 1) (de_var 2) (nomark _)))))))))
/-! #### among -/
abbrev n_among : List Str := ["value", "values", "one"]
theorem sc_among : FnScope n_among ["value", "values"] (defScope s_among) := ⟨rfl, rfl, rfl, by decide +kernel, rfl, by decide +kernel, by decide +kernel⟩
def m_among : MS Unit := (mSeq (mIfS (mOpT dIs (mVar 0) (mC .none))
    (mRet (mC .none))
    mSkip)
    (mSeq (mIfS (mOpT (dInF false) (mVar 0) (mL (mComp (mItL (mVar 1)) [2] (bName 2) (mOpT dIsNot (mVar 2) (mC .none)) (mVar 2))))
    (mRet (mC (.bool true)))
    mSkip)
    (mRet (mIf (mOpT (dInF false) (mC .none) (mVar 1)) (mC .none) (mC (.bool false))))))
def F_among : List D → Option D := runP 3 2 m_among
theorem ok_among (T : Txt K mg) : Def1 P wd K mg base "among" ["value", "values"] 1 (spP K F_among) := def_pure T.d_among sc_among fun f cdv A outer s H E hr =>
    (db_cons (ds_if (dt_cmp op_isN od_is (de_var 0) de_non (nomark _))
    (db_one (ds_ret de_non))
    db_nil)
    (db_cons (ds_if (dt_cmp op_in_seq (od_inF false) (de_var 0) (de_fresh (df_comp (own := [("one", 2)]) rfl sc_among.nd (di_list (de_var 1)) (blkOk_by (N := n_among) (sc := defScope s_among) (by decide +kernel)) (fun _ _ _ _ _ => (dg_name (i := 2) sc_among.nd rfl (by first | exact Or.inl rfl | exact Or.inr rfl))) (fun _ _ _ _ _ => (dts_one (dt_cmp op_notN od_isNot (de_var 2) de_non (nomark _)))) (fun _ _ _ _ _ => (de_var 2)))) (by rfl))
    (db_one (ds_ret de_bl))
    db_nil)
    (db_one (ds_ret (de_if (dt_cmp op_in_seq (od_inF false) de_non (de_var 1) (by rfl)) de_non de_bl)))))
/-! #### value_of -/
abbrev n_value_of : List Str := ["tree", "rows", "fields", "word", "one", "other"]
theorem sc_value_of : FnScope n_value_of ["tree", "rows", "fields"] (defScope s_value_of) := ⟨rfl, rfl, rfl, by decide +kernel, rfl, by decide +kernel, by decide +kernel⟩
def m_value_of (self : List D → Option D) : MS Unit := (mSeq (mSet 3 (mOp dIx (mVar 0) (mC (.int 0))))
    (mSeq (mIfS (mOpT dEq (mVar 3) (mC (.str "value")))
    (mRet (mOp dIx (mVar 0) (mC (.int 1))))
    mSkip)
    (mSeq (mIfS (mOpT dEq (mVar 3) (mC (.str "cell")))
    (mRet (mOp dIx (mOp dIx (mVar 1) (mOp dIx (mVar 0) (mC (.int 1)))) (mOp dIx (mVar 0) (mC (.int 2)))))
    mSkip)
    (mSeq (mIfS (mOpT dEq (mVar 3) (mC (.str "field")))
    (mRet (mOp dIx (mVar 2) (mOp dIx (mVar 0) (mC (.int 1)))))
    mSkip)
    (mSeq (mSet 4 (mCall self (mCons (mOp dIx (mVar 0) (mC (.int 1))) (mCons (mVar 1) (mCons (mVar 2) mNil)))))
    (mSeq (mIfS (mOpT dEq (mVar 3) (mC (.str "null")))
    (mRet (mOp dIs (mVar 4) (mC .none)))
    mSkip)
    (mSeq (mIfS (mOpT dEq (mVar 3) (mC (.str "not")))
    (mRet (mCall F_turned (mCons (mVar 4) mNil)))
    mSkip)
    (mSeq (mIfS (mOpT dEq (mVar 3) (mC (.str "among")))
    (mRet (mCall F_among (mCons (mVar 4) (mCons (mOp dIx (mVar 0) (mC (.int 2))) mNil))))
    mSkip)
    (mSeq (mSet 5 (mCall self (mCons (mOp dIx (mVar 0) (mC (.int 2))) (mCons (mVar 1) (mCons (mVar 2) mNil)))))
    (mSeq (mIfS (mOpT dEq (mVar 3) (mC (.str "and")))
    (mRet (mCall F_both (mCons (mVar 4) (mCons (mVar 5) mNil))))
    mSkip)
    (mSeq (mIfS (mOpT dEq (mVar 3) (mC (.str "or")))
    (mRet (mCall F_either (mCons (mVar 4) (mCons (mVar 5) mNil))))
    mSkip)
    (mRet (mCall F_reckoned (mCons (mVar 3) (mCons (mVar 4) (mCons (mVar 5) mNil))))))))))))))))
def F_value_of : Nat → List D → Option D
  | 0 => fun _ => none
  | k + 1 => runP 6 3 (m_value_of (F_value_of k))
theorem ok_value_of (T : Txt K mg) : ∀ k : Nat, Def1 P wd K mg base "value_of" ["tree", "rows", "fields"] (2 + k) (spP K (F_value_of k))
  | 0 => def_no T.d_value_of sc_value_of spP_no
  | k + 1 => def_pure T.d_value_of sc_value_of fun f cdv A outer s H E hr =>
    (db_cons (ds_set (i := 3) sc_value_of.nd rfl (by first | exact Or.inl rfl | exact Or.inr rfl) (de_ix (de_var 0) de_int))
    (db_cons (ds_if (dt_cmp (op_eqD (hu64 hr)) od_eq (de_var 3) de_str (nomark _))
    (db_one (ds_ret (de_ix (de_var 0) de_int)))
    db_nil)
    (db_cons (ds_if (dt_cmp (op_eqD (hu64 hr)) od_eq (de_var 3) de_str (nomark _))
    (db_one (ds_ret (de_ix (de_ix (de_var 1) (de_ix (de_var 0) de_int)) (de_ix (de_var 0) de_int))))
    db_nil)
    (db_cons (ds_if (dt_cmp (op_eqD (hu64 hr)) od_eq (de_var 3) de_str (nomark _))
    (db_one (ds_ret (de_ix (de_var 2) (de_ix (de_var 0) de_int))))
    db_nil)
    (db_cons (ds_set (i := 4) sc_value_of.nd rfl (by first | exact Or.inl rfl | exact Or.inr rfl) (call_P (ok_value_of T k) (hr.mono (Nat.le_refl _)) rfl (da_cons (de_ix (de_var 0) de_int) (da_cons (de_var 1) (da_cons (de_var 2) da_nil)))))
    (db_cons (ds_if (dt_cmp (op_eqD (hu64 hr)) od_eq (de_var 3) de_str (nomark _))
    (db_one (ds_ret (de_cmp op_isN od_is (de_var 4) de_non (nomark _))))
    db_nil)
    (db_cons (ds_if (dt_cmp (op_eqD (hu64 hr)) od_eq (de_var 3) de_str (nomark _))
    (db_one (ds_ret (call_P (ok_turned T) (hr.mono (Nat.le_trans (by decide : 1 ≤ 2) (Nat.le_add_right 2 k))) rfl (da_cons (de_var 4) da_nil))))
    db_nil)
    (db_cons (ds_if (dt_cmp (op_eqD (hu64 hr)) od_eq (de_var 3) de_str (nomark _))
    (db_one (ds_ret (call_P (ok_among T) (hr.mono (Nat.le_trans (by decide : 1 ≤ 2) (Nat.le_add_right 2 k))) rfl (da_cons (de_var 4) (da_cons (de_ix (de_var 0) de_int) da_nil)))))
    db_nil)
    (db_cons (ds_set (i := 5) sc_value_of.nd rfl (by first | exact Or.inl rfl | exact Or.inr rfl) (call_P (ok_value_of T k) (hr.mono (Nat.le_refl _)) rfl (da_cons (de_ix (de_var 0) de_int) (da_cons (de_var 1) (da_cons (de_var 2) da_nil)))))
    (db_cons (ds_if (dt_cmp (op_eqD (hu64 hr)) od_eq (de_var 3) de_str (nomark _))
    (db_one (ds_ret (call_P (ok_both T) (hr.mono (Nat.le_trans (by decide : 1 ≤ 2) (Nat.le_add_right 2 k))) rfl (da_cons (de_var 4) (da_cons (de_var 5) da_nil)))))
    db_nil)
    (db_cons (ds_if (dt_cmp (op_eqD (hu64 hr)) od_eq (de_var 3) de_str (nomark _))
    (db_one (ds_ret (call_P (ok_either T) (hr.mono (Nat.le_trans (by decide : 1 ≤ 2) (Nat.le_add_right 2 k))) rfl (da_cons (de_var 4) (da_cons (de_var 5) da_nil)))))
    db_nil)
    (db_one (ds_ret (call_P (ok_reckoned T) (hr.mono (Nat.le_trans (by decide : 1 ≤ 2) (Nat.le_add_right 2 k))) rfl (da_cons (de_var 3) (da_cons (de_var 4) (da_cons (de_var 5) da_nil)))))))))))))))))
/-! #### is_met -/
abbrev n_is_met : List Str := ["tree", "rows", "fields"]
theorem sc_is_met : FnScope n_is_met ["tree", "rows", "fields"] (defScope s_is_met) := ⟨rfl, rfl, rfl, by decide +kernel, rfl, by decide +kernel, by decide +kernel⟩
def m_is_met : MS Unit := (mRet (mBOr (mOp dIs (mVar 0) (mC .none)) (mOp dIsB (mCall (F_value_of 6) (mCons (mVar 0) (mCons (mVar 1) (mCons (mVar 2) mNil)))) (mC (.bool true)))))
def F_is_met : List D → Option D := runP 3 3 m_is_met
theorem ok_is_met (T : Txt K mg) : Def1 P wd K mg base "is_met" ["tree", "rows", "fields"] 9 (spP K F_is_met) := def_pure T.d_is_met sc_is_met fun f cdv A outer s H E hr =>
    (db_one (ds_ret (de_or (de_cmp op_isN od_is (de_var 0) de_non (nomark _)) (de_and1 (de_cmp op_isB od_isB (call_P (ok_value_of T 6) (hr.mono (by decide)) rfl (da_cons (de_var 0) (da_cons (de_var 1) (da_cons (de_var 2) da_nil)))) de_bl (nomark _))))))
/-! #### parts_of -/
abbrev n_parts_of : List Str := ["tree"]
theorem sc_parts_of : FnScope n_parts_of ["tree"] (defScope s_parts_of) := ⟨rfl, rfl, rfl, by decide +kernel, rfl, by decide +kernel, by decide +kernel⟩
def m_parts_of : MS Unit := (mSeq (mIfS (mOpT (dInF false) (mOp dIx (mVar 0) (mC (.int 0))) (mTup (mCons (mC (.str "value")) (mCons (mC (.str "cell")) (mCons (mC (.str "field")) (mCons (mC (.str "count")) mNil))))))
    (mRetF (mLst mNil))
    mSkip)
    (mSeq (mIfS (mOpT (dInF false) (mOp dIx (mVar 0) (mC (.int 0))) (mTup (mCons (mC (.str "null")) (mCons (mC (.str "not")) (mCons (mC (.str "among")) (mCons (mC (.str "count of")) (mCons (mC (.str "sum")) (mCons (mC (.str "least")) (mCons (mC (.str "greatest")) mNil)))))))))
    (mRetF (mLst (mCons (mTup (mCons (mC (.int 1)) (mCons (mOp dIx (mVar 0) (mC (.int 1))) mNil))) mNil)))
    mSkip)
    (mRetF (mLst (mCons (mTup (mCons (mC (.int 1)) (mCons (mOp dIx (mVar 0) (mC (.int 1))) mNil))) (mCons (mTup (mCons (mC (.int 2)) (mCons (mOp dIx (mVar 0) (mC (.int 2))) mNil))) mNil))))))
def F_parts_of : List D → Option D := runP 1 1 m_parts_of
theorem ok_parts_of (T : Txt K mg) : Def1 P wd K mg base "parts_of" ["tree"] 1 (spP K F_parts_of) := def_pure T.d_parts_of sc_parts_of fun f cdv A outer s H E hr =>
    (db_cons (ds_if (dt_cmp op_in_seq (od_inF false) (de_ix (de_var 0) de_int) (de_tup (da_cons de_str (da_cons de_str (da_cons de_str (da_cons de_str da_nil))))) (by rfl))
    (db_one (ds_retF (df_lst da_nil)))
    db_nil)
    (db_cons (ds_if (dt_cmp op_in_seq (od_inF false) (de_ix (de_var 0) de_int) (de_tup (da_cons de_str (da_cons de_str (da_cons de_str (da_cons de_str (da_cons de_str (da_cons de_str (da_cons de_str da_nil)))))))) (by rfl))
    (db_one (ds_retF (df_lst (da_cons (de_tup (da_cons de_int (da_cons (de_ix (de_var 0) de_int) da_nil))) da_nil))))
    db_nil)
    (db_one (ds_retF (df_lst (da_cons (de_tup (da_cons de_int (da_cons (de_ix (de_var 0) de_int) da_nil))) (da_cons (de_tup (da_cons de_int (da_cons (de_ix (de_var 0) de_int) da_nil))) da_nil)))))))
/-! #### places_of -/
abbrev n_places_of : List Str := ["tree", "found", "place", "part", "path", "inner"]
theorem sc_places_of : FnScope n_places_of ["tree"] (defScope s_places_of) := ⟨rfl, rfl, rfl, by decide +kernel, rfl, by decide +kernel, by decide +kernel⟩
def lb_places_of_1 (self : List D → Option D) : MS Unit := (mExt 1 (mL (mComp (mItL (mCall self (mCons (mVar 3) mNil))) [4, 5] (bTup 2 (bCons (bName 4) (bCons (bName 5) bNil))) mYes (mTup (mCons (mOp dAdd (mTup (mCons (mVar 2) mNil)) (mVar 4)) (mCons (mVar 5) mNil))))))
def m_places_of (self : List D → Option D) : MS Unit := (mSeq (mSetF 1 (mLst (mCons (mTup (mCons (mTup mNil) (mCons (mVar 0) mNil))) mNil)))
    (mSeq (mFor (mItL (mCall F_parts_of (mCons (mVar 0) mNil))) (bTup 2 (bCons (bName 2) (bCons (bName 3) bNil))) (lb_places_of_1 self))
    (mRetOw 1)))
def F_places_of : Nat → List D → Option D
  | 0 => fun _ => none
  | k + 1 => runP 6 1 (m_places_of (F_places_of k))
theorem ok_places_of (T : Txt K mg) : ∀ k : Nat, Def1 P wd K mg base "places_of" ["tree"] (2 + k) (spP K (F_places_of k))
  | 0 => def_no T.d_places_of sc_places_of spP_no
  | k + 1 => def_pure T.d_places_of sc_places_of fun f cdv A outer s H E hr =>
    (db_cons (ds_setF (i := 1) sc_places_of.nd rfl (by first | exact Or.inl rfl | exact Or.inr rfl) (df_lst (da_cons (de_tup (da_cons (de_tup da_nil) (da_cons (de_var 0) da_nil))) da_nil)))
    (db_cons (ds_for PassesOwn.never rfl (di_list (call_P (ok_parts_of T) (hr.mono (Nat.le_trans (by decide : 1 ≤ 2) (Nat.le_add_right 2 k))) rfl (da_cons (de_var 0) da_nil))) (dg_tup rfl (dgs_cons (dg_name (i := 2) sc_places_of.nd rfl (by first | exact Or.inl rfl | exact Or.inr rfl)) (dgs_cons (dg_name (i := 3) sc_places_of.nd rfl (by first | exact Or.inl rfl | exact Or.inr rfl)) dgs_nil)))
    (db_one (ds_extend 1 (de_fresh (df_comp (own := [("path", 4), ("inner", 5)]) rfl sc_places_of.nd (di_list (call_P (ok_places_of T k) (hr.mono (Nat.le_refl _)) rfl (da_cons (de_var 3) da_nil))) (blkOk_by (N := n_places_of) (sc := defScope s_places_of) (by decide +kernel)) (fun _ _ _ _ _ => (dg_tup rfl (dgs_cons (dg_name (i := 4) sc_places_of.nd rfl (by first | exact Or.inl rfl | exact Or.inr rfl)) (dgs_cons (dg_name (i := 5) sc_places_of.nd rfl (by first | exact Or.inl rfl | exact Or.inr rfl)) dgs_nil)))) (fun _ _ _ _ _ => dts_nil) (fun _ _ _ _ _ => (de_tup (da_cons (de_op op_addD od_addD (de_tup (da_cons (de_var 2) da_nil)) (de_var 4)) (da_cons (de_var 5) da_nil)))))))))
    (db_one (ds_retOw 1))))
/-! #### put_at -/
abbrev n_put_at : List Str := ["tree", "path", "part", "place"]
theorem sc_put_at : FnScope n_put_at ["tree", "path", "part"] (defScope s_put_at) := ⟨rfl, rfl, rfl, by decide +kernel, rfl, by decide +kernel, by decide +kernel⟩
def m_put_at (self : List D → Option D) : MS Unit := (mSeq (mIfS (mOpT dEq (mVar 1) (mTup mNil))
    (mRet (mVar 2))
    mSkip)
    (mSeq (mSet 3 (mOp dIx (mVar 1) (mC (.int 0))))
    (mRet (mOp dAdd (mOp dAdd (mSlT (mVar 0) mNo (mPart (mVar 3))) (mTup (mCons (mCall self (mCons (mOp dIx (mVar 0) (mVar 3)) (mCons (mSlT (mVar 1) (mPart (mC (.int 1))) mNo) (mCons (mVar 2) mNil)))) mNil))) (mSlT (mVar 0) (mPart (mOp dAdd (mVar 3) (mC (.int 1)))) mNo)))))
def F_put_at : Nat → List D → Option D
  | 0 => fun _ => none
  | k + 1 => runP 4 3 (m_put_at (F_put_at k))
theorem ok_put_at (T : Txt K mg) : ∀ k : Nat, Def1 P wd K mg base "put_at" ["tree", "path", "part"] (1 + k) (spP K (F_put_at k))
  | 0 => def_no T.d_put_at sc_put_at spP_no
  | k + 1 => def_pure T.d_put_at sc_put_at fun f cdv A outer s H E hr =>
    (db_cons (ds_if (dt_cmp (op_eqD (hu64 hr)) od_eq (de_var 1) (de_tup da_nil) (nomark _))
    (db_one (ds_ret (de_var 2)))
    db_nil)
    (db_cons (ds_set (i := 3) sc_put_at.nd rfl (by first | exact Or.inl rfl | exact Or.inr rfl) (de_ix (de_var 1) de_int))
    (db_one (ds_ret (de_op op_addD od_addD (de_op op_addD od_addD (de_sliceT (de_var 0) do_none (do_some (de_var 3))) (de_tup (da_cons (call_P (ok_put_at T k) (hr.mono (Nat.le_refl _)) rfl (da_cons (de_ix (de_var 0) (de_var 3)) (da_cons (de_sliceT (de_var 1) (do_some de_int) do_none) (da_cons (de_var 2) da_nil)))) da_nil))) (de_sliceT (de_var 0) (do_some (de_op op_addD od_addD (de_var 3) de_int)) do_none))))))
/-! #### cells_of -/
abbrev n_cells_of : List Str := ["tree", "found", "path", "part"]
theorem sc_cells_of : FnScope n_cells_of ["tree"] (defScope s_cells_of) := ⟨rfl, rfl, rfl, by decide +kernel, rfl, by decide +kernel, by decide +kernel⟩
def m_cells_of : MS Unit := (mSeq (mThen (mSetF 1 (mComp (mItL (mCall (F_places_of 6) (mCons (mVar 0) mNil))) [2, 3] (bTup 2 (bCons (bName 2) (bCons (bName 3) bNil))) (mOpT dEq (mOp dIx (mVar 3) (mC (.int 0))) (mC (.str "cell"))) (mSlT (mVar 3) (mPart (mC (.int 1))) mNo))) 1)
    (mRetF (mCallF dSortedSet (mCons (mVar 1) mNil))))
def F_cells_of : List D → Option D := runP 4 1 m_cells_of
theorem ok_cells_of (T : Txt K mg) : Def1 P wd K mg base "cells_of" ["tree"] 9 (spP K F_cells_of) := def_pure T.d_cells_of sc_cells_of fun f cdv A outer s H E hr =>
    (db_cons (ds_then 1 (ds_setLc (own := [("path", 2), ("part", 3)]) rfl sc_cells_of.nd rfl rfl (sw_true rfl rfl rfl (by decide +kernel)) (di_list (call_P (ok_places_of T 6) (hr.mono (by decide)) rfl (da_cons (de_var 0) da_nil))) (blkOk_by (N := n_cells_of) (sc := defScope s_cells_of) (by decide +kernel)) (fun _ _ _ _ _ => (dg_tup rfl (dgs_cons (dg_name (i := 2) sc_cells_of.nd rfl (by first | exact Or.inl rfl | exact Or.inr rfl)) (dgs_cons (dg_name (i := 3) sc_cells_of.nd rfl (by first | exact Or.inl rfl | exact Or.inr rfl)) dgs_nil)))) (fun _ _ _ _ _ => (dts_one (dt_cmp (op_eqD (hu64 hr)) od_eq (de_ix (de_var 3) de_int) de_str (nomark _)))) (fun _ _ _ _ _ => (de_sliceT (de_var 3) (do_some de_int) do_none))))
    (db_one (ds_retF (df_sortedSet rfl (hu65 hr) rfl T.z_sorted rfl T.z_set (da_cons (de_var 1) da_nil)))))
/-! #### tables_of -/
abbrev n_tables_of : List Str := ["tree", "cell"]
theorem sc_tables_of : FnScope n_tables_of ["tree"] (defScope s_tables_of) := ⟨rfl, rfl, rfl, by decide +kernel, rfl, by decide +kernel, by decide +kernel⟩
def m_tables_of : MS Unit := (mRetF (mCallF dSortedSet (mCons (mL (mComp (mItL (mCall F_cells_of (mCons (mVar 0) mNil))) [1] (bName 1) mYes (mOp dIx (mVar 1) (mC (.int 0))))) mNil)))
def F_tables_of : List D → Option D := runP 2 1 m_tables_of
theorem ok_tables_of (T : Txt K mg) : Def1 P wd K mg base "tables_of" ["tree"] 10 (spP K F_tables_of) := def_pure T.d_tables_of sc_tables_of fun f cdv A outer s H E hr =>
    (db_one (ds_retF (df_sortedSet rfl (hu65 hr) rfl T.z_sorted rfl T.z_set (da_cons (de_fresh (df_comp (own := [("cell", 1)]) rfl sc_tables_of.nd (di_list (call_P (ok_cells_of T) (hr.mono (by decide)) rfl (da_cons (de_var 0) da_nil))) (blkOk_by (N := n_tables_of) (sc := defScope s_tables_of) (by decide +kernel)) (fun _ _ _ _ _ => (dg_name (i := 1) sc_tables_of.nd rfl (by first | exact Or.inl rfl | exact Or.inr rfl))) (fun _ _ _ _ _ => dts_nil) (fun _ _ _ _ _ => (de_ix (de_var 1) de_int)))) da_nil))))
/-! #### conjuncts -/
abbrev n_conjuncts : List Str := ["tree"]
theorem sc_conjuncts : FnScope n_conjuncts ["tree"] (defScope s_conjuncts) := ⟨rfl, rfl, rfl, by decide +kernel, rfl, by decide +kernel, by decide +kernel⟩
def m_conjuncts (self : List D → Option D) : MS Unit := (mSeq (mIfS (mOpT dIs (mVar 0) (mC .none))
    (mRetF (mLst mNil))
    mSkip)
    (mSeq (mIfS (mOpT dEq (mOp dIx (mVar 0) (mC (.int 0))) (mC (.str "and")))
    (mRet (mOp dAdd (mCall self (mCons (mOp dIx (mVar 0) (mC (.int 1))) mNil)) (mCall self (mCons (mOp dIx (mVar 0) (mC (.int 2))) mNil))))
    mSkip)
    (mRetF (mLst (mCons (mVar 0) mNil)))))
def F_conjuncts : Nat → List D → Option D
  | 0 => fun _ => none
  | k + 1 => runP 1 1 (m_conjuncts (F_conjuncts k))
theorem ok_conjuncts (T : Txt K mg) : ∀ k : Nat, Def1 P wd K mg base "conjuncts" ["tree"] (1 + k) (spP K (F_conjuncts k))
  | 0 => def_no T.d_conjuncts sc_conjuncts spP_no
  | k + 1 => def_pure T.d_conjuncts sc_conjuncts fun f cdv A outer s H E hr =>
    (db_cons (ds_if (dt_cmp op_isN od_is (de_var 0) de_non (nomark _))
    (db_one (ds_retF (df_lst da_nil)))
    db_nil)
    (db_cons (ds_if (dt_cmp (op_eqD (hu64 hr)) od_eq (de_ix (de_var 0) de_int) de_str (nomark _))
    (db_one (ds_ret (de_op op_addD od_addD (call_P (ok_conjuncts T k) (hr.mono (Nat.le_refl _)) rfl (da_cons (de_ix (de_var 0) de_int) da_nil)) (call_P (ok_conjuncts T k) (hr.mono (Nat.le_refl _)) rfl (da_cons (de_ix (de_var 0) de_int) da_nil)))))
    db_nil)
    (db_one (ds_retF (df_lst (da_cons (de_var 0) da_nil))))))
/-! #### joined -/
abbrev n_joined : List Str := ["parts", "found", "part"]
theorem sc_joined : FnScope n_joined ["parts"] (defScope s_joined) := ⟨rfl, rfl, rfl, by decide +kernel, rfl, by decide +kernel, by decide +kernel⟩
def lb_joined_1 : MS Unit := (mSet 1 (mTup (mCons (mC (.str "and")) (mCons (mVar 1) (mCons (mVar 2) mNil)))))
def m_joined : MS Unit := (mSeq (mIfS (mOpT dEq (mCall dLen (mCons (mVar 0) mNil)) (mC (.int 0)))
    (mRet (mC .none))
    mSkip)
    (mSeq (mSet 1 (mOp dIx (mVar 0) (mC (.int 0))))
    (mSeq (mFor (mItL (mL (mSlL (mVar 0) (mPart (mC (.int 1))) mNo))) (bName 2) lb_joined_1)
    (mRet (mVar 1)))))
def F_joined : List D → Option D := runP 3 1 m_joined
theorem ok_joined (T : Txt K mg) : Def1 P wd K mg base "joined" ["parts"] 1 (spP K F_joined) := def_pure T.d_joined sc_joined fun f cdv A outer s H E hr =>
    (db_cons (ds_if (dt_cmp (op_eqD (hu64 hr)) od_eq (de_callB call_len cd_len rfl T.z_len (by decide +kernel) (da_cons (de_var 0) da_nil)) de_int (nomark _))
    (db_one (ds_ret de_non))
    db_nil)
    (db_cons (ds_set (i := 1) sc_joined.nd rfl (by first | exact Or.inl rfl | exact Or.inr rfl) (de_ix (de_var 0) de_int))
    (db_cons (ds_for PassesOwn.never rfl (di_list (de_fresh (df_slice (de_var 0) (do_some de_int) do_none))) (dg_name (i := 2) sc_joined.nd rfl (by first | exact Or.inl rfl | exact Or.inr rfl))
    (db_one (ds_set (i := 1) sc_joined.nd rfl (by first | exact Or.inl rfl | exact Or.inr rfl) (de_tup (da_cons de_str (da_cons (de_var 1) (da_cons (de_var 2) da_nil)))))))
    (db_one (ds_ret (de_var 1))))))
/-! #### size_of -/
abbrev n_size_of : List Str := ["tree"]
theorem sc_size_of : FnScope n_size_of ["tree"] (defScope s_size_of) := ⟨rfl, rfl, rfl, by decide +kernel, rfl, by decide +kernel, by decide +kernel⟩
def m_size_of : MS Unit := (mRet (mCall dLen (mCons (mCall (F_places_of 6) (mCons (mVar 0) mNil)) mNil)))
def F_size_of : List D → Option D := runP 1 1 m_size_of
theorem ok_size_of (T : Txt K mg) : Def1 P wd K mg base "size_of" ["tree"] 9 (spP K F_size_of) := def_pure T.d_size_of sc_size_of fun f cdv A outer s H E hr =>
    (db_one (ds_ret (de_callB call_len cd_len rfl T.z_len (by decide +kernel) (da_cons (call_P (ok_places_of T 6) (hr.mono (by decide)) rfl (da_cons (de_var 0) da_nil)) da_nil))))
/-! #### _law_draw -/
abbrev n__law_draw : List Str := ["state", "script", "size", "cell", "mixed", "digit"]
theorem sc__law_draw : FnScope n__law_draw ["state", "script", "size"] (defScope s__law_draw) := ⟨rfl, rfl, rfl, by decide +kernel, rfl, by decide +kernel, by decide +kernel⟩
def m__law_draw : MS Dc := (mSeq (mIfS (mOpT dEq (mStIx 0 (mC (.int 1))) (mC (.int 0)))
    (mSeq (mSet 3 (mC (.int 0)))
    (mSeq (mIfS (mOpT dGtI (mRawLen 1) (mC (.int 0)))
    (mSet 3 (mRawIx 1 (mOp dMod (mStIx 0 (mC (.int 0))) (mRawLen 1))))
    mSkip)
    (mSeq (mIfS (mOpT dLtI (mVar 3) (mC (.int 0)))
    (mSet 3 (mOp dSub (mC (.int 1)) (mOp dMul (mC (.int 2)) (mVar 3))))
    mSkip)
    (mSeq (mSet 4 (mOp dMod (mCall dInt (mCons (mOp dMul (mOp dAdd (mOp dAdd (mVar 3) (mOp dMul (mStIx 0 (mC (.int 0))) (mC (.int 7919)))) (mC (.int 1))) (mC (.int 48271))) mNil)) (mC (.int 2147483647))))
    (mSeq (mStSet 0 (mC (.int 1)) (mOp dMod (mCall dInt (mCons (mOp dAdd (mOp dMul (mVar 4) (mC (.int 69621))) (mOp dMul (mStIx 0 (mC (.int 0))) (mC (.int 104729)))) mNil)) (mC (.int 4294967291))))
    (mSeq (mIfS (mAnd (mOpT dGeI (mVar 3) (mOp dPow (mC (.int 10)) (mC (.int 18)))) (mOpT dLtI (mStIx 0 (mC (.int 0))) (mRawLen 1)))
    (mStSet 0 (mC (.int 1)) (mVar 3))
    mSkip)
    (mStSet 0 (mC (.int 0)) (mOp dAdd (mStIx 0 (mC (.int 0))) (mC (.int 1))))))))))
    mSkip)
    (mSeq (mSet 5 (mOp dMod (mCall dInt (mCons (mStIx 0 (mC (.int 1))) mNil)) (mVar 2)))
    (mSeq (mStSet 0 (mC (.int 1)) (mOp dDiv (mStIx 0 (mC (.int 1))) (mVar 2)))
    (mRet (mVar 5)))))
def F__law_draw : List SV → Dc → Option (D × Dc) := runG 6 3 m__law_draw
theorem ok__law_draw (T : Txt K mg) : Def1 P wd K mg base "_law_draw" ["state", "script", "size"] 1 (spG K (drC K) F__law_draw) := def_ghost T.d__law_draw sc__law_draw fun f cdv A outer s H E hr =>
    (db_cons (ds_if (dt_cmp (op_eqD (hu64 hr)) od_eq (de_stIx 0 de_int) de_int (nomark _))
    (db_cons (ds_set (i := 3) sc__law_draw.nd rfl (by first | exact Or.inl rfl | exact Or.inr rfl) de_int)
    (db_cons (ds_if (dt_cmp op_gt od_gtI (de_rawLen 1 rfl T.z_len) de_int (nomark _))
    (db_one (ds_set (i := 3) sc__law_draw.nd rfl (by first | exact Or.inl rfl | exact Or.inr rfl) (de_rawIx 1 (de_op op_modN od_mod (de_stIx 0 de_int) (de_rawLen 1 rfl T.z_len)))))
    db_nil)
    (db_cons (ds_if (dt_cmp op_lt od_ltI (de_var 3) de_int (nomark _))
    (db_one (ds_set (i := 3) sc__law_draw.nd rfl (by first | exact Or.inl rfl | exact Or.inr rfl) (de_op op_sub od_sub de_int (de_op op_mul od_mul de_int (de_var 3)))))
    db_nil)
    (db_cons (ds_set (i := 4) sc__law_draw.nd rfl (by first | exact Or.inl rfl | exact Or.inr rfl) (de_op op_modN od_mod (de_callTy call_int1 cd_int rfl T.z_int (by decide +kernel) (da_cons (de_op op_mul od_mul (de_op op_addD od_addD (de_op op_addD od_addD (de_var 3) (de_op op_mul od_mul (de_stIx 0 de_int) de_int)) de_int) de_int) da_nil)) de_int))
    (db_cons (ds_stSet 0 de_int (de_op op_modN od_mod (de_callTy call_int1 cd_int rfl T.z_int (by decide +kernel) (da_cons (de_op op_addD od_addD (de_op op_mul od_mul (de_var 4) de_int) (de_op op_mul od_mul (de_stIx 0 de_int) de_int)) da_nil)) de_int))
    (db_cons (ds_if (PW.pt (dw_and (dt_cmp op_ge od_geI (de_var 3) (de_op op_pow od_pow de_int de_int) (nomark _)) (dw_and1 (dt_cmp op_lt od_ltI (de_stIx 0 de_int) (de_rawLen 1 rfl T.z_len) (nomark _)))))
    (db_one (ds_stSet 0 de_int (de_var 3)))
    db_nil)
    (db_one (ds_stSet 0 de_int (de_op op_addD od_addD (de_stIx 0 de_int) de_int)))))))))
    db_nil)
    (db_cons (ds_set (i := 5) sc__law_draw.nd rfl (by first | exact Or.inl rfl | exact Or.inr rfl) (de_op op_modN od_mod (de_callTy call_int1 cd_int rfl T.z_int (by decide +kernel) (da_cons (de_stIx 0 de_int) da_nil)) (de_var 2)))
    (db_cons (ds_stSet 0 de_int (de_op op_fdivN od_div (de_stIx 0 de_int) (de_var 2)))
    (db_one (ds_ret (de_var 5))))))
/-! #### _law_pick -/
abbrev n__law_pick : List Str := ["state", "script", "items"]
theorem sc__law_pick : FnScope n__law_pick ["state", "script", "items"] (defScope s__law_pick) := ⟨rfl, rfl, rfl, by decide +kernel, rfl, by decide +kernel, by decide +kernel⟩
def m__law_pick : MS Dc := (mRet (mOp dIx (mVar 2) (mCallG F__law_draw (gConsS 0 (gConsS 1 (gCons (mCall dLen (mCons (mVar 2) mNil)) gNil))))))
def F__law_pick : List SV → Dc → Option (D × Dc) := runG 3 3 m__law_pick
theorem ok__law_pick (T : Txt K mg) : Def1 P wd K mg base "_law_pick" ["state", "script", "items"] 2 (spG K (drC K) F__law_pick) := def_ghost T.d__law_pick sc__law_pick fun f cdv A outer s H E hr =>
    (db_one (ds_ret (de_ix (de_var 2) (call_G (ok__law_draw T) (hr.mono (by decide)) rfl (dg_st (i := 0) (dg_st (i := 1) (dg_cons (de_callB call_len cd_len rfl T.z_len (by decide +kernel) (da_cons (de_var 2) da_nil)) dg_nil)))))))
/-! #### _law_some -/
abbrev n__law_some : List Str := ["state", "script", "kind"]
theorem sc__law_some : FnScope n__law_some ["state", "script", "kind"] (defScope s__law_some) := ⟨rfl, rfl, rfl, by decide +kernel, rfl, by decide +kernel, by decide +kernel⟩
def m__law_some : MS Dc := (mSeq (mIfS (mOpT dEq (mCallG F__law_draw (gConsS 0 (gConsS 1 (gCons (mC (.int 6)) gNil)))) (mC (.int 0)))
    (mRet (mC .none))
    mSkip)
    (mSeq (mIfS (mOpT dEq (mVar 2) (mC (.str "int")))
    (mRet (mOp dSub (mCallG F__law_draw (gConsS 0 (gConsS 1 (gCons (mC (.int 6)) gNil)))) (mC (.int 2))))
    mSkip)
    (mSeq (mIfS (mOpT dEq (mVar 2) (mC (.str "bool")))
    (mRet (mOp dEq (mCallG F__law_draw (gConsS 0 (gConsS 1 (gCons (mC (.int 2)) gNil)))) (mC (.int 0))))
    mSkip)
    (mRet (mCallG F__law_pick (gConsS 0 (gConsS 1 (gCons (mL (mLst (mCons (mC (.str "")) (mCons (mC (.str "a")) (mCons (mC (.str "b")) (mCons (mC (.str "ab")) (mCons (mC (.str "b a")) mNil))))))) gNil))))))))
def F__law_some : List SV → Dc → Option (D × Dc) := runG 3 3 m__law_some
theorem ok__law_some (T : Txt K mg) : Def1 P wd K mg base "_law_some" ["state", "script", "kind"] 3 (spG K (drC K) F__law_some) := def_ghost T.d__law_some sc__law_some fun f cdv A outer s H E hr =>
    (db_cons (ds_if (dt_cmp (op_eqD (hu64 hr)) od_eq (call_G (ok__law_draw T) (hr.mono (by decide)) rfl (dg_st (i := 0) (dg_st (i := 1) (dg_cons de_int dg_nil)))) de_int (nomark _))
    (db_one (ds_ret de_non))
    db_nil)
    (db_cons (ds_if (dt_cmp (op_eqD (hu64 hr)) od_eq (de_var 2) de_str (nomark _))
    (db_one (ds_ret (de_op op_sub od_sub (call_G (ok__law_draw T) (hr.mono (by decide)) rfl (dg_st (i := 0) (dg_st (i := 1) (dg_cons de_int dg_nil)))) de_int)))
    db_nil)
    (db_cons (ds_if (dt_cmp (op_eqD (hu64 hr)) od_eq (de_var 2) de_str (nomark _))
    (db_one (ds_ret (de_cmp (op_eqD (hu64 hr)) od_eq (call_G (ok__law_draw T) (hr.mono (by decide)) rfl (dg_st (i := 0) (dg_st (i := 1) (dg_cons de_int dg_nil)))) de_int (nomark _))))
    db_nil)
    (db_one (ds_ret (call_G (ok__law_pick T) (hr.mono (by decide)) rfl (dg_st (i := 0) (dg_st (i := 1) (dg_cons (de_fresh (df_lst (da_cons de_str (da_cons de_str (da_cons de_str (da_cons de_str (da_cons de_str da_nil))))))) dg_nil)))))))))
/-! #### _law_leaf -/
abbrev n__law_leaf : List Str := ["state", "script", "kind", "cells", "own", "cell"]
theorem sc__law_leaf : FnScope n__law_leaf ["state", "script", "kind", "cells"] (defScope s__law_leaf) := ⟨rfl, rfl, rfl, by decide +kernel, rfl, by decide +kernel, by decide +kernel⟩
def m__law_leaf : MS Dc := (mSeq (mThen (mSetF 4 (mComp (mItL (mVar 3)) [5] (bName 5) (mOpT dEq (mOp dIx (mVar 5) (mC (.int 2))) (mVar 2)) (mVar 5))) 4)
    (mSeq (mIfS (mAnd (mOpT dNe (mVar 4) (mL (mLst mNil))) (mOpT dGtI (mCallG F__law_draw (gConsS 0 (gConsS 1 (gCons (mC (.int 3)) gNil)))) (mC (.int 0))))
    (mRet (mOp dAdd (mTup (mCons (mC (.str "cell")) mNil)) (mSlT (mCallG F__law_pick (gConsS 0 (gConsS 1 (gCons (mVar 4) gNil)))) mNo (mPart (mC (.int 2))))))
    mSkip)
    (mRet (mTup (mCons (mC (.str "value")) (mCons (mCallG F__law_some (gConsS 0 (gConsS 1 (gCons (mVar 2) gNil)))) mNil))))))
def F__law_leaf : List SV → Dc → Option (D × Dc) := runG 6 4 m__law_leaf
theorem ok__law_leaf (T : Txt K mg) : Def1 P wd K mg base "_law_leaf" ["state", "script", "kind", "cells"] 4 (spG K (drC K) F__law_leaf) := def_ghost T.d__law_leaf sc__law_leaf fun f cdv A outer s H E hr =>
    (db_cons (ds_then 4 (ds_setLc (own := [("cell", 5)]) rfl sc__law_leaf.nd rfl rfl (sw_true rfl rfl rfl (by decide +kernel)) (di_list (de_var 3)) (blkOk_by (N := n__law_leaf) (sc := defScope s__law_leaf) (by decide +kernel)) (fun _ _ _ _ _ => (dg_name (i := 5) sc__law_leaf.nd rfl (by first | exact Or.inl rfl | exact Or.inr rfl))) (fun _ _ _ _ _ => (dts_one (dt_cmp (op_eqD (hu64 hr)) od_eq (de_ix (de_var 5) de_int) (de_var 2) (nomark _)))) (fun _ _ _ _ _ => (de_var 5))))
    (db_cons (ds_if (PW.pt (dw_and (dt_cmp (op_neD (hu64 hr)) od_ne (de_var 4) (de_fresh (df_lst da_nil)) (nomark _)) (dw_and1 (dt_cmp op_gt od_gtI (call_G (ok__law_draw T) (hr.mono (by decide)) rfl (dg_st (i := 0) (dg_st (i := 1) (dg_cons de_int dg_nil)))) de_int (nomark _)))))
    (db_one (ds_ret (de_op op_addD od_addD (de_tup (da_cons de_str da_nil)) (de_sliceT (call_G (ok__law_pick T) (hr.mono (by decide)) rfl (dg_st (i := 0) (dg_st (i := 1) (dg_cons (de_var 4) dg_nil)))) do_none (do_some de_int)))))
    db_nil)
    (db_one (ds_ret (de_tup (da_cons de_str (da_cons (call_G (ok__law_some T) (hr.mono (by decide)) rfl (dg_st (i := 0) (dg_st (i := 1) (dg_cons (de_var 2) dg_nil)))) da_nil)))))))
/-! #### _law_expr -/
abbrev n__law_expr : List Str := ["state", "script", "kind", "cells", "fuel", "word", "inner", "one", "turn"]
theorem sc__law_expr : FnScope n__law_expr ["state", "script", "kind", "cells", "fuel"] (defScope s__law_expr) := ⟨rfl, rfl, rfl, by decide +kernel, rfl, by decide +kernel, by decide +kernel⟩
def m__law_expr (self : List SV → Dc → Option (D × Dc)) : MS Dc := (mSeq (mIfS (mOr (mOpT dEq (mVar 4) (mC (.int 0))) (mOr (mOpT dEq (mVar 2) (mC (.str "text"))) (mOpT dEq (mCallG F__law_draw (gConsS 0 (gConsS 1 (gCons (mC (.int 4)) gNil)))) (mC (.int 0)))))
    (mRet (mCallG F__law_leaf (gConsS 0 (gConsS 1 (gCons (mVar 2) (gCons (mVar 3) gNil))))))
    mSkip)
    (mSeq (mIfS (mOpT dEq (mVar 2) (mC (.str "int")))
    (mSeq (mSet 5 (mCallG F__law_pick (gConsS 0 (gConsS 1 (gCons (mL (mLst (mCons (mC (.str "plus")) (mCons (mC (.str "minus")) (mCons (mC (.str "times")) mNil))))) gNil)))))
    (mRet (mTup (mCons (mVar 5) (mCons (mCallG self (gConsS 0 (gConsS 1 (gCons (mVar 2) (gCons (mVar 3) (gCons (mOp dSub (mVar 4) (mC (.int 1))) gNil)))))) (mCons (mCallG self (gConsS 0 (gConsS 1 (gCons (mVar 2) (gCons (mVar 3) (gCons (mOp dSub (mVar 4) (mC (.int 1))) gNil)))))) mNil))))))
    mSkip)
    (mSeq (mSet 5 (mCallG F__law_pick (gConsS 0 (gConsS 1 (gCons (mL (mLst (mCons (mC (.str "same")) (mCons (mC (.str "less")) (mCons (mC (.str "same")) (mCons (mC (.str "less")) (mCons (mC (.str "and")) (mCons (mC (.str "or")) (mCons (mC (.str "and")) (mCons (mC (.str "not")) (mCons (mC (.str "null")) (mCons (mC (.str "among")) mNil)))))))))))) gNil)))))
    (mSeq (mSet 6 (mCallG F__law_pick (gConsS 0 (gConsS 1 (gCons (mL (mLst (mCons (mC (.str "int")) (mCons (mC (.str "int")) (mCons (mC (.str "text")) (mCons (mC (.str "bool")) mNil)))))) gNil)))))
    (mSeq (mIfS (mOpT (dInF false) (mVar 5) (mL (mLst (mCons (mC (.str "and")) (mCons (mC (.str "or")) (mCons (mC (.str "not")) mNil))))))
    (mSet 6 (mC (.str "bool")))
    mSkip)
    (mSeq (mSet 7 (mCallG self (gConsS 0 (gConsS 1 (gCons (mVar 6) (gCons (mVar 3) (gCons (mOp dSub (mVar 4) (mC (.int 1))) gNil)))))))
    (mSeq (mIfS (mOpT (dInF false) (mVar 5) (mL (mLst (mCons (mC (.str "not")) (mCons (mC (.str "null")) mNil)))))
    (mRet (mTup (mCons (mVar 5) (mCons (mVar 7) mNil))))
    mSkip)
    (mSeq (mIfS (mOpT dEq (mVar 5) (mC (.str "among")))
    (mRet (mTup (mCons (mVar 5) (mCons (mVar 7) (mCons (mL (mComp (mRng1 (mCons (mOp dAdd (mC (.int 1)) (mCallG F__law_draw (gConsS 0 (gConsS 1 (gCons (mC (.int 3)) gNil))))) mNil)) [8] (bName 8) mYes (mCallG F__law_some (gConsS 0 (gConsS 1 (gCons (mVar 6) gNil)))))) mNil)))))
    mSkip)
    (mRet (mTup (mCons (mVar 5) (mCons (mVar 7) (mCons (mCallG self (gConsS 0 (gConsS 1 (gCons (mVar 6) (gCons (mVar 3) (gCons (mOp dSub (mVar 4) (mC (.int 1))) gNil)))))) mNil)))))))))))))
def F__law_expr : Nat → List SV → Dc → Option (D × Dc)
  | 0 => fun _ _ => none
  | k + 1 => runG 9 5 (m__law_expr (F__law_expr k))
theorem ok__law_expr (T : Txt K mg) : ∀ k : Nat, Def1 P wd K mg base "_law_expr" ["state", "script", "kind", "cells", "fuel"] (5 + k) (spG K (drC K) (F__law_expr k))
  | 0 => def_no T.d__law_expr sc__law_expr spG_no
  | k + 1 => def_ghost T.d__law_expr sc__law_expr fun f cdv A outer s H E hr =>
    (db_cons (ds_if (PW.pt (dw_or (dt_cmp (op_eqD (hu64 hr)) od_eq (de_var 4) de_int (nomark _)) (dw_or (dt_cmp (op_eqD (hu64 hr)) od_eq (de_var 2) de_str (nomark _)) (dw_or1 (dt_cmp (op_eqD (hu64 hr)) od_eq (call_G (ok__law_draw T) (hr.mono (Nat.le_trans (by decide : 1 ≤ 5) (Nat.le_add_right 5 k))) rfl (dg_st (i := 0) (dg_st (i := 1) (dg_cons de_int dg_nil)))) de_int (nomark _))))))
    (db_one (ds_ret (call_G (ok__law_leaf T) (hr.mono (Nat.le_trans (by decide : 4 ≤ 5) (Nat.le_add_right 5 k))) rfl (dg_st (i := 0) (dg_st (i := 1) (dg_cons (de_var 2) (dg_cons (de_var 3) dg_nil)))))))
    db_nil)
    (db_cons (ds_if (dt_cmp (op_eqD (hu64 hr)) od_eq (de_var 2) de_str (nomark _))
    (db_cons (ds_set (i := 5) sc__law_expr.nd rfl (by first | exact Or.inl rfl | exact Or.inr rfl) (call_G (ok__law_pick T) (hr.mono (Nat.le_trans (by decide : 2 ≤ 5) (Nat.le_add_right 5 k))) rfl (dg_st (i := 0) (dg_st (i := 1) (dg_cons (de_fresh (df_lst (da_cons de_str (da_cons de_str (da_cons de_str da_nil))))) dg_nil)))))
    (db_one (ds_ret (de_tup (da_cons (de_var 5) (da_cons (call_G (ok__law_expr T k) (hr.mono (Nat.le_refl _)) rfl (dg_st (i := 0) (dg_st (i := 1) (dg_cons (de_var 2) (dg_cons (de_var 3) (dg_cons (de_op op_sub od_sub (de_var 4) de_int) dg_nil)))))) (da_cons (call_G (ok__law_expr T k) (hr.mono (Nat.le_refl _)) rfl (dg_st (i := 0) (dg_st (i := 1) (dg_cons (de_var 2) (dg_cons (de_var 3) (dg_cons (de_op op_sub od_sub (de_var 4) de_int) dg_nil)))))) da_nil)))))))
    db_nil)
    (db_cons (ds_set (i := 5) sc__law_expr.nd rfl (by first | exact Or.inl rfl | exact Or.inr rfl) (call_G (ok__law_pick T) (hr.mono (Nat.le_trans (by decide : 2 ≤ 5) (Nat.le_add_right 5 k))) rfl (dg_st (i := 0) (dg_st (i := 1) (dg_cons (de_fresh (df_lst (da_cons de_str (da_cons de_str (da_cons de_str (da_cons de_str (da_cons de_str (da_cons de_str (da_cons de_str (da_cons de_str (da_cons de_str (da_cons de_str da_nil)))))))))))) dg_nil)))))
    (db_cons (ds_set (i := 6) sc__law_expr.nd rfl (by first | exact Or.inl rfl | exact Or.inr rfl) (call_G (ok__law_pick T) (hr.mono (Nat.le_trans (by decide : 2 ≤ 5) (Nat.le_add_right 5 k))) rfl (dg_st (i := 0) (dg_st (i := 1) (dg_cons (de_fresh (df_lst (da_cons de_str (da_cons de_str (da_cons de_str (da_cons de_str da_nil)))))) dg_nil)))))
    (db_cons (ds_if (dt_cmp op_in_seq (od_inF false) (de_var 5) (de_fresh (df_lst (da_cons de_str (da_cons de_str (da_cons de_str da_nil))))) (by rfl))
    (db_one (ds_set (i := 6) sc__law_expr.nd rfl (by first | exact Or.inl rfl | exact Or.inr rfl) de_str))
    db_nil)
    (db_cons (ds_set (i := 7) sc__law_expr.nd rfl (by first | exact Or.inl rfl | exact Or.inr rfl) (call_G (ok__law_expr T k) (hr.mono (Nat.le_refl _)) rfl (dg_st (i := 0) (dg_st (i := 1) (dg_cons (de_var 6) (dg_cons (de_var 3) (dg_cons (de_op op_sub od_sub (de_var 4) de_int) dg_nil)))))))
    (db_cons (ds_if (dt_cmp op_in_seq (od_inF false) (de_var 5) (de_fresh (df_lst (da_cons de_str (da_cons de_str da_nil)))) (by rfl))
    (db_one (ds_ret (de_tup (da_cons (de_var 5) (da_cons (de_var 7) da_nil)))))
    db_nil)
    (db_cons (ds_if (dt_cmp (op_eqD (hu64 hr)) od_eq (de_var 5) de_str (nomark _))
    (db_one (ds_ret (de_tup (da_cons (de_var 5) (da_cons (de_var 7) (da_cons (de_fresh (df_comp (own := [("turn", 8)]) rfl sc__law_expr.nd (di_range1 rfl T.z_range (da_cons (de_op op_addD od_addD de_int (call_G (ok__law_draw T) (hr.mono (Nat.le_trans (by decide : 1 ≤ 5) (Nat.le_add_right 5 k))) rfl (dg_st (i := 0) (dg_st (i := 1) (dg_cons de_int dg_nil))))) da_nil)) (blkOk_by (N := n__law_expr) (sc := defScope s__law_expr) (by decide +kernel)) (fun _ _ _ _ _ => (dg_name (i := 8) sc__law_expr.nd rfl (by first | exact Or.inl rfl | exact Or.inr rfl))) (fun _ _ _ _ _ => dts_nil) (fun _ _ _ _ _ => (call_G (ok__law_some T) (hr.mono (Nat.le_trans (by decide : 3 ≤ 5) (Nat.le_add_right 5 k))) rfl (dg_st (i := 0) (dg_st (i := 1) (dg_cons (de_var 6) dg_nil))))))) da_nil))))))
    db_nil)
    (db_one (ds_ret (de_tup (da_cons (de_var 5) (da_cons (de_var 7) (da_cons (call_G (ok__law_expr T k) (hr.mono (Nat.le_refl _)) rfl (dg_st (i := 0) (dg_st (i := 1) (dg_cons (de_var 6) (dg_cons (de_var 3) (dg_cons (de_op op_sub od_sub (de_var 4) de_int) dg_nil)))))) da_nil))))))))))))))
/-! #### _law_val -/
abbrev n__law_val : List Str := ["tree", "rows", "fields", "word", "one", "value", "other", "strong", "part"]
theorem sc__law_val : FnScope n__law_val ["tree", "rows", "fields"] (defScope s__law_val) := ⟨rfl, rfl, rfl, by decide +kernel, rfl, by decide +kernel, by decide +kernel⟩
def m__law_val (self : List D → Option D) : MS Unit := (mSeq (mSet 3 (mOp dIx (mVar 0) (mC (.int 0))))
    (mSeq (mIfS (mOpT dEq (mVar 3) (mC (.str "value")))
    (mRet (mOp dIx (mVar 0) (mC (.int 1))))
    mSkip)
    (mSeq (mIfS (mOpT dEq (mVar 3) (mC (.str "cell")))
    (mRet (mOp dIx (mOp dIx (mVar 1) (mOp dIx (mVar 0) (mC (.int 1)))) (mOp dIx (mVar 0) (mC (.int 2)))))
    mSkip)
    (mSeq (mIfS (mOpT dEq (mVar 3) (mC (.str "field")))
    (mRet (mOp dIx (mVar 2) (mOp dIx (mVar 0) (mC (.int 1)))))
    mSkip)
    (mSeq (mSet 4 (mCall self (mCons (mOp dIx (mVar 0) (mC (.int 1))) (mCons (mVar 1) (mCons (mVar 2) mNil)))))
    (mSeq (mIfS (mOpT dEq (mVar 3) (mC (.str "null")))
    (mRet (mOp dIs (mVar 4) (mC .none)))
    mSkip)
    (mSeq (mIfS (mOpT dEq (mVar 3) (mC (.str "not")))
    (mRet (mOp dIx (mL (mLst (mCons (mC (.bool true)) (mCons (mC (.bool false)) (mCons (mC .none) mNil))))) (mOp dIndexL (mL (mLst (mCons (mC (.bool false)) (mCons (mC (.bool true)) (mCons (mC .none) mNil))))) (mVar 4))))
    mSkip)
    (mSeq (mIfS (mOpT dEq (mVar 3) (mC (.str "among")))
    (mSeq (mIfS (mOpT dIs (mVar 4) (mC .none))
    (mRet (mC .none))
    mSkip)
    (mRet (mOp dIx (mL (mCat (mL (mCat (mL (mComp (mItL (mOp dIx (mVar 0) (mC (.int 2)))) [5] (bName 5) (mAnd (mOpT dIsNot (mVar 5) (mC .none)) (mOpT dEq (mVar 5) (mVar 4))) (mC (.bool true)))) (mL (mComp (mItL (mOp dIx (mVar 0) (mC (.int 2)))) [5] (bName 5) (mOpT dIs (mVar 5) (mC .none)) (mC .none))))) (mL (mLst (mCons (mC (.bool false)) mNil))))) (mC (.int 0)))))
    mSkip)
    (mSeq (mSet 6 (mCall self (mCons (mOp dIx (mVar 0) (mC (.int 2))) (mCons (mVar 1) (mCons (mVar 2) mNil)))))
    (mSeq (mIfS (mOpT (dInF false) (mVar 3) (mL (mLst (mCons (mC (.str "and")) (mCons (mC (.str "or")) mNil)))))
    (mSeq (mSet 7 (mOp dEq (mVar 3) (mC (.str "or"))))
    (mSeq (mIfS (mOpT (dInF false) (mVar 7) (mL (mComp (mItL (mL (mLst (mCons (mVar 4) (mCons (mVar 6) mNil))))) [8] (bName 8) (mOpT dIsNot (mVar 8) (mC .none)) (mVar 8))))
    (mRet (mVar 7))
    mSkip)
    (mRet (mOp dIx (mL (mLst (mCons (mBNot (mVar 7)) (mCons (mC .none) mNil)))) (mCall dInt (mCons (mBOr (mOp dIs (mVar 4) (mC .none)) (mOp dIs (mVar 6) (mC .none))) mNil))))))
    mSkip)
    (mSeq (mIfS (mOr (mOpT dIs (mVar 4) (mC .none)) (mOpT dIs (mVar 6) (mC .none)))
    (mRet (mC .none))
    mSkip)
    (mSeq (mIfS (mOpT dEq (mVar 3) (mC (.str "plus")))
    (mRet (mOp dAdd (mVar 4) (mVar 6)))
    mSkip)
    (mSeq (mIfS (mOpT dEq (mVar 3) (mC (.str "minus")))
    (mRet (mOp dSub (mVar 4) (mVar 6)))
    mSkip)
    (mSeq (mIfS (mOpT dEq (mVar 3) (mC (.str "times")))
    (mRet (mOp dMul (mVar 4) (mVar 6)))
    mSkip)
    (mRet (mOp dIx (mL (mLst (mCons (mOp dLt (mVar 4) (mVar 6)) (mCons (mOp dEq (mVar 4) (mVar 6)) mNil)))) (mCall dInt (mCons (mOp dEq (mVar 3) (mC (.str "same"))) mNil))))))))))))))))))
def F__law_val : Nat → List D → Option D
  | 0 => fun _ => none
  | k + 1 => runP 9 3 (m__law_val (F__law_val k))
theorem ok__law_val (T : Txt K mg) : ∀ k : Nat, Def1 P wd K mg base "_law_val" ["tree", "rows", "fields"] (1 + k) (spP K (F__law_val k))
  | 0 => def_no T.d__law_val sc__law_val spP_no
  | k + 1 => def_pure T.d__law_val sc__law_val fun f cdv A outer s H E hr =>
    (db_cons (ds_set (i := 3) sc__law_val.nd rfl (by first | exact Or.inl rfl | exact Or.inr rfl) (de_ix (de_var 0) de_int))
    (db_cons (ds_if (dt_cmp (op_eqD (hu64 hr)) od_eq (de_var 3) de_str (nomark _))
    (db_one (ds_ret (de_ix (de_var 0) de_int)))
    db_nil)
    (db_cons (ds_if (dt_cmp (op_eqD (hu64 hr)) od_eq (de_var 3) de_str (nomark _))
    (db_one (ds_ret (de_ix (de_ix (de_var 1) (de_ix (de_var 0) de_int)) (de_ix (de_var 0) de_int))))
    db_nil)
    (db_cons (ds_if (dt_cmp (op_eqD (hu64 hr)) od_eq (de_var 3) de_str (nomark _))
    (db_one (ds_ret (de_ix (de_var 2) (de_ix (de_var 0) de_int))))
    db_nil)
    (db_cons (ds_set (i := 4) sc__law_val.nd rfl (by first | exact Or.inl rfl | exact Or.inr rfl) (call_P (ok__law_val T k) (hr.mono (Nat.le_refl _)) rfl (da_cons (de_ix (de_var 0) de_int) (da_cons (de_var 1) (da_cons (de_var 2) da_nil)))))
    (db_cons (ds_if (dt_cmp (op_eqD (hu64 hr)) od_eq (de_var 3) de_str (nomark _))
    (db_one (ds_ret (de_cmp op_isN od_is (de_var 4) de_non (nomark _))))
    db_nil)
    (db_cons (ds_if (dt_cmp (op_eqD (hu64 hr)) od_eq (de_var 3) de_str (nomark _))
    (db_one (ds_ret (de_ix (de_fresh (df_lst (da_cons de_bl (da_cons de_bl (da_cons de_non da_nil))))) (de_indexL (hu65 hr) (de_fresh (df_lst (da_cons de_bl (da_cons de_bl (da_cons de_non da_nil))))) (de_var 4)))))
    db_nil)
    (db_cons (ds_if (dt_cmp (op_eqD (hu64 hr)) od_eq (de_var 3) de_str (nomark _))
    (db_cons (ds_if (dt_cmp op_isN od_is (de_var 4) de_non (nomark _))
    (db_one (ds_ret de_non))
    db_nil)
    (db_one (ds_ret (de_ix (de_fresh (df_cat (de_fresh (df_cat (de_fresh (df_comp (own := [("value", 5)]) rfl sc__law_val.nd (di_list (de_ix (de_var 0) de_int)) (blkOk_by (N := n__law_val) (sc := defScope s__law_val) (by decide +kernel)) (fun _ _ _ _ _ => (dg_name (i := 5) sc__law_val.nd rfl (by first | exact Or.inl rfl | exact Or.inr rfl))) (fun _ _ _ _ _ => (dts_one (PW.pt (dw_and (dt_cmp op_notN od_isNot (de_var 5) de_non (nomark _)) (dw_and1 (dt_cmp (op_eqD (hu64 hr)) od_eq (de_var 5) (de_var 4) (nomark _))))))) (fun _ _ _ _ _ => de_bl))) (de_fresh (df_comp (own := [("value", 5)]) rfl sc__law_val.nd (di_list (de_ix (de_var 0) de_int)) (blkOk_by (N := n__law_val) (sc := defScope s__law_val) (by decide +kernel)) (fun _ _ _ _ _ => (dg_name (i := 5) sc__law_val.nd rfl (by first | exact Or.inl rfl | exact Or.inr rfl))) (fun _ _ _ _ _ => (dts_one (dt_cmp op_isN od_is (de_var 5) de_non (nomark _)))) (fun _ _ _ _ _ => de_non))))) (de_fresh (df_lst (da_cons de_bl da_nil))))) de_int))))
    db_nil)
    (db_cons (ds_set (i := 6) sc__law_val.nd rfl (by first | exact Or.inl rfl | exact Or.inr rfl) (call_P (ok__law_val T k) (hr.mono (Nat.le_refl _)) rfl (da_cons (de_ix (de_var 0) de_int) (da_cons (de_var 1) (da_cons (de_var 2) da_nil)))))
    (db_cons (ds_if (dt_cmp op_in_seq (od_inF false) (de_var 3) (de_fresh (df_lst (da_cons de_str (da_cons de_str da_nil)))) (by rfl))
    (db_cons (ds_set (i := 7) sc__law_val.nd rfl (by first | exact Or.inl rfl | exact Or.inr rfl) (de_cmp (op_eqD (hu64 hr)) od_eq (de_var 3) de_str (nomark _)))
    (db_cons (ds_if (dt_cmp op_in_seq (od_inF false) (de_var 7) (de_fresh (df_comp (own := [("part", 8)]) rfl sc__law_val.nd (di_list (de_fresh (df_lst (da_cons (de_var 4) (da_cons (de_var 6) da_nil))))) (blkOk_by (N := n__law_val) (sc := defScope s__law_val) (by decide +kernel)) (fun _ _ _ _ _ => (dg_name (i := 8) sc__law_val.nd rfl (by first | exact Or.inl rfl | exact Or.inr rfl))) (fun _ _ _ _ _ => (dts_one (dt_cmp op_notN od_isNot (de_var 8) de_non (nomark _)))) (fun _ _ _ _ _ => (de_var 8)))) (by rfl))
    (db_one (ds_ret (de_var 7)))
    db_nil)
    (db_one (ds_ret (de_ix (de_fresh (df_lst (da_cons (de_not (de_var 7)) (da_cons de_non da_nil)))) (de_callTy call_int1 cd_int rfl T.z_int (by decide +kernel) (da_cons (de_or (de_cmp op_isN od_is (de_var 4) de_non (nomark _)) (de_and1 (de_cmp op_isN od_is (de_var 6) de_non (nomark _)))) da_nil)))))))
    db_nil)
    (db_cons (ds_if (PW.pt (dw_or (dt_cmp op_isN od_is (de_var 4) de_non (nomark _)) (dw_or1 (dt_cmp op_isN od_is (de_var 6) de_non (nomark _)))))
    (db_one (ds_ret de_non))
    db_nil)
    (db_cons (ds_if (dt_cmp (op_eqD (hu64 hr)) od_eq (de_var 3) de_str (nomark _))
    (db_one (ds_ret (de_op op_addD od_addD (de_var 4) (de_var 6))))
    db_nil)
    (db_cons (ds_if (dt_cmp (op_eqD (hu64 hr)) od_eq (de_var 3) de_str (nomark _))
    (db_one (ds_ret (de_op op_sub od_sub (de_var 4) (de_var 6))))
    db_nil)
    (db_cons (ds_if (dt_cmp (op_eqD (hu64 hr)) od_eq (de_var 3) de_str (nomark _))
    (db_one (ds_ret (de_op op_mul od_mul (de_var 4) (de_var 6))))
    db_nil)
    (db_one (ds_ret (de_ix (de_fresh (df_lst (da_cons (de_cmp (op_ltD (hu65 hr)) od_lt (de_var 4) (de_var 6) (nomark _)) (da_cons (de_cmp (op_eqD (hu64 hr)) od_eq (de_var 4) (de_var 6) (nomark _)) da_nil)))) (de_callTy call_int1 cd_int rfl T.z_int (by decide +kernel) (da_cons (de_cmp (op_eqD (hu64 hr)) od_eq (de_var 3) de_str (nomark _)) da_nil)))))))))))))))))))
/-! #### _law_within -/
abbrev n__law_within : List Str := ["tree"]
theorem sc__law_within : FnScope n__law_within ["tree"] (defScope s__law_within) := ⟨rfl, rfl, rfl, by decide +kernel, rfl, by decide +kernel, by decide +kernel⟩
def m__law_within : MS Unit := (mSeq (mIfS (mOpT (dInF false) (mOp dIx (mVar 0) (mC (.int 0))) (mL (mLst (mCons (mC (.str "value")) (mCons (mC (.str "cell")) (mCons (mC (.str "field")) mNil))))))
    (mRetF (mLst mNil))
    mSkip)
    (mSeq (mIfS (mOpT (dInF false) (mOp dIx (mVar 0) (mC (.int 0))) (mL (mLst (mCons (mC (.str "null")) (mCons (mC (.str "not")) (mCons (mC (.str "among")) mNil))))))
    (mRetF (mLst (mCons (mTup (mCons (mC (.int 1)) (mCons (mOp dIx (mVar 0) (mC (.int 1))) mNil))) mNil)))
    mSkip)
    (mRetF (mLst (mCons (mTup (mCons (mC (.int 1)) (mCons (mOp dIx (mVar 0) (mC (.int 1))) mNil))) (mCons (mTup (mCons (mC (.int 2)) (mCons (mOp dIx (mVar 0) (mC (.int 2))) mNil))) mNil))))))
def F__law_within : List D → Option D := runP 1 1 m__law_within
theorem ok__law_within (T : Txt K mg) : Def1 P wd K mg base "_law_within" ["tree"] 1 (spP K F__law_within) := def_pure T.d__law_within sc__law_within fun f cdv A outer s H E hr =>
    (db_cons (ds_if (dt_cmp op_in_seq (od_inF false) (de_ix (de_var 0) de_int) (de_fresh (df_lst (da_cons de_str (da_cons de_str (da_cons de_str da_nil))))) (by rfl))
    (db_one (ds_retF (df_lst da_nil)))
    db_nil)
    (db_cons (ds_if (dt_cmp op_in_seq (od_inF false) (de_ix (de_var 0) de_int) (de_fresh (df_lst (da_cons de_str (da_cons de_str (da_cons de_str da_nil))))) (by rfl))
    (db_one (ds_retF (df_lst (da_cons (de_tup (da_cons de_int (da_cons (de_ix (de_var 0) de_int) da_nil))) da_nil))))
    db_nil)
    (db_one (ds_retF (df_lst (da_cons (de_tup (da_cons de_int (da_cons (de_ix (de_var 0) de_int) da_nil))) (da_cons (de_tup (da_cons de_int (da_cons (de_ix (de_var 0) de_int) da_nil))) da_nil)))))))
/-! #### _law_places -/
abbrev n__law_places : List Str := ["tree", "path", "found", "place", "part"]
theorem sc__law_places : FnScope n__law_places ["tree", "path"] (defScope s__law_places) := ⟨rfl, rfl, rfl, by decide +kernel, rfl, by decide +kernel, by decide +kernel⟩
def lb__law_places_1 (self : List D → Option D) : MS Unit := (mSet 2 (mOp dAdd (mVar 2) (mCall self (mCons (mVar 4) (mCons (mOp dAdd (mVar 1) (mTup (mCons (mVar 3) mNil))) mNil)))))
def m__law_places (self : List D → Option D) : MS Unit := (mSeq (mSet 2 (mL (mLst (mCons (mTup (mCons (mVar 1) (mCons (mVar 0) mNil))) mNil))))
    (mSeq (mFor (mItL (mCall F__law_within (mCons (mVar 0) mNil))) (bTup 2 (bCons (bName 3) (bCons (bName 4) bNil))) (lb__law_places_1 self))
    (mRet (mVar 2))))
def F__law_places : Nat → List D → Option D
  | 0 => fun _ => none
  | k + 1 => runP 5 2 (m__law_places (F__law_places k))
theorem ok__law_places (T : Txt K mg) : ∀ k : Nat, Def1 P wd K mg base "_law_places" ["tree", "path"] (2 + k) (spP K (F__law_places k))
  | 0 => def_no T.d__law_places sc__law_places spP_no
  | k + 1 => def_pure T.d__law_places sc__law_places fun f cdv A outer s H E hr =>
    (db_cons (ds_set (i := 2) sc__law_places.nd rfl (by first | exact Or.inl rfl | exact Or.inr rfl) (de_fresh (df_lst (da_cons (de_tup (da_cons (de_var 1) (da_cons (de_var 0) da_nil))) da_nil))))
    (db_cons (ds_for PassesOwn.never rfl (di_list (call_P (ok__law_within T) (hr.mono (Nat.le_trans (by decide : 1 ≤ 2) (Nat.le_add_right 2 k))) rfl (da_cons (de_var 0) da_nil))) (dg_tup rfl (dgs_cons (dg_name (i := 3) sc__law_places.nd rfl (by first | exact Or.inl rfl | exact Or.inr rfl)) (dgs_cons (dg_name (i := 4) sc__law_places.nd rfl (by first | exact Or.inl rfl | exact Or.inr rfl)) dgs_nil)))
    (db_one (ds_set (i := 2) sc__law_places.nd rfl (by first | exact Or.inl rfl | exact Or.inr rfl) (de_op op_addD od_addD (de_var 2) (call_P (ok__law_places T k) (hr.mono (Nat.le_refl _)) rfl (da_cons (de_var 4) (da_cons (de_op op_addD od_addD (de_var 1) (de_tup (da_cons (de_var 3) da_nil))) da_nil)))))))
    (db_one (ds_ret (de_var 2)))))
/-! #### _law_put -/
abbrev n__law_put : List Str := ["tree", "path", "part", "halves"]
theorem sc__law_put : FnScope n__law_put ["tree", "path", "part"] (defScope s__law_put) := ⟨rfl, rfl, rfl, by decide +kernel, rfl, by decide +kernel, by decide +kernel⟩
def m__law_put (self : List D → Option D) : MS Unit := (mSeq (mIfS (mOpT dEq (mVar 1) (mTup mNil))
    (mRet (mVar 2))
    mSkip)
    (mSeq (mSetF 3 (mCallF dListOf (mCons (mVar 0) mNil)))
    (mSeq (mSetIx 3 (mOp dIx (mVar 1) (mC (.int 0))) (mCall self (mCons (mOp dIx (mVar 0) (mOp dIx (mVar 1) (mC (.int 0)))) (mCons (mSlT (mVar 1) (mPart (mC (.int 1))) mNo) (mCons (mVar 2) mNil)))))
    (mFrz 3 (mRet (mCall dTupleOf (mCons (mVar 3) mNil)))))))
def F__law_put : Nat → List D → Option D
  | 0 => fun _ => none
  | k + 1 => runP 4 3 (m__law_put (F__law_put k))
theorem ok__law_put (T : Txt K mg) : ∀ k : Nat, Def1 P wd K mg base "_law_put" ["tree", "path", "part"] (1 + k) (spP K (F__law_put k))
  | 0 => def_no T.d__law_put sc__law_put spP_no
  | k + 1 => def_pure T.d__law_put sc__law_put fun f cdv A outer s H E hr =>
    (db_cons (ds_if (dt_cmp (op_eqD (hu64 hr)) od_eq (de_var 1) (de_tup da_nil) (nomark _))
    (db_one (ds_ret (de_var 2)))
    db_nil)
    (db_cons (ds_setF (i := 3) sc__law_put.nd rfl (by first | exact Or.inl rfl | exact Or.inr rfl) (df_callTy call_list_of cf_list rfl T.z_list (by decide +kernel) (da_cons (de_var 0) da_nil)))
    (db_cons (ds_setIx 3 (de_ix (de_var 1) de_int) (call_P (ok__law_put T k) (hr.mono (Nat.le_refl _)) rfl (da_cons (de_ix (de_var 0) (de_ix (de_var 1) de_int)) (da_cons (de_sliceT (de_var 1) (do_some de_int) do_none) (da_cons (de_var 2) da_nil)))))
    (db_one (ds_frz 3 (ds_ret (de_callTy call_tuple_of cd_tuple rfl T.z_tuple (by decide +kernel) (da_cons (de_var 3) da_nil))))))))
/-! #### _law_parts -/
abbrev n__law_parts : List Str := ["tree"]
theorem sc__law_parts : FnScope n__law_parts ["tree"] (defScope s__law_parts) := ⟨rfl, rfl, rfl, by decide +kernel, rfl, by decide +kernel, by decide +kernel⟩
def m__law_parts (self : List D → Option D) : MS Unit := (mSeq (mIfS (mOpT dEq (mOp dIx (mVar 0) (mC (.int 0))) (mC (.str "and")))
    (mRet (mOp dAdd (mCall self (mCons (mOp dIx (mVar 0) (mC (.int 1))) mNil)) (mCall self (mCons (mOp dIx (mVar 0) (mC (.int 2))) mNil))))
    mSkip)
    (mRetF (mLst (mCons (mVar 0) mNil))))
def F__law_parts : Nat → List D → Option D
  | 0 => fun _ => none
  | k + 1 => runP 1 1 (m__law_parts (F__law_parts k))
theorem ok__law_parts (T : Txt K mg) : ∀ k : Nat, Def1 P wd K mg base "_law_parts" ["tree"] (1 + k) (spP K (F__law_parts k))
  | 0 => def_no T.d__law_parts sc__law_parts spP_no
  | k + 1 => def_pure T.d__law_parts sc__law_parts fun f cdv A outer s H E hr =>
    (db_cons (ds_if (dt_cmp (op_eqD (hu64 hr)) od_eq (de_ix (de_var 0) de_int) de_str (nomark _))
    (db_one (ds_ret (de_op op_addD od_addD (call_P (ok__law_parts T k) (hr.mono (Nat.le_refl _)) rfl (da_cons (de_ix (de_var 0) de_int) da_nil)) (call_P (ok__law_parts T k) (hr.mono (Nat.le_refl _)) rfl (da_cons (de_ix (de_var 0) de_int) da_nil)))))
    db_nil)
    (db_one (ds_retF (df_lst (da_cons (de_var 0) da_nil)))))
/-! #### law -/
abbrev n_law : List Str := ["script", "state", "cells", "kind", "tree", "kept", "turn", "rows", "i", "j", "column", "due", "parts", "part", "big", "places", "found", "path", "cell", "some", "one"]
theorem sc_law : FnScope n_law ["script"] (defScope s_law) := ⟨rfl, rfl, rfl, by decide +kernel, rfl, by decide +kernel, by decide +kernel⟩
def lb_law_1 : MS Dc := (mSetIx 7 (mVar 8) (mOp dAdd (mIxOw 7 (mVar 8)) (mTup (mCons (mCallG F__law_some (gConsS 1 (gConsS 0 (gCons (mVar 10) gNil)))) mNil))))
def lb_law_2 : MS Dc := (mSeq (mSetF 7 (mLst (mCons (mTup mNil) (mCons (mTup mNil) mNil))))
    (mSeq (mFor (mItL (mVar 2)) (bTup 3 (bCons (bName 8) (bCons (bName 9) (bCons (bName 10) bNil)))) lb_law_1)
    (mSeq (mSet 11 (mLend [7] (mCall (F__law_val 6) (mCons (mVar 4) (mCons (mVar 7) (mCons (mTup mNil) mNil))))))
    (mSeq (mIfS (mOr (mLendT [7] (mOpT dNe (mCall dRepr (mCons (mCall (F_value_of 6) (mCons (mVar 4) (mCons (mVar 7) (mCons (mTup mNil) mNil)))) mNil)) (mCall dRepr (mCons (mVar 11) mNil)))) (mOr (mLendT [7] (mOpT dNe (mCall F_is_met (mCons (mVar 4) (mCons (mCall dTupleOf (mCons (mVar 7) mNil)) (mCons (mTup mNil) mNil)))) (mOp dIsB (mVar 11) (mC (.bool true))))) (mLendT [7] (mOpT dIsNB (mCall F_is_met (mCons (mC .none) (mCons (mVar 7) (mCons (mTup mNil) mNil)))) (mC (.bool true))))))
    (mRet (mC (.bool false)))
    mSkip)
    (mSeq (mSet 12 (mCall (F__law_parts 6) (mCons (mVar 4) mNil)))
    (mIfS (mLendT [7] (mOpT dNe (mOp dIsB (mVar 11) (mC (.bool true))) (mOp dEq (mCall dLen (mCons (mL (mComp (mItL (mVar 12)) [13] (bName 13) (mOpT dIsNB (mCall (F__law_val 6) (mCons (mVar 13) (mCons (mVar 7) (mCons (mTup mNil) mNil)))) (mC (.bool true))) (mVar 13))) mNil)) (mC (.int 0)))))
    (mRet (mC (.bool false)))
    mSkip))))))
def lb_law_3 : MS Dc := (mSet 11 (mTup (mCons (mC (.str "and")) (mCons (mVar 11) (mCons (mVar 20) mNil)))))
def m_law : MS Dc := (mSeq (mSet 2 (mL (mLst (mCons (mTup (mCons (mC (.int 0)) (mCons (mC (.int 0)) (mCons (mC (.str "int")) mNil)))) (mCons (mTup (mCons (mC (.int 0)) (mCons (mC (.int 1)) (mCons (mC (.str "text")) mNil)))) (mCons (mTup (mCons (mC (.int 1)) (mCons (mC (.int 0)) (mCons (mC (.str "int")) mNil)))) (mCons (mTup (mCons (mC (.int 1)) (mCons (mC (.int 1)) (mCons (mC (.str "bool")) mNil)))) (mCons (mTup (mCons (mC (.int 1)) (mCons (mC (.int 2)) (mCons (mC (.str "int")) mNil)))) mNil))))))))
    (mSeq (mSet 3 (mCallG F__law_pick (gConsS 1 (gConsS 0 (gCons (mL (mLst (mCons (mC (.str "bool")) (mCons (mC (.str "bool")) (mCons (mC (.str "int")) mNil))))) gNil)))))
    (mSeq (mSet 4 (mCallG (F__law_expr 5) (gConsS 1 (gConsS 0 (gCons (mVar 3) (gCons (mVar 2) (gCons (mOp dAdd (mC (.int 1)) (mCallG F__law_draw (gConsS 1 (gConsS 0 (gCons (mC (.int 4)) gNil))))) gNil)))))))
    (mSeq (mSet 5 (mCall dRepr (mCons (mVar 4) mNil)))
    (mSeq (mFor (mRng1 (mCons (mC (.int 6)) mNil)) (bName 6) lb_law_2)
    (mSeq (mSet 14 (mTup (mCons (mC (.str "times")) (mCons (mTup (mCons (mC (.str "value")) (mCons (mOp dPow (mC (.int 10)) (mC (.int 9))) mNil))) (mCons (mTup (mCons (mC (.str "plus")) (mCons (mTup (mCons (mC (.str "value")) (mCons (mOp dPow (mC (.int 10)) (mC (.int 9))) mNil))) (mCons (mTup (mCons (mC (.str "field")) (mCons (mC (.int 1)) mNil))) mNil)))) mNil)))))
    (mSeq (mIfS (mOr (mOpT dNe (mCall (F_value_of 6) (mCons (mVar 14) (mCons (mTup mNil) (mCons (mTup (mCons (mC .none) (mCons (mC (.int 7)) mNil))) mNil)))) (mOp dAdd (mOp dPow (mC (.int 10)) (mC (.int 18))) (mOp dMul (mC (.int 7)) (mOp dPow (mC (.int 10)) (mC (.int 9)))))) (mOpT dIsNot (mCall (F_value_of 6) (mCons (mVar 14) (mCons (mTup mNil) (mCons (mTup (mCons (mC (.int 1)) (mCons (mC .none) mNil))) mNil)))) (mC .none)))
    (mRet (mC (.bool false)))
    mSkip)
    (mSeq (mSet 15 (mCall (F__law_places 6) (mCons (mVar 4) (mCons (mTup mNil) mNil))))
    (mSeq (mIfS (mOr (mOpT dNe (mCall (F_places_of 6) (mCons (mVar 4) mNil)) (mVar 15)) (mOr (mOpT dNe (mCall F_size_of (mCons (mVar 4) mNil)) (mCall dLen (mCons (mVar 15) mNil))) (mOpT dNe (mCall F_parts_of (mCons (mVar 4) mNil)) (mCall F__law_within (mCons (mVar 4) mNil)))))
    (mRet (mC (.bool false)))
    mSkip)
    (mSeq (mSet 16 (mL (mCallF dSortedSet (mCons (mL (mComp (mItL (mVar 15)) [17, 13] (bTup 2 (bCons (bName 17) (bCons (bName 13) bNil))) (mOpT dEq (mOp dIx (mVar 13) (mC (.int 0))) (mC (.str "cell"))) (mSlT (mVar 13) (mPart (mC (.int 1))) mNo))) mNil))))
    (mSeq (mIfS (mOr (mOpT dNe (mCall F_cells_of (mCons (mVar 4) mNil)) (mVar 16)) (mOpT dNe (mCall F_tables_of (mCons (mVar 4) mNil)) (mL (mCallF dSortedSet (mCons (mL (mComp (mItL (mVar 16)) [18] (bName 18) mYes (mOp dIx (mVar 18) (mC (.int 0))))) mNil)))))
    (mRet (mC (.bool false)))
    mSkip)
    (mSeq (mAsg (bTup 2 (bCons (bName 17) (bCons (bName 13) bNil))) (mCallG F__law_pick (gConsS 1 (gConsS 0 (gCons (mVar 15) gNil)))))
    (mSeq (mIfS (mOr (mOpT dNe (mCall (F_put_at 6) (mCons (mVar 4) (mCons (mVar 17) (mCons (mTup (mCons (mC (.str "value")) (mCons (mC (.int 5)) mNil))) mNil)))) (mCall (F__law_put 6) (mCons (mVar 4) (mCons (mVar 17) (mCons (mTup (mCons (mC (.str "value")) (mCons (mC (.int 5)) mNil))) mNil))))) (mOpT dNe (mCall (F_put_at 6) (mCons (mVar 4) (mCons (mVar 17) (mCons (mVar 13) mNil)))) (mVar 4)))
    (mRet (mC (.bool false)))
    mSkip)
    (mSeq (mIfS (mOr (mOpT dNe (mCall (F_conjuncts 6) (mCons (mVar 4) mNil)) (mCall (F__law_parts 6) (mCons (mVar 4) mNil))) (mOr (mOpT dNe (mCall (F_conjuncts 6) (mCons (mC .none) mNil)) (mL (mLst mNil))) (mOpT dIsNot (mCall F_joined (mCons (mL (mLst mNil)) mNil)) (mC .none))))
    (mRet (mC (.bool false)))
    mSkip)
    (mSeq (mSet 19 (mL (mSlL (mL (mLst (mCons (mTup (mCons (mC (.str "value")) (mCons (mC (.bool true)) mNil))) (mCons (mTup (mCons (mC (.str "cell")) (mCons (mC (.int 1)) (mCons (mC (.int 1)) mNil)))) (mCons (mVar 4) mNil))))) mNo (mPart (mOp dAdd (mC (.int 1)) (mCallG F__law_draw (gConsS 1 (gConsS 0 (gCons (mC (.int 3)) gNil)))))))))
    (mSeq (mSet 11 (mOp dIx (mVar 19) (mC (.int 0))))
    (mSeq (mFor (mItL (mL (mSlL (mVar 19) (mPart (mC (.int 1))) mNo))) (bName 20) lb_law_3)
    (mRet (mBAnd (mOp dEq (mCall F_joined (mCons (mVar 19) mNil)) (mVar 11)) (mOp dEq (mCall dRepr (mCons (mVar 4) mNil)) (mVar 5)))))))))))))))))))))
theorem body_law (T : Txt K mg) (f : Addr) (cdv : Value) (A : Around) (outer : List PySem.Env) (s : Shared) (H : Hp) (E : XK) (hr : Room 10 (A.deeper (PyProof.Rows.envOfC "law" (defScope s_law) s.heap.objs.size f cdv))) (hG : (A.deeper (PyProof.Rows.envOfC "law" (defScope s_law) s.heap.objs.size f cdv)).guards = some []) :
    PSs (cxOf CX0 P wd K mg base n_law "law" (defScope s_law) f cdv A outer s H E).nox ((defBody s_law).drop 1) (tS K (drC K) m_law) :=
    (db_cons (ds_set (i := 2) sc_law.nd rfl (by first | exact Or.inl rfl | exact Or.inr rfl) (de_fresh (df_lst (da_cons (de_tup (da_cons de_int (da_cons de_int (da_cons de_str da_nil)))) (da_cons (de_tup (da_cons de_int (da_cons de_int (da_cons de_str da_nil)))) (da_cons (de_tup (da_cons de_int (da_cons de_int (da_cons de_str da_nil)))) (da_cons (de_tup (da_cons de_int (da_cons de_int (da_cons de_str da_nil)))) (da_cons (de_tup (da_cons de_int (da_cons de_int (da_cons de_str da_nil)))) da_nil))))))))
    (db_cons (ds_set (i := 3) sc_law.nd rfl (by first | exact Or.inl rfl | exact Or.inr rfl) (call_G (ok__law_pick T) (hr.mono (by decide)) rfl (dg_st (i := 1) (dg_st (i := 0) (dg_cons (de_fresh (df_lst (da_cons de_str (da_cons de_str (da_cons de_str da_nil))))) dg_nil)))))
    (db_cons (ds_set (i := 4) sc_law.nd rfl (by first | exact Or.inl rfl | exact Or.inr rfl) (call_G (ok__law_expr T 5) (hr.mono (by decide)) rfl (dg_st (i := 1) (dg_st (i := 0) (dg_cons (de_var 3) (dg_cons (de_var 2) (dg_cons (de_op op_addD od_addD de_int (call_G (ok__law_draw T) (hr.mono (by decide)) rfl (dg_st (i := 1) (dg_st (i := 0) (dg_cons de_int dg_nil))))) dg_nil)))))))
    (db_cons (ds_set (i := 5) sc_law.nd rfl (by first | exact Or.inl rfl | exact Or.inr rfl) (de_callB (cr_repr hG (hu65 hr)) cd_repr rfl T.z_repr (by decide +kernel) (da_cons (de_var 4) da_nil)))
    (db_cons (ds_for PassesOwn.never rfl (di_range1 rfl T.z_range (da_cons de_int da_nil)) (dg_name (i := 6) sc_law.nd rfl (by first | exact Or.inl rfl | exact Or.inr rfl))
    (db_cons (ds_setF (i := 7) sc_law.nd rfl (by first | exact Or.inl rfl | exact Or.inr rfl) (df_lst (da_cons (de_tup da_nil) (da_cons (de_tup da_nil) da_nil))))
    (db_cons (ds_for PassesOwn.never rfl (di_list (de_var 2)) (dg_tup rfl (dgs_cons (dg_name (i := 8) sc_law.nd rfl (by first | exact Or.inl rfl | exact Or.inr rfl)) (dgs_cons (dg_name (i := 9) sc_law.nd rfl (by first | exact Or.inl rfl | exact Or.inr rfl)) (dgs_cons (dg_name (i := 10) sc_law.nd rfl (by first | exact Or.inl rfl | exact Or.inr rfl)) dgs_nil))))
    (db_one (ds_setIx 7 (de_var 8) (de_op op_addD od_addD (de_ixOw 7 (de_var 8)) (de_tup (da_cons (call_G (ok__law_some T) (hr.mono (by decide)) rfl (dg_st (i := 1) (dg_st (i := 0) (dg_cons (de_var 10) dg_nil)))) da_nil))))))
    (db_cons (ds_set (i := 11) sc_law.nd rfl (by first | exact Or.inl rfl | exact Or.inr rfl) (de_lend [7] (call_P (ok__law_val T 6) (hr.mono (by decide)) rfl (da_cons (de_var 4) (da_cons (de_var 7) (da_cons (de_tup da_nil) da_nil))))))
    (db_cons (ds_if (PW.pt (dw_or (dt_lend [7] (dt_cmp (op_neD (hu64 hr)) od_ne (de_callB (cr_repr hG (hu65 hr)) cd_repr rfl T.z_repr (by decide +kernel) (da_cons (call_P (ok_value_of T 6) (hr.mono (by decide)) rfl (da_cons (de_var 4) (da_cons (de_var 7) (da_cons (de_tup da_nil) da_nil)))) da_nil)) (de_callB (cr_repr hG (hu65 hr)) cd_repr rfl T.z_repr (by decide +kernel) (da_cons (de_var 11) da_nil)) (nomark _))) (dw_or (dt_lend [7] (dt_cmp (op_neD (hu64 hr)) od_ne (call_P (ok_is_met T) (hr.mono (by decide)) rfl (da_cons (de_var 4) (da_cons (de_callTy call_tuple_of cd_tuple rfl T.z_tuple (by decide +kernel) (da_cons (de_var 7) da_nil)) (da_cons (de_tup da_nil) da_nil)))) (de_cmp op_isB od_isB (de_var 11) de_bl (nomark _)) (nomark _))) (dw_or1 (dt_lend [7] (dt_cmp op_isNB od_isNB (call_P (ok_is_met T) (hr.mono (by decide)) rfl (da_cons de_non (da_cons (de_var 7) (da_cons (de_tup da_nil) da_nil)))) de_bl (nomark _)))))))
    (db_one (ds_ret de_bl))
    db_nil)
    (db_cons (ds_set (i := 12) sc_law.nd rfl (by first | exact Or.inl rfl | exact Or.inr rfl) (call_P (ok__law_parts T 6) (hr.mono (by decide)) rfl (da_cons (de_var 4) da_nil)))
    (db_one (ds_if (dt_lend [7] (dt_cmp (op_neD (hu64 hr)) od_ne (de_cmp op_isB od_isB (de_var 11) de_bl (nomark _)) (de_cmp (op_eqD (hu64 hr)) od_eq (de_callB call_len cd_len rfl T.z_len (by decide +kernel) (da_cons (de_fresh (df_comp (own := [("part", 13)]) rfl sc_law.nd (di_list (de_var 12)) (blkOk_by (N := n_law) (sc := defScope s_law) (by decide +kernel)) (fun _ _ _ _ _ => (dg_name (i := 13) sc_law.nd rfl (by first | exact Or.inl rfl | exact Or.inr rfl))) (fun _ _ _ _ _ => (dts_one (dt_cmp op_isNB od_isNB (call_P (ok__law_val T 6) (hr.mono (by decide)) rfl (da_cons (de_var 13) (da_cons (de_var 7) (da_cons (de_tup da_nil) da_nil)))) de_bl (nomark _)))) (fun _ _ _ _ _ => (de_var 13)))) da_nil)) de_int (nomark _)) (nomark _)))
    (db_one (ds_ret de_bl))
    db_nil))))))))
    (db_cons (ds_set (i := 14) sc_law.nd rfl (by first | exact Or.inl rfl | exact Or.inr rfl) (de_tup (da_cons de_str (da_cons (de_tup (da_cons de_str (da_cons (de_op op_pow od_pow de_int de_int) da_nil))) (da_cons (de_tup (da_cons de_str (da_cons (de_tup (da_cons de_str (da_cons (de_op op_pow od_pow de_int de_int) da_nil))) (da_cons (de_tup (da_cons de_str (da_cons de_int da_nil))) da_nil)))) da_nil)))))
    (db_cons (ds_if (PW.pt (dw_or (dt_cmp (op_neD (hu64 hr)) od_ne (call_P (ok_value_of T 6) (hr.mono (by decide)) rfl (da_cons (de_var 14) (da_cons (de_tup da_nil) (da_cons (de_tup (da_cons de_non (da_cons de_int da_nil))) da_nil)))) (de_op op_addD od_addD (de_op op_pow od_pow de_int de_int) (de_op op_mul od_mul de_int (de_op op_pow od_pow de_int de_int))) (nomark _)) (dw_or1 (dt_cmp op_notN od_isNot (call_P (ok_value_of T 6) (hr.mono (by decide)) rfl (da_cons (de_var 14) (da_cons (de_tup da_nil) (da_cons (de_tup (da_cons de_int (da_cons de_non da_nil))) da_nil)))) de_non (nomark _)))))
    (db_one (ds_ret de_bl))
    db_nil)
    (db_cons (ds_set (i := 15) sc_law.nd rfl (by first | exact Or.inl rfl | exact Or.inr rfl) (call_P (ok__law_places T 6) (hr.mono (by decide)) rfl (da_cons (de_var 4) (da_cons (de_tup da_nil) da_nil))))
    (db_cons (ds_if (PW.pt (dw_or (dt_cmp (op_neD (hu64 hr)) od_ne (call_P (ok_places_of T 6) (hr.mono (by decide)) rfl (da_cons (de_var 4) da_nil)) (de_var 15) (nomark _)) (dw_or (dt_cmp (op_neD (hu64 hr)) od_ne (call_P (ok_size_of T) (hr.mono (by decide)) rfl (da_cons (de_var 4) da_nil)) (de_callB call_len cd_len rfl T.z_len (by decide +kernel) (da_cons (de_var 15) da_nil)) (nomark _)) (dw_or1 (dt_cmp (op_neD (hu64 hr)) od_ne (call_P (ok_parts_of T) (hr.mono (by decide)) rfl (da_cons (de_var 4) da_nil)) (call_P (ok__law_within T) (hr.mono (by decide)) rfl (da_cons (de_var 4) da_nil)) (nomark _))))))
    (db_one (ds_ret de_bl))
    db_nil)
    (db_cons (ds_set (i := 16) sc_law.nd rfl (by first | exact Or.inl rfl | exact Or.inr rfl) (de_fresh (df_sortedSet rfl (hu65 hr) rfl T.z_sorted rfl T.z_set (da_cons (de_fresh (df_comp (own := [("path", 17), ("part", 13)]) rfl sc_law.nd (di_list (de_var 15)) (blkOk_by (N := n_law) (sc := defScope s_law) (by decide +kernel)) (fun _ _ _ _ _ => (dg_tup rfl (dgs_cons (dg_name (i := 17) sc_law.nd rfl (by first | exact Or.inl rfl | exact Or.inr rfl)) (dgs_cons (dg_name (i := 13) sc_law.nd rfl (by first | exact Or.inl rfl | exact Or.inr rfl)) dgs_nil)))) (fun _ _ _ _ _ => (dts_one (dt_cmp (op_eqD (hu64 hr)) od_eq (de_ix (de_var 13) de_int) de_str (nomark _)))) (fun _ _ _ _ _ => (de_sliceT (de_var 13) (do_some de_int) do_none)))) da_nil))))
    (db_cons (ds_if (PW.pt (dw_or (dt_cmp (op_neD (hu64 hr)) od_ne (call_P (ok_cells_of T) (hr.mono (by decide)) rfl (da_cons (de_var 4) da_nil)) (de_var 16) (nomark _)) (dw_or1 (dt_cmp (op_neD (hu64 hr)) od_ne (call_P (ok_tables_of T) (hr.mono (by decide)) rfl (da_cons (de_var 4) da_nil)) (de_fresh (df_sortedSet rfl (hu65 hr) rfl T.z_sorted rfl T.z_set (da_cons (de_fresh (df_comp (own := [("cell", 18)]) rfl sc_law.nd (di_list (de_var 16)) (blkOk_by (N := n_law) (sc := defScope s_law) (by decide +kernel)) (fun _ _ _ _ _ => (dg_name (i := 18) sc_law.nd rfl (by first | exact Or.inl rfl | exact Or.inr rfl))) (fun _ _ _ _ _ => dts_nil) (fun _ _ _ _ _ => (de_ix (de_var 18) de_int)))) da_nil))) (nomark _)))))
    (db_one (ds_ret de_bl))
    db_nil)
    (db_cons (ds_asg (call_G (ok__law_pick T) (hr.mono (by decide)) rfl (dg_st (i := 1) (dg_st (i := 0) (dg_cons (de_var 15) dg_nil)))) (dg_tup rfl (dgs_cons (dg_name (i := 17) sc_law.nd rfl (by first | exact Or.inl rfl | exact Or.inr rfl)) (dgs_cons (dg_name (i := 13) sc_law.nd rfl (by first | exact Or.inl rfl | exact Or.inr rfl)) dgs_nil))))
    (db_cons (ds_if (PW.pt (dw_or (dt_cmp (op_neD (hu64 hr)) od_ne (call_P (ok_put_at T 6) (hr.mono (by decide)) rfl (da_cons (de_var 4) (da_cons (de_var 17) (da_cons (de_tup (da_cons de_str (da_cons de_int da_nil))) da_nil)))) (call_P (ok__law_put T 6) (hr.mono (by decide)) rfl (da_cons (de_var 4) (da_cons (de_var 17) (da_cons (de_tup (da_cons de_str (da_cons de_int da_nil))) da_nil)))) (nomark _)) (dw_or1 (dt_cmp (op_neD (hu64 hr)) od_ne (call_P (ok_put_at T 6) (hr.mono (by decide)) rfl (da_cons (de_var 4) (da_cons (de_var 17) (da_cons (de_var 13) da_nil)))) (de_var 4) (nomark _)))))
    (db_one (ds_ret de_bl))
    db_nil)
    (db_cons (ds_if (PW.pt (dw_or (dt_cmp (op_neD (hu64 hr)) od_ne (call_P (ok_conjuncts T 6) (hr.mono (by decide)) rfl (da_cons (de_var 4) da_nil)) (call_P (ok__law_parts T 6) (hr.mono (by decide)) rfl (da_cons (de_var 4) da_nil)) (nomark _)) (dw_or (dt_cmp (op_neD (hu64 hr)) od_ne (call_P (ok_conjuncts T 6) (hr.mono (by decide)) rfl (da_cons de_non da_nil)) (de_fresh (df_lst da_nil)) (nomark _)) (dw_or1 (dt_cmp op_notN od_isNot (call_P (ok_joined T) (hr.mono (by decide)) rfl (da_cons (de_fresh (df_lst da_nil)) da_nil)) de_non (nomark _))))))
    (db_one (ds_ret de_bl))
    db_nil)
    (db_cons (ds_set (i := 19) sc_law.nd rfl (by first | exact Or.inl rfl | exact Or.inr rfl) (de_fresh (df_slice (de_fresh (df_lst (da_cons (de_tup (da_cons de_str (da_cons de_bl da_nil))) (da_cons (de_tup (da_cons de_str (da_cons de_int (da_cons de_int da_nil)))) (da_cons (de_var 4) da_nil))))) do_none (do_some (de_op op_addD od_addD de_int (call_G (ok__law_draw T) (hr.mono (by decide)) rfl (dg_st (i := 1) (dg_st (i := 0) (dg_cons de_int dg_nil)))))))))
    (db_cons (ds_set (i := 11) sc_law.nd rfl (by first | exact Or.inl rfl | exact Or.inr rfl) (de_ix (de_var 19) de_int))
    (db_cons (ds_for PassesOwn.never rfl (di_list (de_fresh (df_slice (de_var 19) (do_some de_int) do_none))) (dg_name (i := 20) sc_law.nd rfl (by first | exact Or.inl rfl | exact Or.inr rfl))
    (db_one (ds_set (i := 11) sc_law.nd rfl (by first | exact Or.inl rfl | exact Or.inr rfl) (de_tup (da_cons de_str (da_cons (de_var 11) (da_cons (de_var 20) da_nil)))))))
    (db_one (ds_ret (de_and (de_cmp (op_eqD (hu64 hr)) od_eq (call_P (ok_joined T) (hr.mono (by decide)) rfl (da_cons (de_var 19) da_nil)) (de_var 11) (nomark _)) (de_and1 (de_cmp (op_eqD (hu64 hr)) od_eq (de_callB (cr_repr hG (hu65 hr)) cd_repr rfl T.z_repr (by decide +kernel) (da_cons (de_var 4) da_nil)) (de_var 5) (nomark _)))))))))))))))))))))))
end
end K30

namespace K30
open PySem Pd
/-! #### draws -/
abbrev DE3 (c : Addr) (m : Int) (x y z : SV) : Pd.Env := [.st, .raw (.ref c), .sh (.int m), x, y, z]
theorem draw0 {c : Addr} {m : Int} {g : Dc} (hc : g.c = c) (hm : 0 < m ∧ m < 1073741824) {x y : SV} : ∃ j g1, 0 ≤ j ∧ j < m ∧ g1.c = c ∧ ∃ e, (mSeq (mSet 5 (mOp dMod (mCall dInt (mCons (mStIx 0 (mC (.int 1))) mNil)) (mVar 2)))
    (mSeq (mStSet 0 (mC (.int 1)) (mOp dDiv (mStIx 0 (mC (.int 1))) (mVar 2)))
    (mRet (mVar 5)))) (DE3 c m x y .un) g = some (.re (.int j), e, g1) := by
  refine ⟨g.b.fmod m, { g with b := g.b.fdiv m }, Int.fmod_nonneg_of_pos _ hm.1, Int.fmod_lt_of_pos _ hm.1, hc, _, seq_nx (set_e (op_e (call_e (cons_e rfl nil_e) rfl) rfl (mod_e (by omega)))) (seq_nx (e1 := DE3 c m x y (.sh (.int (g.b.fmod m)))) (g1 := { g with b := g.b.fdiv m }) ?_ (ret_e rfl))⟩
  have e : mOp dDiv (mStIx 0 (mC (.int 1))) (mVar 2) (DE3 c m x y (.sh (.int (g.b.fmod m)))) g = some (.int (g.b.fdiv m), g) := op_e rfl rfl (div_e (by omega))
  unfold mStSet
  have e' : mOp dDiv (mStIx 0 (mC (.int 1))) (mVar 2) (((DE3 c m x y .un).set 5 (.sh (.int (g.b.fmod m))))) g = some (.int (g.b.fdiv m), g) := e
  rw [e']
  rfl
theorem stSet_e {env : Pd.Env} {g g1 g2 : Dc} {j : Nat} {mi me : ME Dc} {v : Int} (he : me env g = some (.int v, g1)) (hi : mi env g1 = some (.int 1, g2)) (hj : env.at j = .st) : mStSet j mi me env g = some (.nx, env, { g2 with b := v }) := by
  unfold mStSet
  rw [he]; dsimp only [bD]; rw [hi]; dsimp only [bD]; rw [hj]
  rfl
theorem stSet0_e {env : Pd.Env} {g g1 g2 : Dc} {j : Nat} {mi me : ME Dc} {v : Int} (he : me env g = some (.int v, g1)) (hi : mi env g1 = some (.int 0, g2)) (hj : env.at j = .st) : mStSet j mi me env g = some (.nx, env, { g2 with a := v }) := by
  unfold mStSet
  rw [he]; dsimp only [bD]; rw [hi]; dsimp only [bD]; rw [hj]
  rfl
theorem rawLen_e {env : Pd.Env} {g : Dc} {j : Nat} (h : env.at j = .raw (.ref g.c)) : mRawLen j env g = some (.int (g.ns.length : Int), g) := by
  unfold mRawLen
  rw [h]
  exact if_pos rfl
theorem draw_c (g : Dc) {m : Int} (hm : 0 < m ∧ m < 1073741824) : ∃ j g1, F__law_draw [.st, .raw (.ref g.c), .sh (.int m)] g = some (.int j, g1) ∧ 0 ≤ j ∧ j < m ∧ g1.c = g.c := by
  suffices h : ∃ j g1, 0 ≤ j ∧ j < m ∧ g1.c = g.c ∧ ∃ e, m__law_draw (DE3 g.c m .un .un .un) g = some (.re (.int j), e, g1) by
    obtain ⟨j, g1, h0, h1, hc, e, h⟩ := h
    exact ⟨j, g1, runG_re (as := [.st, .raw (.ref g.c), .sh (.int m)]) h, h0, h1, hc⟩
  by_cases hb : g.b = 0
  · have s1 : ∃ c1, (mIfS (mOpT dGtI (mRawLen 1) (mC (.int 0))) (mSet 3 (mRawIx 1 (mOp dMod (mStIx 0 (mC (.int 0))) (mRawLen 1)))) mSkip) (DE3 g.c m (.sh (.int 0)) .un .un) g = some (.nx, DE3 g.c m (.sh (.int c1)) .un .un, g) := by
      by_cases hl : 0 < g.ns.length
      · obtain ⟨k, ek, hk⟩ := fmod_ix (n := g.a) hl
        refine ⟨g.ns[k], if_t (opT_e (rawLen_e rfl) rfl (gt_t (by omega))) (set_e ?_)⟩
        have e : mOp dMod (mStIx 0 (mC (.int 0))) (mRawLen 1) (DE3 g.c m (.sh (.int 0)) .un .un) g = some (.int (k : Int), g) := op_e rfl (rawLen_e rfl) ((mod_e (by omega)).trans (by rw [ek]))
        unfold mRawIx
        rw [e]
        show (if g.c = g.c then _ else none) = _
        rw [if_pos rfl, L2.atI_nat (List.getElem?_eq_getElem hk)]
        rfl
      · exact ⟨0, if_no (opT_e (rawLen_e rfl) rfl (gt_f (by omega)))⟩
    obtain ⟨c1, s1⟩ := s1
    have s2 : ∃ c2, (mIfS (mOpT dLtI (mVar 3) (mC (.int 0))) (mSet 3 (mOp dSub (mC (.int 1)) (mOp dMul (mC (.int 2)) (mVar 3)))) mSkip) (DE3 g.c m (.sh (.int c1)) .un .un) g = some (.nx, DE3 g.c m (.sh (.int c2)) .un .un, g) := by
      by_cases hl : c1 < 0
      · exact ⟨1 - 2 * c1, if_t (opT_e rfl rfl (lt_t hl)) (set_e (op_e rfl (op_e rfl rfl (mul_l (by decide))) rfl))⟩
      · exact ⟨c1, if_no (opT_e rfl rfl (lt_f hl))⟩
    obtain ⟨c2, s2⟩ := s2
    have s3 : ∃ mx, mSet 4 (mOp dMod (mCall dInt (mCons (mOp dMul (mOp dAdd (mOp dAdd (mVar 3) (mOp dMul (mStIx 0 (mC (.int 0))) (mC (.int 7919)))) (mC (.int 1))) (mC (.int 48271))) mNil)) (mC (.int 2147483647))) (DE3 g.c m (.sh (.int c2)) .un .un) g = some (.nx, DE3 g.c m (.sh (.int c2)) (.sh (.int mx)) .un, g) :=
      ⟨_, set_e (op_e (call_e (cons_e (op_e (op_e (op_e rfl (op_e rfl rfl (mul_r (by decide))) rfl) rfl rfl) rfl (mul_r (by decide))) nil_e) rfl) rfl (mod_e (by decide)))⟩
    obtain ⟨mx, s3⟩ := s3
    have s4 : ∃ b1, mStSet 0 (mC (.int 1)) (mOp dMod (mCall dInt (mCons (mOp dAdd (mOp dMul (mVar 4) (mC (.int 69621))) (mOp dMul (mStIx 0 (mC (.int 0))) (mC (.int 104729)))) mNil)) (mC (.int 4294967291))) (DE3 g.c m (.sh (.int c2)) (.sh (.int mx)) .un) g = some (.nx, DE3 g.c m (.sh (.int c2)) (.sh (.int mx)) .un, { g with b := b1 }) :=
      ⟨_, stSet_e (op_e (call_e (cons_e (op_e (op_e rfl rfl (mul_r (by decide))) (op_e rfl rfl (mul_r (by decide))) rfl) nil_e) rfl) rfl (mod_e (by decide))) rfl rfl⟩
    obtain ⟨b1, s4⟩ := s4
    have s5 : ∃ b2, (mIfS (mAnd (mOpT dGeI (mVar 3) (mOp dPow (mC (.int 10)) (mC (.int 18)))) (mOpT dLtI (mStIx 0 (mC (.int 0))) (mRawLen 1))) (mStSet 0 (mC (.int 1)) (mVar 3)) mSkip) (DE3 g.c m (.sh (.int c2)) (.sh (.int mx)) .un) { g with b := b1 } = some (.nx, DE3 g.c m (.sh (.int c2)) (.sh (.int mx)) .un, { g with b := b2 }) := by
      have ep : mOp dPow (mC (.int 10)) (mC (.int 18)) (DE3 g.c m (.sh (.int c2)) (.sh (.int mx)) .un) { g with b := b1 } = some (.int 1000000000000000000, { g with b := b1 }) := op_e rfl rfl rfl
      by_cases h1 : 1000000000000000000 ≤ c2
      · by_cases h2 : g.a < g.ns.length
        · exact ⟨c2, if_t (and_t (opT_e rfl ep (ge_t h1)) (opT_e rfl (rawLen_e rfl) (lt_t h2))) (stSet_e (g2 := { g with b := b1 }) rfl rfl rfl)⟩
        · exact ⟨b1, if_no (and_t (opT_e rfl ep (ge_t h1)) (opT_e rfl (rawLen_e rfl) (lt_f h2)))⟩
      · exact ⟨b1, if_no (and_f (opT_e rfl ep (ge_f h1)))⟩
    obtain ⟨b2, s5⟩ := s5
    have s6 : mStSet 0 (mC (.int 0)) (mOp dAdd (mStIx 0 (mC (.int 0))) (mC (.int 1))) (DE3 g.c m (.sh (.int c2)) (.sh (.int mx)) .un) { g with b := b2 } = some (.nx, DE3 g.c m (.sh (.int c2)) (.sh (.int mx)) .un, { g with a := g.a + 1, b := b2 }) := stSet0_e (g2 := { g with b := b2 }) (op_e rfl rfl rfl) rfl rfl
    obtain ⟨j, g1, h0, h1, hc, e, h⟩ := draw0 (c := g.c) (m := m) (g := { g with a := g.a + 1, b := b2 }) rfl hm (x := .sh (.int c2)) (y := .sh (.int mx))
    exact ⟨j, g1, h0, h1, hc, e, seq_nx (if_t (opT_e rfl rfl (eq_it hb)) (seq_nx (set_e rfl) (seq_nx s1 (seq_nx s2 (seq_nx s3 (seq_nx s4 (seq_nx s5 s6))))))) h⟩
  · obtain ⟨j, g1, h0, h1, hc, e, h⟩ := draw0 (c := g.c) (m := m) (g := g) rfl hm (x := .un) (y := .un)
    exact ⟨j, g1, h0, h1, hc, e, seq_nx (if_no (opT_e rfl rfl (eq_if hb))) h⟩
end K30

namespace K30
open PySem Pd
/-! #### expressions -/
inductive Kd | int | text | bool
def Kd.s : Kd → Str
  | .int => "int"
  | .text => "text"
  | .bool => "bool"
inductive W2 | plus | minus | times | same | less | and | or
def W2.s : W2 → Str
  | .plus => "plus"
  | .minus => "minus"
  | .times => "times"
  | .same => "same"
  | .less => "less"
  | .and => "and"
  | .or => "or"
def W2.arith : W2 → Bool
  | .plus | .minus | .times => true
  | _ => false
def W2.cmp : W2 → Bool
  | .same | .less => true
  | _ => false
def W2.logic : W2 → Bool
  | .and | .or => true
  | _ => false
inductive Ex
  | val (d : D) | cell (i j : Nat) | nt (a : Ex) | nl (a : Ex) | am (a : Ex) (vs : List D) | bin (w : W2) (a b : Ex)
def Ex.d : Ex → D
  | .val d => .tuple [.str "value", d]
  | .cell i j => .tuple [.str "cell", .int (i : Int), .int (j : Int)]
  | .nt a => .tuple [.str "not", a.d]
  | .nl a => .tuple [.str "null", a.d]
  | .am a vs => .tuple [.str "among", a.d, .list vs]
  | .bin w a b => .tuple [.str w.s, a.d, b.d]
/-- a small value of a kind -/
def Vd : Kd → D → Prop
  | .int, d => d = .none ∨ ∃ i : Int, d = .int i ∧ -3 ≤ i ∧ i ≤ 3
  | .bool, d => d = .none ∨ ∃ b, d = .bool b
  | .text, d => d = .none ∨ ∃ s ∈ (["", "a", "b", "ab", "b a"] : List Str), d = .str s
abbrev Cell := Nat × Nat × Kd
def cD (c : Cell) : D := .tuple [.int (c.1 : Int), .int (c.2.1 : Int), .str c.2.2.s]
def cellsL : List Cell := [(0, 0, .int), (0, 1, .text), (1, 0, .int), (1, 1, .bool), (1, 2, .int)]
inductive WT : Kd → Nat → Ex → Prop
  | val {k n d} : Vd k d → WT k n (.val d)
  | cell {k n i j} : (i, j, k) ∈ cellsL → WT k n (.cell i j)
  | ar {n w a b} : W2.arith w = true → WT .int n a → WT .int n b → WT .int (n + 1) (.bin w a b)
  | cmp {k n w a b} : W2.cmp w = true → WT k n a → WT k n b → WT .bool (n + 1) (.bin w a b)
  | lg {n w a b} : W2.logic w = true → WT .bool n a → WT .bool n b → WT .bool (n + 1) (.bin w a b)
  | nt {n a} : WT .bool n a → WT .bool (n + 1) (.nt a)
  | nl {k n a} : WT k n a → WT .bool (n + 1) (.nl a)
  | am {k n a vs} : WT k n a → (∀ v ∈ vs, Vd k v) → 1 ≤ vs.length → vs.length ≤ 3 → WT .bool (n + 1) (.am a vs)
/-! #### calls with the draws -/
section
variable {env : Pd.Env} {g g1 g2 : Dc} {i k : Nat} {c : Addr}
theorem gst2 {ml : MG Dc} {as : List SV} (hi : env.at i = .st) (hk : env.at k = .raw (.ref c)) (h : ml env g = some (as, g1)) : gConsS i (gConsS k ml) env g = some (.st :: .raw (.ref c) :: as, g1) := by
  unfold gConsS
  rw [hi, hk]
  dsimp only
  rw [h]
theorem gsh {me : ME Dc} {ml : MG Dc} {d : D} {as : List SV} (he : me env g = some (d, g1)) (h : ml env g1 = some (as, g2)) : gCons me ml env g = some (.sh d :: as, g2) := by
  unfold gCons
  rw [he]
  dsimp only [bD]
  rw [h]
theorem drawn {me : ME Dc} {m : Int} (hi : env.at i = .st) (hk : env.at k = .raw (.ref g.c)) (he : me env g = some (.int m, g)) (hm : 0 < m ∧ m < 1073741824) : ∃ j g1, mCallG F__law_draw (gConsS i (gConsS k (gCons me gNil))) env g = some (.int j, g1) ∧ 0 ≤ j ∧ j < m ∧ g1.c = g.c := by
  obtain ⟨j, g1, h1, h2⟩ := draw_c g hm
  exact ⟨j, g1, callG_e (gst2 hi hk (gsh he rfl)) h1, h2⟩
theorem pick_e (g : Dc) {xs : List D} (h : xs ≠ []) (hl : xs.length < 1073741824) : ∃ x ∈ xs, ∃ g1, F__law_pick [.st, .raw (.ref g.c), .sh (.list xs)] g = some (x, g1) ∧ g1.c = g.c := by
  have hp := List.length_pos_iff.mpr h
  obtain ⟨j, g1, e1, j0, j1, hc⟩ := drawn (env := startE 3 [.st, .raw (.ref g.c), .sh (.list xs)]) (g := g) (i := 0) (k := 1) (me := mCall dLen (mCons (mVar 2) mNil)) (m := (xs.length : Int)) rfl rfl (call_e (cons_e rfl nil_e) rfl) (by omega)
  obtain ⟨n, rfl⟩ := Int.eq_ofNat_of_zero_le j0
  have hn : n < xs.length := by exact Int.ofNat_lt.mp j1
  exact ⟨xs[n], List.getElem_mem hn, g1, runG_re (as := [.st, .raw (.ref g.c), .sh (.list xs)]) (ret_e (op_e rfl e1 (ix_nat (List.getElem?_eq_getElem hn)))), hc⟩
theorem picked {me : ME Dc} {xs : List D} (hi : env.at i = .st) (hk : env.at k = .raw (.ref g.c)) (he : me env g = some (.list xs, g)) (h : xs ≠ []) (hl : xs.length < 1073741824) : ∃ x ∈ xs, ∃ g1, mCallG F__law_pick (gConsS i (gConsS k (gCons me gNil))) env g = some (x, g1) ∧ g1.c = g.c := by
  obtain ⟨x, hx, g1, h1, h2⟩ := pick_e g h hl
  exact ⟨x, hx, g1, callG_e (gst2 hi hk (gsh he rfl)) h1, h2⟩
end
theorem some_e (g : Dc) (k : Kd) : ∃ d g1, F__law_some [.st, .raw (.ref g.c), .sh (.str k.s)] g = some (d, g1) ∧ Vd k d ∧ g1.c = g.c := by
  obtain ⟨j, g1, e1, j0, j1, hc⟩ := drawn (env := startE 3 [.st, .raw (.ref g.c), .sh (.str k.s)]) (g := g) (i := 0) (k := 1) (me := mC (.int 6)) (m := 6) rfl rfl rfl (by decide)
  by_cases hj : j = 0
  · exact ⟨.none, g1, runG_re (as := [.st, .raw (.ref g.c), .sh (.str k.s)]) (seq_re (if_t (opT_e e1 rfl (eq_it hj)) (ret_e rfl))), by cases k <;> exact .inl rfl, hc⟩
  · have s1 := if_no (m1 := mRet (mC .none)) (opT_e e1 (show mC (.int 0) (startE 3 [.st, .raw (.ref g.c), .sh (.str k.s)]) g1 = _ from rfl) (eq_if hj))
    cases k with
    | int =>
      obtain ⟨v, g2, e2, v0, v1, hc2⟩ := drawn (env := startE 3 [.st, .raw (.ref g.c), .sh (.str Kd.int.s)]) (g := g1) (i := 0) (k := 1) (me := mC (.int 6)) (m := 6) rfl (by rw [hc]; rfl) rfl (by decide)
      exact ⟨.int (v - 2), g2, runG_re (as := [.st, .raw (.ref g.c), .sh (.str Kd.int.s)]) (seq_nx s1 (seq_re (if_t (opT_e rfl rfl rfl) (ret_e (op_e e2 rfl rfl))))), .inr ⟨_, rfl, by omega, by omega⟩, hc2.trans hc⟩
    | bool =>
      obtain ⟨v, g2, e2, v0, v1, hc2⟩ := drawn (env := startE 3 [.st, .raw (.ref g.c), .sh (.str Kd.bool.s)]) (g := g1) (i := 0) (k := 1) (me := mC (.int 2)) (m := 2) rfl (by rw [hc]; rfl) rfl (by decide)
      exact ⟨.bool (v == 0), g2, runG_re (as := [.st, .raw (.ref g.c), .sh (.str Kd.bool.s)]) (seq_nx s1 (seq_nx (if_no (opT_e rfl rfl rfl)) (seq_re (if_t (opT_e rfl rfl rfl) (ret_e (op_e e2 rfl (eq_int _ _))))))), .inr ⟨_, rfl⟩, hc2.trans hc⟩
    | text =>
      obtain ⟨x, hx, g2, e2, hc2⟩ := picked (env := startE 3 [.st, .raw (.ref g.c), .sh (.str Kd.text.s)]) (g := g1) (i := 0) (k := 1) (me := mL (mLst (mCons (mC (.str "")) (mCons (mC (.str "a")) (mCons (mC (.str "b")) (mCons (mC (.str "ab")) (mCons (mC (.str "b a")) mNil))))))) (xs := (["", "a", "b", "ab", "b a"] : List Str).map .str) rfl (by rw [hc]; rfl) (L_e (lst_e (cons_e rfl (cons_e rfl (cons_e rfl (cons_e rfl (cons_e rfl nil_e))))))) (by simp) (by decide)
      obtain ⟨s, hs, rfl⟩ := List.mem_map.mp hx
      exact ⟨.str s, g2, runG_re (as := [.st, .raw (.ref g.c), .sh (.str Kd.text.s)]) (seq_nx s1 (seq_nx (if_no (opT_e rfl rfl rfl)) (seq_nx (if_no (opT_e rfl rfl rfl)) (ret_e e2)))), .inr ⟨s, hs, rfl⟩, hc2.trans hc⟩
theorem somed {env : Pd.Env} {g : Dc} {i k : Nat} {me : ME Dc} {kd : Kd} (hi : env.at i = .st) (hk : env.at k = .raw (.ref g.c)) (he : me env g = some (.str kd.s, g)) : ∃ d g1, mCallG F__law_some (gConsS i (gConsS k (gCons me gNil))) env g = some (d, g1) ∧ Vd kd d ∧ g1.c = g.c := by
  obtain ⟨x, g1, h1, h2⟩ := some_e g kd
  exact ⟨x, g1, callG_e (gst2 hi hk (gsh he rfl)) h1, h2⟩
theorem kd_eq (a b : Kd) : dEq (.str a.s) (.str b.s) = some (.bool (decide (a.s = b.s))) := by cases a <;> cases b <;> rfl
theorem leaf_e (g : Dc) (k : Kd) (n : Nat) : ∃ e g1, F__law_leaf [.st, .raw (.ref g.c), .sh (.str k.s), .sh (.list (cellsL.map cD))] g = some (Ex.d e, g1) ∧ WT k n e ∧ g1.c = g.c := by
  have hc : compL (bName 5) (mOpT dEq (mOp dIx (mVar 5) (mC (.int 2))) (mVar 2)) (mVar 5) (Pd.Env.wipe (startE 6 [.st, .raw (.ref g.c), .sh (.str k.s), .sh (.list (cellsL.map cD))]) [5]) (cellsL.map cD) g = some ((cellsL.filter fun c => decide (c.2.2.s = k.s)).map cD, g) :=
    compL_filter cD cD (fun c => decide (c.2.2.s = k.s)) fun c _ => ⟨_, rfl, opT_e (op_e rfl rfl rfl) rfl (kd_eq _ _), rfl⟩
  let own := cellsL.filter fun c => decide (c.2.2.s = k.s)
  have hown : ∀ c ∈ own, c ∈ cellsL ∧ c.2.2 = k := fun c hc => by
    obtain ⟨h1, h2⟩ := List.mem_filter.mp hc
    refine ⟨h1, ?_⟩
    have h2 := of_decide_eq_true h2
    generalize c.2.2 = k2 at h2
    cases k2 <;> cases k <;> first | rfl | exact absurd h2 (by decide +kernel)
  have hne : own ≠ [] := by
    show (cellsL.filter fun c => decide (c.2.2.s = k.s)) ≠ []
    cases k <;> decide +kernel
  have hlen : own.length ≤ 5 := List.length_filter_le _ _
  have hcell : ∀ c ∈ own, ∀ s : Str, s = "cell" → ∃ e, Ex.d e = .tuple [.str s, .int (c.1 : Int), .int (c.2.1 : Int)] ∧ WT k n e := fun c hc s hs => by
    obtain ⟨h1, h2⟩ := hown c hc
    refine ⟨.cell c.1 c.2.1, by rw [hs]; rfl, .cell ?_⟩
    rw [← h2]
    exact h1
  let E1 : Pd.Env := [.st, .raw (.ref g.c), .sh (.str k.s), .sh (.list (cellsL.map cD)), .sh (.list (own.map cD)), .un]
  have s1 : mThen (mSetF 4 (mComp (mItL (mVar 3)) [5] (bName 5) (mOpT dEq (mOp dIx (mVar 5) (mC (.int 2))) (mVar 2)) (mVar 5))) 4 (startE 6 [.st, .raw (.ref g.c), .sh (.str k.s), .sh (.list (cellsL.map cD))]) g = some (.nx, E1, g) :=
    then_e (setF_e (comp_e (itL_e rfl) rfl hc))
  have t1 : mOpT dNe (mVar 4) (mL (mLst mNil)) E1 g = some (true, g) := by
    refine opT_e rfl (L_e (lst_e nil_e)) ?_
    show dNe (.list (own.map cD)) (.list []) = _
    have hd : (PyData.list (own.map cD)).depth ≤ 64 := Nat.le_trans (depth_list (n := 1) fun x hx => by obtain ⟨c, _, rfl⟩ := List.mem_map.mp hx; exact Nat.le_of_ble_eq_true rfl) (by decide)
    rw [ne_flat hd (by decide +kernel)]
    cases e : own with
    | nil => exact absurd e hne
    | cons a t => rfl
  obtain ⟨j, g1, e1, j0, j1, hc1⟩ := drawn (env := E1) (g := g) (i := 0) (k := 1) (me := mC (.int 3)) (m := 3) rfl rfl rfl (by decide)
  by_cases hj : 0 < j
  · obtain ⟨x, hx, g2, e2, hc2⟩ := picked (env := E1) (g := g1) (i := 0) (k := 1) (me := mVar 4) (xs := own.map cD) rfl (by rw [hc1]; rfl) rfl (by simpa using hne) (by rw [List.length_map]; omega)
    obtain ⟨c, hcm, rfl⟩ := List.mem_map.mp hx
    obtain ⟨e, he, hw⟩ := hcell c hcm "cell" rfl
    refine ⟨e, g2, runG_re (as := [.st, .raw (.ref g.c), .sh (.str k.s), .sh (.list (cellsL.map cD))]) (seq_nx s1 (seq_re (if_t (and_t t1 (opT_e e1 rfl (gt_t hj))) (ret_e (op_e (tup_e (cons_e rfl nil_e)) (slT_e (h := some 2) e2 rfl (part_e rfl) rfl) ?_))))), hw, hc2.trans hc1⟩
    rw [he]
    rfl
  · obtain ⟨d, g2, e2, hv, hc2⟩ := somed (env := E1) (g := g1) (i := 0) (k := 1) (me := mVar 2) (kd := k) rfl (by rw [hc1]; rfl) rfl
    exact ⟨.val d, g2, runG_re (as := [.st, .raw (.ref g.c), .sh (.str k.s), .sh (.list (cellsL.map cD))]) (seq_nx s1 (seq_nx (if_no (and_t t1 (opT_e e1 rfl (gt_f hj)))) (ret_e (tup_e (cons_e rfl (cons_e e2 nil_e)))))), .val hv, hc2.trans hc1⟩
end K30

namespace K30
open PySem Pd
inductive Wd7 | same | less | and | or | not | null | among
def Wd7.s : Wd7 → Str
  | .same => "same"
  | .less => "less"
  | .and => "and"
  | .or => "or"
  | .not => "not"
  | .null => "null"
  | .among => "among"
def Wd7.lg : Wd7 → Bool
  | .and | .or | .not => true
  | _ => false
def Wd7.one : Wd7 → Bool
  | .not | .null => true
  | _ => false
def Wd7.am : Wd7 → Bool
  | .among => true
  | _ => false
abbrev XA (c : Addr) (k : Kd) (f : Nat) : List SV := [.st, .raw (.ref c), .sh (.str k.s), .sh (.list (cellsL.map cD)), .sh (.int (f : Int))]
abbrev XE (c : Addr) (k : Kd) (f : Nat) (w i o t : SV) : Pd.Env := [.st, .raw (.ref c), .sh (.str k.s), .sh (.list (cellsL.map cD)), .sh (.int (f : Int)), w, i, o, t]
section
variable {F : List SV → Dc → Option (D × Dc)} {k k2 : Kd} {f : Nat} {g : Dc} {c : Addr} {w i o t : SV}
/-- the call behind -/
theorem self_e {d : D} {g1 : Dc} {me : ME Dc} {ki : Kd} (h : F [.st, .raw (.ref c), .sh (.str ki.s), .sh (.list (cellsL.map cD)), .sh (.int (f : Int))] g = some (d, g1)) (hm : me (XE c k (f + 1) w i o t) g = some (.str ki.s, g)) :
    mCallG F (gConsS 0 (gConsS 1 (gCons me (gCons (mVar 3) (gCons (mOp dSub (mVar 4) (mC (.int 1))) gNil))))) (XE c k (f + 1) w i o t) g = some (d, g1) := by
  refine callG_e (gst2 rfl rfl (gsh hm (gsh rfl (gsh (op_e rfl rfl ?_) rfl)))) h
  exact congrArg (fun z => some (PyData.int z)) (by omega)
end
theorem pick7 {x : D} (h : x ∈ ([.str "same", .str "less", .str "same", .str "less", .str "and", .str "or", .str "and", .str "not", .str "null", .str "among"] : List D)) : ∃ w : Wd7, x = .str w.s := by
  simp only [List.mem_cons, List.not_mem_nil, or_false] at h
  rcases h with rfl | rfl | rfl | rfl | rfl | rfl | rfl | rfl | rfl | rfl
  · exact ⟨.same, rfl⟩
  · exact ⟨.less, rfl⟩
  · exact ⟨.same, rfl⟩
  · exact ⟨.less, rfl⟩
  · exact ⟨.and, rfl⟩
  · exact ⟨.or, rfl⟩
  · exact ⟨.and, rfl⟩
  · exact ⟨.not, rfl⟩
  · exact ⟨.null, rfl⟩
  · exact ⟨.among, rfl⟩
theorem pick3 {x : D} (h : x ∈ ([.str "plus", .str "minus", .str "times"] : List D)) : ∃ w : W2, w.arith = true ∧ x = .str w.s := by
  simp only [List.mem_cons, List.not_mem_nil, or_false] at h
  rcases h with rfl | rfl | rfl
  · exact ⟨.plus, rfl, rfl⟩
  · exact ⟨.minus, rfl, rfl⟩
  · exact ⟨.times, rfl, rfl⟩
theorem pickK {x : D} (h : x ∈ ([.str "int", .str "int", .str "text", .str "bool"] : List D)) : ∃ k : Kd, x = .str k.s := by
  simp only [List.mem_cons, List.not_mem_nil, or_false] at h
  rcases h with rfl | rfl | rfl | rfl
  · exact ⟨.int, rfl⟩
  · exact ⟨.int, rfl⟩
  · exact ⟨.text, rfl⟩
  · exact ⟨.bool, rfl⟩
theorem in_lg (w : Wd7) : dInF false (.str w.s) (.list [.str "and", .str "or", .str "not"]) = some (.bool w.lg) := by cases w <;> rfl
theorem in_one (w : Wd7) : dInF false (.str w.s) (.list [.str "not", .str "null"]) = some (.bool w.one) := by cases w <;> rfl
theorem is_am (w : Wd7) : dEq (.str w.s) (.str "among") = some (.bool w.am) := by cases w <;> rfl
/-- the words of an expression of truth -/
def Wd7.kind (w : Wd7) (k : Kd) : Kd := if w.lg = true then .bool else k
theorem expr_e : ∀ (n f : Nat) (k : Kd) (g : Dc), f ≤ n → ∃ e g1, F__law_expr (n + 1) (XA g.c k f) g = some (Ex.d e, g1) ∧ WT k f e ∧ g1.c = g.c := by
  intro n
  induction n with
  | zero =>
    intro f k g hf
    obtain rfl : f = 0 := by omega
    obtain ⟨e, g1, e1, hw, hc⟩ := leaf_e g k 0
    exact ⟨e, g1, runG_re (as := XA g.c k 0) (m := m__law_expr (F__law_expr 0)) (seq_re (if_t (or_t (opT_e rfl rfl rfl)) (ret_e (callG_e (gst2 rfl rfl (gsh rfl (gsh rfl rfl))) e1)))), hw, hc⟩
  | succ n ih =>
    intro f k g hf
    cases f with
    | zero =>
      obtain ⟨e, g1, e1, hw, hc⟩ := leaf_e g k 0
      exact ⟨e, g1, runG_re (as := XA g.c k 0) (m := m__law_expr (F__law_expr (n + 1))) (seq_re (if_t (or_t (opT_e rfl rfl rfl)) (ret_e (callG_e (gst2 rfl rfl (gsh rfl (gsh rfl rfl))) e1)))), hw, hc⟩
    | succ f =>
      have hf : f ≤ n := by omega
      let E0 := XE g.c k (f + 1) .un .un .un .un
      have t0 : mOpT dEq (mVar 4) (mC (.int 0)) E0 g = some (false, g) := opT_e rfl rfl (eq_if (by omega))
      by_cases hk : k.s = Kd.text.s
      · obtain ⟨e, g1, e1, hw, hc⟩ := leaf_e g k (f + 1)
        have t1 : mOpT dEq (mVar 2) (mC (.str "text")) E0 g = some (true, g) := opT_e rfl rfl ((kd_eq k .text).trans (by rw [decide_eq_true hk]))
        exact ⟨e, g1, runG_re (as := XA g.c k (f + 1)) (m := m__law_expr (F__law_expr (n + 1))) (seq_re (if_t (or_f t0 (or_t t1)) (ret_e (callG_e (gst2 rfl rfl (gsh rfl (gsh rfl rfl))) e1)))), hw, hc⟩
      have t1 : mOpT dEq (mVar 2) (mC (.str "text")) E0 g = some (false, g) := opT_e rfl rfl ((kd_eq k .text).trans (by rw [decide_eq_false hk]))
      obtain ⟨j, g1, e1, j0, j1, hc1⟩ := drawn (env := E0) (g := g) (i := 0) (k := 1) (me := mC (.int 4)) (m := 4) rfl rfl rfl (by decide)
      by_cases hj : j = 0
      · obtain ⟨e, g2, e2, hw, hc2⟩ := leaf_e g1 k (f + 1)
        rw [hc1] at e2
        exact ⟨e, g2, runG_re (as := XA g.c k (f + 1)) (m := m__law_expr (F__law_expr (n + 1))) (seq_re (if_t (or_f t0 (or_f t1 (opT_e e1 rfl (eq_it hj)))) (ret_e (callG_e (gst2 rfl rfl (gsh rfl (gsh rfl rfl))) e2)))), hw, hc2.trans hc1⟩
      have s0 := if_no (m1 := mRet (mCallG F__law_leaf (gConsS 0 (gConsS 1 (gCons (mVar 2) (gCons (mVar 3) gNil)))))) (or_f t0 (or_f t1 (opT_e e1 (show mC (.int 0) E0 g1 = _ from rfl) (eq_if hj))))
      cases k with
      | text => exact absurd rfl hk
      | int =>
        obtain ⟨x, hx, g2, e2, hc2⟩ := picked (env := E0) (g := g1) (i := 0) (k := 1) (me := mL (mLst (mCons (mC (.str "plus")) (mCons (mC (.str "minus")) (mCons (mC (.str "times")) mNil))))) rfl (by rw [hc1]; rfl) (L_e (lst_e (cons_e rfl (cons_e rfl (cons_e rfl nil_e))))) (by simp) (by decide)
        obtain ⟨w, hw, rfl⟩ := pick3 hx
        obtain ⟨a, g3, e3, ha, hc3⟩ := ih f .int g2 hf
        obtain ⟨b, g4, e4, hb, hc4⟩ := ih f .int g3 hf
        have hc2' : g2.c = g.c := hc2.trans hc1
        have hc3' : g3.c = g.c := hc3.trans hc2'
        rw [hc2'] at e3
        rw [hc3'] at e4
        exact ⟨.bin w a b, g4, runG_re (as := XA g.c .int (f + 1)) (m := m__law_expr (F__law_expr (n + 1))) (seq_nx s0 (seq_re (if_t (opT_e rfl rfl rfl) (seq_nx (set_e e2) (ret_e (tup_e (cons_e rfl (cons_e (self_e e3 rfl) (cons_e (self_e e4 rfl) nil_e))))))))), .ar hw ha hb, hc4.trans hc3'⟩
      | bool =>
        obtain ⟨x, hx, g2, e2, hc2⟩ := picked (env := E0) (g := g1) (i := 0) (k := 1) (me := mL (mLst (mCons (mC (.str "same")) (mCons (mC (.str "less")) (mCons (mC (.str "same")) (mCons (mC (.str "less")) (mCons (mC (.str "and")) (mCons (mC (.str "or")) (mCons (mC (.str "and")) (mCons (mC (.str "not")) (mCons (mC (.str "null")) (mCons (mC (.str "among")) mNil)))))))))))) rfl (by rw [hc1]; rfl) (L_e (lst_e (cons_e rfl (cons_e rfl (cons_e rfl (cons_e rfl (cons_e rfl (cons_e rfl (cons_e rfl (cons_e rfl (cons_e rfl (cons_e rfl nil_e)))))))))))) (by simp) (by decide)
        obtain ⟨w, rfl⟩ := pick7 hx
        have hc2' : g2.c = g.c := hc2.trans hc1
        let E1 := XE g.c .bool (f + 1) (.sh (.str w.s)) .un .un .un
        obtain ⟨y, hy, g3, e3, hc3⟩ := picked (env := E1) (g := g2) (i := 0) (k := 1) (me := mL (mLst (mCons (mC (.str "int")) (mCons (mC (.str "int")) (mCons (mC (.str "text")) (mCons (mC (.str "bool")) mNil)))))) rfl (by rw [hc2']; rfl) (L_e (lst_e (cons_e rfl (cons_e rfl (cons_e rfl (cons_e rfl nil_e)))))) (by simp) (by decide)
        obtain ⟨kk, rfl⟩ := pickK hy
        have hc3' : g3.c = g.c := hc3.trans hc2'
        let ki := w.kind kk
        have s2 : (mIfS (mOpT (dInF false) (mVar 5) (mL (mLst (mCons (mC (.str "and")) (mCons (mC (.str "or")) (mCons (mC (.str "not")) mNil)))))) (mSet 6 (mC (.str "bool"))) mSkip) (XE g.c .bool (f + 1) (.sh (.str w.s)) (.sh (.str kk.s)) .un .un) g3 = some (.nx, XE g.c .bool (f + 1) (.sh (.str w.s)) (.sh (.str ki.s)) .un .un, g3) := by
          show _ = some (Ct.nx, XE g.c .bool (f + 1) (.sh (.str w.s)) (.sh (.str (w.kind kk).s)) .un .un, g3)
          have ht := opT_e (ma := mVar 5) (mb := mL (mLst (mCons (mC (.str "and")) (mCons (mC (.str "or")) (mCons (mC (.str "not")) mNil))))) (env := XE g.c .bool (f + 1) (.sh (.str w.s)) (.sh (.str kk.s)) .un .un) (g := g3) rfl (L_e (lst_e (cons_e rfl (cons_e rfl (cons_e rfl nil_e))))) (in_lg w)
          unfold Wd7.kind
          cases hl : w.lg with
          | true => rw [hl] at ht; exact if_t ht (set_e rfl)
          | false => rw [hl] at ht; exact if_no ht
        obtain ⟨a, g4, e4, ha, hc4⟩ := ih f ki g3 hf
        have hc4' : g4.c = g.c := hc4.trans hc3'
        rw [hc3'] at e4
        have pre : ∀ {r}, (mSeq (mIfS (mOpT (dInF false) (mVar 5) (mL (mLst (mCons (mC (.str "not")) (mCons (mC (.str "null")) mNil)))))
    (mRet (mTup (mCons (mVar 5) (mCons (mVar 7) mNil))))
    mSkip)
    (mSeq (mIfS (mOpT dEq (mVar 5) (mC (.str "among")))
    (mRet (mTup (mCons (mVar 5) (mCons (mVar 7) (mCons (mL (mComp (mRng1 (mCons (mOp dAdd (mC (.int 1)) (mCallG F__law_draw (gConsS 0 (gConsS 1 (gCons (mC (.int 3)) gNil))))) mNil)) [8] (bName 8) mYes (mCallG F__law_some (gConsS 0 (gConsS 1 (gCons (mVar 6) gNil)))))) mNil)))))
    mSkip)
    (mRet (mTup (mCons (mVar 5) (mCons (mVar 7) (mCons (mCallG (F__law_expr (n + 1)) (gConsS 0 (gConsS 1 (gCons (mVar 6) (gCons (mVar 3) (gCons (mOp dSub (mVar 4) (mC (.int 1))) gNil)))))) mNil))))))) (XE g.c .bool (f + 1) (.sh (.str w.s)) (.sh (.str ki.s)) (.sh a.d) .un) g4 = r → m__law_expr (F__law_expr (n + 1)) E0 g = r := fun h => by
          refine seq_nx s0 (seq_nx (if_no (opT_e rfl rfl rfl)) (seq_nx (set_e e2) (seq_nx (set_e e3) (seq_nx s2 (seq_nx (set_e (self_e e4 rfl)) h)))))
        have th := opT_e (ma := mVar 5) (mb := mL (mLst (mCons (mC (.str "not")) (mCons (mC (.str "null")) mNil)))) (env := XE g.c .bool (f + 1) (.sh (.str w.s)) (.sh (.str ki.s)) (.sh a.d) .un) (g := g4) rfl (L_e (lst_e (cons_e rfl (cons_e rfl nil_e)))) (in_one w)
        have ta := opT_e (ma := mVar 5) (mb := mC (.str "among")) (env := XE g.c .bool (f + 1) (.sh (.str w.s)) (.sh (.str ki.s)) (.sh a.d) .un) (g := g4) rfl rfl (is_am w)
        have bin : ∀ w2 : W2, w.s = w2.s → w.one = false → w.am = false → (∀ b, WT ki f b → WT .bool (f + 1) (.bin w2 a b)) → ∃ e g1, F__law_expr (n + 1 + 1) (XA g.c .bool (f + 1)) g = some (Ex.d e, g1) ∧ WT .bool (f + 1) e ∧ g1.c = g.c := fun w2 h1 h2 h3 h4 => by
          obtain ⟨b, g5, e5, hb, hc5⟩ := ih f ki g4 hf
          rw [hc4'] at e5
          rw [h2] at th
          rw [h3] at ta
          have ed : (Ex.bin w2 a b).d = PyData.tuple [.str w.s, a.d, b.d] := by rw [h1]; rfl
          refine ⟨.bin w2 a b, g5, ?_, h4 b hb, hc5.trans hc4'⟩
          rw [ed]
          exact runG_re (as := XA g.c .bool (f + 1)) (m := m__law_expr (F__law_expr (n + 1))) (pre (seq_nx (if_no th) (seq_nx (if_no ta) (ret_e (tup_e (cons_e rfl (cons_e rfl (cons_e (self_e e5 rfl) nil_e))))))))
        cases w with
        | same => exact bin .same rfl rfl rfl fun b hb => .cmp rfl ha hb
        | less => exact bin .less rfl rfl rfl fun b hb => .cmp rfl ha hb
        | and => exact bin .and rfl rfl rfl fun b hb => .lg rfl ha hb
        | or => exact bin .or rfl rfl rfl fun b hb => .lg rfl ha hb
        | not => exact ⟨.nt a, g4, runG_re (as := XA g.c .bool (f + 1)) (m := m__law_expr (F__law_expr (n + 1))) (pre (seq_re (if_t th (ret_e (tup_e (cons_e rfl (cons_e rfl nil_e))))))), .nt ha, hc4'⟩
        | null => exact ⟨.nl a, g4, runG_re (as := XA g.c .bool (f + 1)) (m := m__law_expr (F__law_expr (n + 1))) (pre (seq_re (if_t th (ret_e (tup_e (cons_e rfl (cons_e rfl nil_e))))))), .nl ha, hc4'⟩
        | among =>
          let E5 := XE g.c .bool (f + 1) (.sh (.str Wd7.among.s)) (.sh (.str ki.s)) (.sh a.d) .un
          obtain ⟨q, g5, e5, q0, q1, hc5⟩ := drawn (env := E5) (g := g4) (i := 0) (k := 1) (me := mC (.int 3)) (m := 3) rfl (by rw [hc4']; rfl) rfl (by decide)
          have hc5' : g5.c = g.c := hc5.trans hc4'
          have hcmp : ∀ (ds : List D) (g : Dc), (∀ d ∈ ds, ∃ z : Int, d = .int z) → g.c = g5.c → ∃ xs g2, compL (bName 8) mYes (mCallG F__law_some (gConsS 0 (gConsS 1 (gCons (mVar 6) gNil)))) (Pd.Env.wipe E5 [8]) ds g = some (xs, g2) ∧ xs.length = ds.length ∧ (∀ x ∈ xs, Vd ki x) ∧ g2.c = g5.c := by
            intro ds
            induction ds with
            | nil => exact fun g _ hg => ⟨[], g, rfl, rfl, (fun _ h => nomatch h), hg⟩
            | cons d ds ih2 =>
              intro g7 hd hg
              obtain ⟨x, g6, e6, hx, hc6⟩ := somed (env := (Pd.Env.wipe E5 [8]).set 8 (.sh d)) (g := g7) (i := 0) (k := 1) (me := mVar 6) (kd := ki) rfl (by rw [hg, hc5']; rfl) rfl
              obtain ⟨xs, g8, e8, hl, hxs, hc8⟩ := ih2 g6 (fun d' h => hd d' (List.mem_cons_of_mem _ h)) (hc6.trans hg)
              exact ⟨x :: xs, g8, compL_cons rfl e6 e8, by rw [List.length_cons, List.length_cons, hl], fun y hy => by
                rcases List.mem_cons.mp hy with e | e
                · rw [e]; exact hx
                · exact hxs y e, hc8⟩
          obtain ⟨xs, g6, e6, hl, hxs, hc6⟩ := hcmp (rng 0 (1 + q).toNat) g5 (fun d hd => by obtain ⟨k, _, rfl⟩ := rng_mem hd; exact ⟨_, rfl⟩) rfl
          rw [rng_len] at hl
          refine ⟨.am a xs, g6, runG_re (as := XA g.c .bool (f + 1)) (m := m__law_expr (F__law_expr (n + 1))) (pre (seq_nx (if_no th) (seq_re (if_t ta (ret_e (tup_e (cons_e rfl (cons_e rfl (cons_e (L_e (comp_e (rng1_e (cons_e (op_e rfl e5 rfl) nil_e) (by omega)) rfl e6)) nil_e))))))))), .am ha hxs (by omega) (by omega), hc6.trans hc5'⟩
end K30

namespace K30
open PySem Pd
/-! #### values -/
def VB (B : Int) : Kd → D → Prop
  | .int, d => d = .none ∨ ∃ i : Int, d = .int i ∧ -B ≤ i ∧ i ≤ B
  | .bool, d => d = .none ∨ ∃ b, d = .bool b
  | .text, d => d = .none ∨ ∃ s ∈ (["", "a", "b", "ab", "b a"] : List Str), d = .str s
def bnd : Nat → Int
  | 0 => 3
  | n + 1 => bnd n * bnd n
theorem bnd_ge : ∀ n, 3 ≤ bnd n
  | 0 => Int.le_refl _
  | n + 1 => by
    have h := bnd_ge n
    show 3 ≤ bnd n * bnd n
    have : bnd n * 3 ≤ bnd n * bnd n := Int.mul_le_mul_of_nonneg_left h (by omega)
    omega
theorem bnd_le : ∀ {n}, n ≤ 4 → bnd n ≤ 43046721 := by
  intro n h
  have : n = 0 ∨ n = 1 ∨ n = 2 ∨ n = 3 ∨ n = 4 := by omega
  rcases this with rfl | rfl | rfl | rfl | rfl <;> decide
theorem VB.of {k : Kd} {d : D} (h : Vd k d) (n : Nat) : VB (bnd n) k d := by
  have hb := bnd_ge n
  cases k with
  | int =>
    rcases h with h | ⟨i, h, h1, h2⟩
    · exact .inl h
    · exact .inr ⟨i, h, by omega, by omega⟩
  | bool => exact h
  | text => exact h
def turnD : D → D
  | .bool b => .bool !b
  | _ => .none
def bothD : D → D → D
  | .bool false, _ => .bool false
  | _, .bool false => .bool false
  | .bool true, .bool true => .bool true
  | _, _ => .none
def eithD : D → D → D
  | .bool true, _ => .bool true
  | _, .bool true => .bool true
  | .bool false, .bool false => .bool false
  | _, _ => .none
def calcD : W2 → D → D → D
  | .plus, x, y => (dAdd x y).getD .none
  | .minus, x, y => (dSub x y).getD .none
  | .times, x, y => (dMul x y).getD .none
  | .same, x, y => (dEq x y).getD .none
  | _, x, y => (dLt x y).getD .none
def reckD (w : W2) (x y : D) : D := if isNone x = true ∨ isNone y = true then .none else calcD w x y
def binD : W2 → D → D → D
  | .and, x, y => bothD x y
  | .or, x, y => eithD x y
  | w, x, y => reckD w x y
def amD (x : D) (vs : List D) : D := if isNone x = true then .none else if (vs.filter fun v => !isNone v).any (fun v => PyData.eqv v x) = true then .bool true else if vs.any isNone = true then .none else .bool false
def Ex.v (R : Nat → Nat → D) : Ex → D
  | .val d => d
  | .cell i j => R i j
  | .nt a => turnD (a.v R)
  | .nl a => .bool (isNone (a.v R))
  | .am a vs => amD (a.v R) vs
  | .bin w a b => binD w (a.v R) (b.v R)
/-! #### the defs of values -/
theorem is_e {G : Type} {env : Pd.Env} {g g1 : G} {ma : ME G} {x : D} (h : ma env g = some (x, g1)) : mOpT dIs ma (mC .none) env g = some (isNone x, g1) := opT_e h rfl rfl
theorem isNot_e {G : Type} {env : Pd.Env} {g g1 : G} {ma : ME G} {x : D} (h : ma env g = some (x, g1)) : mOpT dIsNot ma (mC .none) env g = some (!isNone x, g1) := opT_e h rfl rfl
abbrev B3 (x : D) : Prop := x = .none ∨ ∃ b, x = .bool b
theorem turned_e {x : D} (h : B3 x) : F_turned [x] = some (turnD x) := by
  rcases h with rfl | ⟨b, rfl⟩
  · rfl
  · cases b <;> rfl
theorem both_e {x y : D} (hx : B3 x) (hy : B3 y) : F_both [x, y] = some (bothD x y) := by
  rcases hx with rfl | ⟨b, rfl⟩ <;> rcases hy with rfl | ⟨c, rfl⟩
  · rfl
  · cases c <;> rfl
  · cases b <;> rfl
  · cases b <;> cases c <;> rfl
theorem either_e {x y : D} (hx : B3 x) (hy : B3 y) : F_either [x, y] = some (eithD x y) := by
  rcases hx with rfl | ⟨b, rfl⟩ <;> rcases hy with rfl | ⟨c, rfl⟩
  · rfl
  · cases c <;> rfl
  · cases b <;> rfl
  · cases b <;> cases c <;> rfl
/-- the sign w is defined at x, y -/
def Calc (w : W2) (x y : D) : Prop := match w with
  | .plus => dAdd x y = some (calcD .plus x y)
  | .minus => dSub x y = some (calcD .minus x y)
  | .times => dMul x y = some (calcD .times x y)
  | .same => ∃ b, dEq x y = some (.bool b) ∧ ∃ c, dLt x y = some (.bool c)
  | .less => ∃ b, dEq x y = some (.bool b) ∧ ∃ c, dLt x y = some (.bool c)
  | _ => False
theorem reckoned_e {w : W2} {x y : D} (h : isNone x = false → isNone y = false → Calc w x y) (hw : w.logic = false) : F_reckoned [.str w.s, x, y] = some (reckD w x y) := by
  have pre : ∀ d : D, Re d m_reckoned (startE 3 ([.str w.s, x, y].map .sh)) () → F_reckoned [.str w.s, x, y] = some d := fun d h => runP_Re (N := 3) (n := 3) (m := m_reckoned) (ds := [.str w.s, x, y]) h
  unfold reckD
  cases hx : isNone x with
  | true =>
    rw [if_pos (.inl rfl)]
    refine pre _ (re_in (re_ift (or_t ((is_e rfl).trans (by rw [hx]))) (re_ret rfl)))
  | false =>
    cases hy : isNone y with
    | true =>
      rw [if_pos (.inr rfl)]
      refine pre _ (re_in (re_ift (or_f ((is_e rfl).trans (by rw [hx])) ((is_e rfl).trans (by rw [hy]))) (re_ret rfl)))
    | false =>
      rw [if_neg (by simp)]
      have h := h hx hy
      have s0 := if_no (m1 := mRet (G := Unit) (mC .none)) (env := startE 3 ([.str w.s, x, y].map .sh)) (g := ()) (or_f ((is_e (ma := mVar 1) rfl).trans (by rw [hx])) ((is_e (ma := mVar 2) rfl).trans (by rw [hy])))
      cases w with
      | plus => exact pre _ (re_nx s0 (re_in (re_ift (opT_e rfl rfl rfl) (re_ret (op_e rfl rfl h)))))
      | minus => exact pre _ (re_nx s0 (re_nx (if_no (opT_e rfl rfl rfl)) (re_in (re_ift (opT_e rfl rfl rfl) (re_ret (op_e rfl rfl h))))))
      | times => exact pre _ (re_nx s0 (re_nx (if_no (opT_e rfl rfl rfl)) (re_nx (if_no (opT_e rfl rfl rfl)) (re_in (re_ift (opT_e rfl rfl rfl) (re_ret (op_e rfl rfl h)))))))
      | same =>
        obtain ⟨b, h1, _⟩ := h
        refine pre _ (re_nx s0 (re_nx (if_no (opT_e rfl rfl rfl)) (re_nx (if_no (opT_e rfl rfl rfl)) (re_nx (if_no (opT_e rfl rfl rfl)) (re_ret (mif_t (opT_e rfl rfl rfl) (op_e rfl rfl ?_)))))))
        show _ = some ((dEq x y).getD .none)
        rw [h1]
        rfl
      | less =>
        obtain ⟨b, h1, c, h2⟩ := h
        refine pre _ (re_nx s0 (re_nx (if_no (opT_e rfl rfl rfl)) (re_nx (if_no (opT_e rfl rfl rfl)) (re_nx (if_no (opT_e rfl rfl rfl)) (re_ret (mif_f (opT_e rfl rfl rfl) (op_e rfl rfl ?_)))))))
        show _ = some ((dLt x y).getD .none)
        rw [h2]
        rfl
      | and => cases hw
      | or => cases hw
theorem eqv_none : ∀ v : D, PyData.eqv v .none = isNone v := by intro v; cases v <;> simp [PyData.eqv, isNone]
theorem among_e {x : D} {vs : List D} (fx : flatD x = true) (fv : ∀ v ∈ vs, flatD v = true) : F_among [x, .list vs] = some (amD x vs) := by
  have pre : ∀ d : D, Re d m_among (startE 3 ([x, .list vs].map .sh)) () → F_among [x, .list vs] = some d := fun d h => runP_Re (N := 3) (n := 2) (m := m_among) (ds := [x, .list vs]) h
  unfold amD
  cases hx : isNone x with
  | true =>
    rw [if_pos rfl]
    exact pre _ (re_in (re_ift ((is_e rfl).trans (by rw [hx])) (re_ret rfl)))
  | false =>
    rw [if_neg (by simp)]
    have s0 := if_no (m1 := mRet (G := Unit) (mC .none)) (env := startE 3 ([x, .list vs].map .sh)) (g := ()) ((is_e (ma := mVar 0) rfl).trans (by rw [hx]))
    have hc : compL (bName 2) (mOpT dIsNot (mVar 2) (mC .none)) (mVar 2) (Pd.Env.wipe (startE 3 ([x, .list vs].map .sh)) [2]) (vs.map id) () = some ((vs.filter fun v => !isNone v).map id, ()) :=
      compL_filter id id (fun v => !isNone v) fun v _ => ⟨_, rfl, isNot_e rfl, rfl⟩
    rw [List.map_id, List.map_id] at hc
    have hin : dInF false x (.list (vs.filter fun v => !isNone v)) = some (.bool ((vs.filter fun v => !isNone v).any fun v => PyData.eqv v x)) := by
      show (if _ then _ else none) = _
      rw [if_pos ⟨fx, List.all_eq_true.mpr fun v hv => fv v (List.mem_filter.mp hv).1⟩]
      rfl
    have hin2 : dInF false .none (.list vs) = some (.bool (vs.any isNone)) := by
      show (if _ then _ else none) = _
      rw [if_pos ⟨rfl, List.all_eq_true.mpr fv⟩]
      have : (fun e => PyData.eqv e .none) = isNone := funext eqv_none
      rw [this]
      rfl
    have t1 := opT_e (ma := mVar 0) (env := startE 3 ([x, .list vs].map .sh)) (g := ()) rfl (L_e (comp_e (itL_e (ma := mVar 1) rfl) rfl hc)) hin
    cases h1 : (vs.filter fun v => !isNone v).any fun v => PyData.eqv v x with
    | true =>
      rw [if_pos rfl]
      rw [h1] at t1
      exact pre _ (re_nx s0 (re_in (re_ift t1 (re_ret rfl))))
    | false =>
      rw [if_neg (by simp)]
      rw [h1] at t1
      cases h2 : vs.any isNone with
      | true =>
        rw [if_pos rfl]
        rw [h2] at hin2
        exact pre _ (re_nx s0 (re_nx (if_no t1) (re_ret (mif_t (opT_e rfl rfl hin2) rfl))))
      | false =>
        rw [if_neg (by simp)]
        rw [h2] at hin2
        exact pre _ (re_nx s0 (re_nx (if_no t1) (re_ret (mif_f (opT_e rfl rfl hin2) rfl))))
end K30

namespace K30
open PySem Pd
/-! #### values stay small -/
theorem VB.flat {B : Int} {k : Kd} {d : D} (h : VB B k d) : flatD d = true := by
  cases k with
  | int => rcases h with rfl | ⟨i, rfl, _⟩ <;> rfl
  | bool => rcases h with rfl | ⟨i, rfl⟩ <;> rfl
  | text => rcases h with rfl | ⟨i, _, rfl⟩ <;> rfl
theorem Vd.flat {k : Kd} {d : D} (h : Vd k d) : flatD d = true := (VB.of h 0).flat
theorem VB.calc {n : Nat} {x y : D} (hn : n ≤ 4) {w : W2} (hw : w.arith = true) (hx : VB (bnd n) .int x) (hy : VB (bnd n) .int y) (h1 : isNone x = false) (h2 : isNone y = false) : Calc w x y ∧ VB (bnd (n + 1)) .int (calcD w x y) := by
  rcases hx with rfl | ⟨i, rfl, i1, i2⟩
  · cases h1
  rcases hy with rfl | ⟨j, rfl, j1, j2⟩
  · cases h2
  have hb := bnd_ge n
  have hl := bnd_le hn
  have hq : 3 * bnd n ≤ bnd n * bnd n := Int.mul_le_mul_of_nonneg_right hb (by omega)
  cases w with
  | plus => exact ⟨rfl, .inr ⟨i + j, rfl, by show -(bnd n * bnd n) ≤ _; omega, by show _ ≤ bnd n * bnd n; omega⟩⟩
  | minus => exact ⟨rfl, .inr ⟨i - j, rfl, by show -(bnd n * bnd n) ≤ _; omega, by show _ ≤ bnd n * bnd n; omega⟩⟩
  | times =>
    have e : dMul (.int i) (.int j) = some (.int (i * j)) := mul_l (by omega)
    have ec : calcD .times (.int i) (.int j) = .int (i * j) := by show (dMul _ _).getD .none = _; rw [e]; rfl
    refine ⟨by show dMul _ _ = some (calcD _ _ _); rw [ec]; exact e, .inr ⟨i * j, ec, ?_, ?_⟩⟩
    · show -(bnd n * bnd n) ≤ i * j
      have h := Int.natAbs_mul i j
      have h3 : (i * j).natAbs ≤ (bnd n).natAbs * (bnd n).natAbs := by rw [h]; exact Nat.mul_le_mul (by omega) (by omega)
      rw [← Int.natAbs_mul] at h3
      omega
    · show i * j ≤ bnd n * bnd n
      have h := Int.natAbs_mul i j
      have h3 : (i * j).natAbs ≤ (bnd n).natAbs * (bnd n).natAbs := by rw [h]; exact Nat.mul_le_mul (by omega) (by omega)
      rw [← Int.natAbs_mul] at h3
      omega
  | same => cases hw
  | less => cases hw
  | and => cases hw
  | or => cases hw
theorem small_depth {d : D} (h : scal0 d = true) : d.depth ≤ 64 := by cases d <;> first | exact Nat.le_of_ble_eq_true rfl | cases h
theorem VB.scal {B : Int} {k : Kd} {d : D} (h : VB B k d) : scal0 d = true := by
  cases k with
  | int => rcases h with rfl | ⟨i, rfl, _⟩ <;> rfl
  | bool => rcases h with rfl | ⟨i, rfl⟩ <;> rfl
  | text => rcases h with rfl | ⟨i, _, rfl⟩ <;> rfl
theorem VB.alike {B : Int} {k : Kd} {x y : D} (hx : VB B k x) (hy : VB B k y) (h1 : isNone x = false) (h2 : isNone y = false) : PySem.W.alike x y = true := by
  cases k with
  | int => rcases hx with rfl | ⟨i, rfl, _⟩ <;> rcases hy with rfl | ⟨j, rfl, _⟩ <;> first | cases h1; done | cases h2; done | simp [PySem.W.alike]
  | bool => rcases hx with rfl | ⟨i, rfl⟩ <;> rcases hy with rfl | ⟨j, rfl⟩ <;> first | cases h1; done | cases h2; done | simp [PySem.W.alike]
  | text => rcases hx with rfl | ⟨i, _, rfl⟩ <;> rcases hy with rfl | ⟨j, _, rfl⟩ <;> first | cases h1; done | cases h2; done | simp [PySem.W.alike]
theorem VB.cmp {B : Int} {k : Kd} {x y : D} {w : W2} (hw : w.cmp = true) (hx : VB B k x) (hy : VB B k y) (h1 : isNone x = false) (h2 : isNone y = false) : Calc w x y ∧ B3 (calcD w x y) := by
  have e1 := eq_flat (small_depth hx.scal) (small_depth hy.scal)
  have e2 : dLt x y = some (.bool (PySem.W.dataLt x y)) := if_pos ⟨small_depth hx.scal, small_depth hy.scal, hx.alike hy h1 h2, h1⟩
  cases w with
  | same => exact ⟨⟨_, e1, _, e2⟩, .inr ⟨_, by show (dEq _ _).getD .none = _; rw [e1]; rfl⟩⟩
  | less => exact ⟨⟨_, e1, _, e2⟩, .inr ⟨_, by show (dLt _ _).getD .none = _; rw [e2]; rfl⟩⟩
  | _ => cases hw
theorem turn3 (x : D) : B3 (turnD x) := by cases x <;> first | exact .inl rfl | exact .inr ⟨_, rfl⟩
theorem both3 {x y : D} (hx : B3 x) (hy : B3 y) : B3 (bothD x y) := by
  rcases hx with rfl | ⟨b, rfl⟩ <;> rcases hy with rfl | ⟨c, rfl⟩
  · exact .inl rfl
  · cases c <;> first | exact .inl rfl | exact .inr ⟨_, rfl⟩
  · cases b <;> first | exact .inl rfl | exact .inr ⟨_, rfl⟩
  · cases b <;> cases c <;> first | exact .inl rfl | exact .inr ⟨_, rfl⟩
theorem eith3 {x y : D} (hx : B3 x) (hy : B3 y) : B3 (eithD x y) := by
  rcases hx with rfl | ⟨b, rfl⟩ <;> rcases hy with rfl | ⟨c, rfl⟩
  · exact .inl rfl
  · cases c <;> first | exact .inl rfl | exact .inr ⟨_, rfl⟩
  · cases b <;> first | exact .inl rfl | exact .inr ⟨_, rfl⟩
  · cases b <;> cases c <;> first | exact .inl rfl | exact .inr ⟨_, rfl⟩
theorem am3 (x : D) (vs : List D) : B3 (amD x vs) := by
  unfold amD
  split
  · exact .inl rfl
  · split
    · exact .inr ⟨_, rfl⟩
    · split
      · exact .inl rfl
      · exact .inr ⟨_, rfl⟩
/-! #### the law's own value -/
abbrev LE (t r f w o v x s p : SV) : Pd.Env := [t, r, f, w, o, v, x, s, p]
abbrev tail2 : MS Unit := (mSeq (mIfS (mOpT (dInF false) (mVar 3) (mL (mLst (mCons (mC (.str "and")) (mCons (mC (.str "or")) mNil)))))
    (mSeq (mSet 7 (mOp dEq (mVar 3) (mC (.str "or"))))
    (mSeq (mIfS (mOpT (dInF false) (mVar 7) (mL (mComp (mItL (mL (mLst (mCons (mVar 4) (mCons (mVar 6) mNil))))) [8] (bName 8) (mOpT dIsNot (mVar 8) (mC .none)) (mVar 8))))
    (mRet (mVar 7))
    mSkip)
    (mRet (mOp dIx (mL (mLst (mCons (mBNot (mVar 7)) (mCons (mC .none) mNil)))) (mCall dInt (mCons (mBOr (mOp dIs (mVar 4) (mC .none)) (mOp dIs (mVar 6) (mC .none))) mNil))))))
    mSkip)
    (mSeq (mIfS (mOr (mOpT dIs (mVar 4) (mC .none)) (mOpT dIs (mVar 6) (mC .none)))
    (mRet (mC .none))
    mSkip)
    (mSeq (mIfS (mOpT dEq (mVar 3) (mC (.str "plus")))
    (mRet (mOp dAdd (mVar 4) (mVar 6)))
    mSkip)
    (mSeq (mIfS (mOpT dEq (mVar 3) (mC (.str "minus")))
    (mRet (mOp dSub (mVar 4) (mVar 6)))
    mSkip)
    (mSeq (mIfS (mOpT dEq (mVar 3) (mC (.str "times")))
    (mRet (mOp dMul (mVar 4) (mVar 6)))
    mSkip)
    (mRet (mOp dIx (mL (mLst (mCons (mOp dLt (mVar 4) (mVar 6)) (mCons (mOp dEq (mVar 4) (mVar 6)) mNil)))) (mCall dInt (mCons (mOp dEq (mVar 3) (mC (.str "same"))) mNil)))))))))
section
variable {t r f : D}
theorem tail_lg {w : W2} (hw : w.logic = true) {x y : D} (hx : B3 x) (hy : B3 y) : Re (binD w x y) tail2 (LE (.sh t) (.sh r) (.sh f) (.sh (.str w.s)) (.sh x) .un (.sh y) .un .un) () := by
  cases w with
  | and =>
    rcases hx with rfl | ⟨b, rfl⟩ <;> rcases hy with rfl | ⟨c, rfl⟩
    · exact ⟨_, _, rfl⟩
    · cases c <;> exact ⟨_, _, rfl⟩
    · cases b <;> exact ⟨_, _, rfl⟩
    · cases b <;> cases c <;> exact ⟨_, _, rfl⟩
  | or =>
    rcases hx with rfl | ⟨b, rfl⟩ <;> rcases hy with rfl | ⟨c, rfl⟩
    · exact ⟨_, _, rfl⟩
    · cases c <;> exact ⟨_, _, rfl⟩
    · cases b <;> exact ⟨_, _, rfl⟩
    · cases b <;> cases c <;> exact ⟨_, _, rfl⟩
  | _ => cases hw
theorem tail_ck {w : W2} (hw : w.logic = false) {x y : D} (h : isNone x = false → isNone y = false → Calc w x y) : Re (reckD w x y) tail2 (LE (.sh t) (.sh r) (.sh f) (.sh (.str w.s)) (.sh x) .un (.sh y) .un .un) () := by
  have hin : mOpT (dInF false) (mVar 3) (mL (mLst (mCons (mC (.str "and")) (mCons (mC (.str "or")) mNil)))) (LE (.sh t) (.sh r) (.sh f) (.sh (.str w.s)) (.sh x) .un (.sh y) .un .un) () = some (false, ()) :=
    opT_e rfl (L_e (lst_e (cons_e rfl (cons_e rfl nil_e)))) (by cases w <;> first | rfl | cases hw)
  refine re_nx (if_no hin) ?_
  unfold reckD
  cases hx : isNone x with
  | true =>
    rw [if_pos (.inl rfl)]
    exact re_in (re_ift (or_t ((is_e rfl).trans (by rw [hx]))) (re_ret rfl))
  | false =>
    cases hy : isNone y with
    | true =>
      rw [if_pos (.inr rfl)]
      exact re_in (re_ift (or_f ((is_e rfl).trans (by rw [hx])) ((is_e rfl).trans (by rw [hy]))) (re_ret rfl))
    | false =>
      rw [if_neg (by simp)]
      have h := h hx hy
      refine re_nx (if_no (or_f ((is_e (ma := mVar 4) rfl).trans (by rw [hx])) ((is_e (ma := mVar 6) rfl).trans (by rw [hy])))) ?_
      cases w with
      | plus => exact re_in (re_ift (opT_e rfl rfl rfl) (re_ret (op_e rfl rfl h)))
      | minus => exact re_nx (if_no (opT_e rfl rfl rfl)) (re_in (re_ift (opT_e rfl rfl rfl) (re_ret (op_e rfl rfl h))))
      | times => exact re_nx (if_no (opT_e rfl rfl rfl)) (re_nx (if_no (opT_e rfl rfl rfl)) (re_in (re_ift (opT_e rfl rfl rfl) (re_ret (op_e rfl rfl h)))))
      | same =>
        obtain ⟨b, h1, c, h2⟩ := h
        have e : calcD .same x y = .bool b := by show (dEq _ _).getD .none = _; rw [h1]; rfl
        rw [e]
        exact re_nx (if_no (opT_e rfl rfl rfl)) (re_nx (if_no (opT_e rfl rfl rfl)) (re_nx (if_no (opT_e rfl rfl rfl)) (re_ret (op_e (L_e (lst_e (cons_e (op_e rfl rfl h2) (cons_e (op_e rfl rfl h1) nil_e)))) (call_e (cons_e (op_e rfl rfl rfl) nil_e) rfl) rfl))))
      | less =>
        obtain ⟨b, h1, c, h2⟩ := h
        have e : calcD .less x y = .bool c := by show (dLt _ _).getD .none = _; rw [h2]; rfl
        rw [e]
        exact re_nx (if_no (opT_e rfl rfl rfl)) (re_nx (if_no (opT_e rfl rfl rfl)) (re_nx (if_no (opT_e rfl rfl rfl)) (re_ret (op_e (L_e (lst_e (cons_e (op_e rfl rfl h2) (cons_e (op_e rfl rfl h1) nil_e)))) (call_e (cons_e (op_e rfl rfl rfl) nil_e) rfl) rfl))))
      | and => cases hw
      | or => cases hw
theorem head_first {α : Type} (p q : α → Bool) (vs : List α) (hl : vs.length ≤ 1000) : dIx (.list (((vs.filter p).map fun _ => PyData.bool true) ++ ((vs.filter q).map fun _ => PyData.none) ++ [.bool false])) (.int 0) = some (if vs.any p = true then .bool true else if vs.any q = true then .none else .bool false) := by
  have key : ∀ p : α → Bool, vs.any p = true → ∃ a l, vs.filter p = a :: l := fun p h => by
    cases e : vs.filter p with
    | nil =>
      obtain ⟨x, h1, h2⟩ := List.any_eq_true.mp h
      have : x ∈ vs.filter p := List.mem_filter.mpr ⟨h1, h2⟩
      rw [e] at this
      cases this
    | cons a l => exact ⟨a, l, rfl⟩
  have none : ∀ p : α → Bool, vs.any p = false → vs.filter p = [] := fun p h => by
    rw [List.filter_eq_nil_iff]
    intro a ha z
    rw [List.any_eq_false] at h
    exact h a ha z
  cases h1 : vs.any p with
  | true =>
    obtain ⟨a, l, e⟩ := key p h1
    rw [e, if_pos rfl]
    exact ix_nat (j := 0) rfl
  | false =>
    rw [none p h1, if_neg (by simp)]
    cases h2 : vs.any q with
    | true =>
      obtain ⟨a, l, e⟩ := key q h2
      rw [e, if_pos rfl]
      exact ix_nat (j := 0) rfl
    | false =>
      rw [none q h2, if_neg (by simp)]
      rfl
theorem tail_am {x : D} {vs : List D} (fx : scal0 x = true) (fv : ∀ v ∈ vs, scal0 v = true) (hl : vs.length ≤ 3) (t : D) (ht : dIx t (.int 2) = some (.list vs)) : Re (amD x vs) (mSeq (mIfS (mOpT dIs (mVar 4) (mC .none))
    (mRet (mC .none))
    mSkip)
    (mRet (mOp dIx (mL (mCat (mL (mCat (mL (mComp (mItL (mOp dIx (mVar 0) (mC (.int 2)))) [5] (bName 5) (mAnd (mOpT dIsNot (mVar 5) (mC .none)) (mOpT dEq (mVar 5) (mVar 4))) (mC (.bool true)))) (mL (mComp (mItL (mOp dIx (mVar 0) (mC (.int 2)))) [5] (bName 5) (mOpT dIs (mVar 5) (mC .none)) (mC .none))))) (mL (mLst (mCons (mC (.bool false)) mNil))))) (mC (.int 0))))) (LE (.sh t) (.sh r) (.sh f) (.sh (.str "among")) (.sh x) .un .un .un .un) () := by
  unfold amD
  cases hx : isNone x with
  | true =>
    rw [if_pos rfl]
    exact re_in (re_ift ((is_e rfl).trans (by rw [hx])) (re_ret rfl))
  | false =>
    rw [if_neg (by simp)]
    refine re_nx (if_no ((is_e (ma := mVar 4) rfl).trans (by rw [hx]))) ?_
    have c1 : compL (bName 5) (mAnd (mOpT dIsNot (mVar 5) (mC .none)) (mOpT dEq (mVar 5) (mVar 4))) (mC (.bool true)) (Pd.Env.wipe (LE (.sh t) (.sh r) (.sh f) (.sh (.str "among")) (.sh x) .un .un .un .un) [5]) (vs.map id) () = some ((vs.filter fun v => !isNone v && PyData.eqv v x).map fun _ => .bool true, ()) :=
      compL_filter id (fun _ => .bool true) (fun v => !isNone v && PyData.eqv v x) fun v hv => ⟨_, rfl, by
        have t1 : mOpT dIsNot (mVar 5) (mC .none) ((Pd.Env.wipe (LE (.sh t) (.sh r) (.sh f) (.sh (.str "among")) (.sh x) .un .un .un .un) [5]).set 5 (.sh v)) () = some (!isNone v, ()) := isNot_e rfl
        show mAnd _ _ ((Pd.Env.wipe (LE (.sh t) (.sh r) (.sh f) (.sh (.str "among")) (.sh x) .un .un .un .un) [5]).set 5 (.sh v)) () = _
        cases hv1 : isNone v with
        | true => rw [hv1] at t1; exact and_f t1
        | false =>
          rw [hv1] at t1
          exact and_t t1 (opT_e rfl rfl (eq_flat (small_depth (fv v hv)) (small_depth fx))), rfl⟩
    have c2 : compL (bName 5) (mOpT dIs (mVar 5) (mC .none)) (mC .none) (Pd.Env.wipe (LE (.sh t) (.sh r) (.sh f) (.sh (.str "among")) (.sh x) .un .un .un .un) [5]) (vs.map id) () = some ((vs.filter isNone).map fun _ => .none, ()) :=
      compL_filter id (fun _ => .none) isNone fun v _ => ⟨_, rfl, is_e rfl, rfl⟩
    rw [List.map_id] at c1 c2
    have ln : ∀ {p : D → Bool} {d : D}, ((vs.filter p).map fun _ => d).length ≤ 3 := fun {p d} => by
      rw [List.length_map]
      exact Nat.le_trans (List.length_filter_le _ _) hl
    have z1000 : 1000 ≤ sizeLine := by decide
    have hhd := head_first (fun v => !isNone v && PyData.eqv v x) isNone vs (by omega)
    have ea : ((vs.filter fun v => !isNone v).any fun v => PyData.eqv v x) = vs.any fun v => !isNone v && PyData.eqv v x := List.any_filter ..
    rw [ea]
    refine re_ret (op_e (L_e (cat_e (L_e (cat_e (L_e (comp_e (itL_e (op_e rfl rfl ht)) rfl c1)) (L_e (comp_e (itL_e (op_e rfl rfl ht)) rfl c2)) ?_)) (L_e (lst_e (cons_e rfl nil_e))) ?_)) rfl hhd)
    · have h1 := ln (p := fun v => !isNone v && PyData.eqv v x) (d := .bool true)
      have h2 := ln (p := isNone) (d := .none)
      omega
    · have h1 := ln (p := fun v => !isNone v && PyData.eqv v x) (d := .bool true)
      have h2 := ln (p := isNone) (d := .none)
      rw [List.length_append]
      show _ + 1 ≤ _
      omega
end
end K30

namespace K30
open PySem Pd
structure RowsOk (rD : D) (R : Nat → Nat → D) : Prop where
  cell : ∀ (i j : Nat) (k : Kd), (i, j, k) ∈ cellsL → ∃ t, dIx rD (.int (i : Int)) = some t ∧ dIx t (.int (j : Int)) = some (R i j)
  vd : ∀ (i j : Nat) (k : Kd), (i, j, k) ∈ cellsL → Vd k (R i j)
theorem bin_reck {w : W2} (h : w.logic = false) (x y : D) : binD w x y = reckD w x y := by cases w <;> first | rfl | cases h
theorem reck_none {w : W2} {x y : D} (h : isNone x = true ∨ isNone y = true) : reckD w x y = .none := if_pos h
theorem reck_some {w : W2} {x y : D} (h1 : isNone x = false) (h2 : isNone y = false) : reckD w x y = calcD w x y := if_neg (by rw [h1, h2]; simp)
theorem arith_lg {w : W2} (h : w.arith = true) : w.logic = false := by cases w <;> first | rfl | cases h
theorem cmp_lg {w : W2} (h : w.cmp = true) : w.logic = false := by cases w <;> first | rfl | cases h
section
variable {rD fD : D} {R : Nat → Nat → D}
theorem val_vb (ok : RowsOk rD R) {k : Kd} {n : Nat} {e : Ex} (h : WT k n e) : n ≤ 4 → VB (bnd n) k (e.v R) := by
  induction h with
  | val h => exact fun _ => VB.of h _
  | cell h => exact fun _ => VB.of (ok.vd _ _ _ h) _
  | @ar n w a b hw _ _ ia ib =>
    intro hn
    have ia := ia (by omega)
    have ib := ib (by omega)
    show VB _ _ (binD w _ _)
    rw [bin_reck (arith_lg hw)]
    cases h1 : isNone (a.v R) with
    | true => rw [reck_none (.inl h1)]; exact .inl rfl
    | false =>
      cases h2 : isNone (b.v R) with
      | true => rw [reck_none (.inr h2)]; exact .inl rfl
      | false => rw [reck_some h1 h2]; exact (VB.calc (by omega) hw ia ib h1 h2).2
  | @cmp k n w a b hw _ _ ia ib =>
    intro hn
    have ia := ia (by omega)
    have ib := ib (by omega)
    show B3 (binD w _ _)
    rw [bin_reck (cmp_lg hw)]
    cases h1 : isNone (a.v R) with
    | true => rw [reck_none (.inl h1)]; exact .inl rfl
    | false =>
      cases h2 : isNone (b.v R) with
      | true => rw [reck_none (.inr h2)]; exact .inl rfl
      | false => rw [reck_some h1 h2]; exact (VB.cmp hw ia ib h1 h2).2
  | @lg n w a b hw _ _ ia ib =>
    intro hn
    cases w with
    | and => exact both3 (ia (by omega)) (ib (by omega))
    | or => exact eith3 (ia (by omega)) (ib (by omega))
    | _ => cases hw
  | nt _ _ => exact fun _ => turn3 _
  | nl _ _ => exact fun _ => .inr ⟨_, rfl⟩
  | am _ _ _ _ _ => exact fun _ => am3 _ _
/-- what the sign asks, at these values -/
theorem calc_ok (ok : RowsOk rD R) {k : Kd} {n : Nat} {w : W2} {a b : Ex} (hn : n ≤ 4) (hw : w.arith = true ∧ k = .int ∨ w.cmp = true) (ha : WT k n a) (hb : WT k n b) : isNone (a.v R) = false → isNone (b.v R) = false → Calc w (a.v R) (b.v R) := fun h1 h2 => by
  rcases hw with ⟨hw, rfl⟩ | hw
  · exact (VB.calc hn hw (val_vb ok ha hn) (val_vb ok hb hn) h1 h2).1
  · exact (VB.cmp hw (val_vb ok ha hn) (val_vb ok hb hn) h1 h2).1
abbrev VE (t r f w o x : SV) : Pd.Env := [t, r, f, w, o, x]
theorem word_t {G : Type} {env : Pd.Env} {g : G} {s t : Str} {b : Bool} {i : Nat} (h : env.at i = .sh (.str s)) (e : dEq (.str s) (.str t) = some (.bool b)) : mOpT dEq (mVar i) (mC (.str t)) env g = some (b, g) := opT_e (var_e h) rfl e
theorem value_e (ok : RowsOk rD R) {k : Kd} {n : Nat} {e : Ex} (h : WT k n e) : ∀ m, n < m → n ≤ 4 → F_value_of m [e.d, rD, fD] = some (e.v R) := by
  have pre : ∀ {m : Nat} {e : Ex} {d : D}, Re d (m_value_of (F_value_of m)) (startE 6 ([e.d, rD, fD].map .sh)) () → F_value_of (m + 1) [e.d, rD, fD] = some d := fun {m e d} h => runP_Re (N := 6) (n := 3) (m := m_value_of (F_value_of m)) (ds := [e.d, rD, fD]) h
  have bin : ∀ {w : W2} {a b : Ex} {m : Nat}, F_value_of m [a.d, rD, fD] = some (a.v R) → F_value_of m [b.d, rD, fD] = some (b.v R) → Re (binD w (a.v R) (b.v R)) (mSeq (mIfS (mOpT dEq (mVar 3) (mC (.str "and")))
    (mRet (mCall F_both (mCons (mVar 4) (mCons (mVar 5) mNil))))
    mSkip)
    (mSeq (mIfS (mOpT dEq (mVar 3) (mC (.str "or")))
    (mRet (mCall F_either (mCons (mVar 4) (mCons (mVar 5) mNil))))
    mSkip)
    (mRet (mCall F_reckoned (mCons (mVar 3) (mCons (mVar 4) (mCons (mVar 5) mNil))))))) (VE (.sh (Ex.bin w a b).d) (.sh rD) (.sh fD) (.sh (.str w.s)) (.sh (a.v R)) (.sh (b.v R))) () → F_value_of (m + 1) [(Ex.bin w a b).d, rD, fD] = some ((Ex.bin w a b).v R) := fun {w a b m} ha hb hr => by
    have nx : ∀ {t : Str} {env : Pd.Env} {x : ME Unit}, env.at 3 = .sh (.str w.s) → dEq (.str w.s) (.str t) = some (.bool false) → mIfS (mOpT dEq (mVar 3) (mC (.str t))) (mRet x) mSkip env () = some (.nx, env, ()) := fun h e => if_no (word_t h e)
    have sa : mCall (F_value_of m) (mCons (mOp dIx (mVar 0) (mC (.int 1))) (mCons (mVar 1) (mCons (mVar 2) mNil))) (VE (.sh (Ex.bin w a b).d) (.sh rD) (.sh fD) (.sh (.str w.s)) .un .un) () = some (a.v R, ()) := call_e (xs := [a.d, rD, fD]) (cons_e (op_e rfl rfl rfl) (cons_e rfl (cons_e rfl nil_e))) ha
    have sb : mCall (F_value_of m) (mCons (mOp dIx (mVar 0) (mC (.int 2))) (mCons (mVar 1) (mCons (mVar 2) mNil))) (VE (.sh (Ex.bin w a b).d) (.sh rD) (.sh fD) (.sh (.str w.s)) (.sh (a.v R)) .un) () = some (b.v R, ()) := call_e (xs := [b.d, rD, fD]) (cons_e (op_e rfl rfl rfl) (cons_e rfl (cons_e rfl nil_e))) hb
    refine pre (re_nx (set_e (op_e rfl rfl rfl)) (re_nx (nx rfl ?_) (re_nx (nx rfl ?_) (re_nx (nx rfl ?_) (re_nx (set_e sa) (re_nx (nx rfl ?_) (re_nx (nx rfl ?_) (re_nx (nx rfl ?_) (re_nx (set_e sb) hr)))))))))
    all_goals (cases w <;> rfl)
  induction h with
  | @val k n d h =>
    intro m hm _
    obtain ⟨m, rfl⟩ : ∃ j, m = j + 1 := ⟨m - 1, by omega⟩
    exact pre (re_nx (set_e (op_e rfl rfl rfl)) (re_in (re_ift (word_t rfl rfl) (re_ret (op_e rfl rfl rfl)))))
  | @cell k n i j h =>
    intro m hm _
    obtain ⟨m, rfl⟩ : ∃ j, m = j + 1 := ⟨m - 1, by omega⟩
    obtain ⟨t, h1, h2⟩ := ok.cell _ _ _ h
    exact pre (re_nx (set_e (op_e rfl rfl rfl)) (re_nx (if_no (word_t rfl rfl)) (re_in (re_ift (word_t rfl rfl) (re_ret (op_e (op_e rfl (op_e rfl rfl rfl) h1) (op_e rfl rfl rfl) h2))))))
  | @ar n w a b hw ha hb ia ib =>
    intro m hm hn
    obtain ⟨m, rfl⟩ : ∃ j, m = j + 1 := ⟨m - 1, by omega⟩
    refine bin (ia m (by omega) (by omega)) (ib m (by omega) (by omega)) ?_
    rw [bin_reck (arith_lg hw)]
    have hr := reckoned_e (calc_ok ok (by omega) (.inl ⟨hw, rfl⟩) ha hb) (arith_lg hw)
    refine re_nx (if_no (word_t rfl ?_)) (re_nx (if_no (word_t rfl ?_)) (re_ret (call_e (xs := [.str w.s, a.v R, b.v R]) (cons_e rfl (cons_e rfl (cons_e rfl nil_e))) hr)))
    all_goals (cases w <;> first | rfl | cases hw)
  | @cmp k n w a b hw ha hb ia ib =>
    intro m hm hn
    obtain ⟨m, rfl⟩ : ∃ j, m = j + 1 := ⟨m - 1, by omega⟩
    refine bin (ia m (by omega) (by omega)) (ib m (by omega) (by omega)) ?_
    rw [bin_reck (cmp_lg hw)]
    have hr := reckoned_e (calc_ok ok (by omega) (.inr hw) ha hb) (cmp_lg hw)
    refine re_nx (if_no (word_t rfl ?_)) (re_nx (if_no (word_t rfl ?_)) (re_ret (call_e (xs := [.str w.s, a.v R, b.v R]) (cons_e rfl (cons_e rfl (cons_e rfl nil_e))) hr)))
    all_goals (cases w <;> first | rfl | cases hw)
  | @lg n w a b hw ha hb ia ib =>
    intro m hm hn
    obtain ⟨m, rfl⟩ : ∃ j, m = j + 1 := ⟨m - 1, by omega⟩
    refine bin (ia m (by omega) (by omega)) (ib m (by omega) (by omega)) ?_
    have xa : B3 (a.v R) := val_vb ok ha (by omega)
    have xb : B3 (b.v R) := val_vb ok hb (by omega)
    cases w with
    | and => exact re_in (re_ift (word_t rfl rfl) (re_ret (call_e (xs := [a.v R, b.v R]) (cons_e rfl (cons_e rfl nil_e)) (both_e xa xb))))
    | or => exact re_nx (if_no (word_t rfl rfl)) (re_in (re_ift (word_t rfl rfl) (re_ret (call_e (xs := [a.v R, b.v R]) (cons_e rfl (cons_e rfl nil_e)) (either_e xa xb)))))
    | _ => cases hw
  | @nt n a ha ia =>
    intro m hm hn
    obtain ⟨m, rfl⟩ : ∃ j, m = j + 1 := ⟨m - 1, by omega⟩
    have xa : B3 (a.v R) := val_vb ok ha (by omega)
    exact pre (re_nx (set_e (op_e rfl rfl rfl)) (re_nx (if_no (word_t rfl rfl)) (re_nx (if_no (word_t rfl rfl)) (re_nx (if_no (word_t rfl rfl)) (re_nx (set_e (call_e (xs := [a.d, rD, fD]) (cons_e (op_e rfl rfl rfl) (cons_e rfl (cons_e rfl nil_e))) (ia m (by omega) (by omega)))) (re_nx (if_no (word_t rfl rfl)) (re_in (re_ift (word_t rfl rfl) (re_ret (call_e (xs := [a.v R]) (cons_e rfl nil_e) (turned_e xa)))))))))))
  | @nl k n a ha ia =>
    intro m hm hn
    obtain ⟨m, rfl⟩ : ∃ j, m = j + 1 := ⟨m - 1, by omega⟩
    exact pre (re_nx (set_e (op_e rfl rfl rfl)) (re_nx (if_no (word_t rfl rfl)) (re_nx (if_no (word_t rfl rfl)) (re_nx (if_no (word_t rfl rfl)) (re_nx (set_e (call_e (xs := [a.d, rD, fD]) (cons_e (op_e rfl rfl rfl) (cons_e rfl (cons_e rfl nil_e))) (ia m (by omega) (by omega)))) (re_in (re_ift (word_t rfl rfl) (re_ret (op_e rfl rfl rfl)))))))))
  | @am k n a vs ha hv h1 h3 ia =>
    intro m hm hn
    obtain ⟨m, rfl⟩ : ∃ j, m = j + 1 := ⟨m - 1, by omega⟩
    have xa := (val_vb ok ha (by omega)).flat
    exact pre (re_nx (set_e (op_e rfl rfl rfl)) (re_nx (if_no (word_t rfl rfl)) (re_nx (if_no (word_t rfl rfl)) (re_nx (if_no (word_t rfl rfl)) (re_nx (set_e (call_e (xs := [a.d, rD, fD]) (cons_e (op_e rfl rfl rfl) (cons_e rfl (cons_e rfl nil_e))) (ia m (by omega) (by omega)))) (re_nx (if_no (word_t rfl rfl)) (re_nx (if_no (word_t rfl rfl)) (re_in (re_ift (word_t rfl rfl) (re_ret (call_e (xs := [a.v R, .list vs]) (cons_e rfl (cons_e (op_e rfl rfl rfl) nil_e)) (among_e xa fun v hv' => (hv v hv').flat))))))))))))
theorem law_val_e (ok : RowsOk rD R) {k : Kd} {n : Nat} {e : Ex} (h : WT k n e) : ∀ m, n < m → n ≤ 4 → F__law_val m [e.d, rD, fD] = some (e.v R) := by
  have pre : ∀ {m : Nat} {e : Ex} {d : D}, Re d (m__law_val (F__law_val m)) (startE 9 ([e.d, rD, fD].map .sh)) () → F__law_val (m + 1) [e.d, rD, fD] = some d := fun {m e d} h => runP_Re (N := 9) (n := 3) (m := m__law_val (F__law_val m)) (ds := [e.d, rD, fD]) h
  have bin : ∀ {w : W2} {a b : Ex} {m : Nat}, F__law_val m [a.d, rD, fD] = some (a.v R) → F__law_val m [b.d, rD, fD] = some (b.v R) → Re (binD w (a.v R) (b.v R)) tail2 (LE (.sh (Ex.bin w a b).d) (.sh rD) (.sh fD) (.sh (.str w.s)) (.sh (a.v R)) .un (.sh (b.v R)) .un .un) () → F__law_val (m + 1) [(Ex.bin w a b).d, rD, fD] = some ((Ex.bin w a b).v R) := fun {w a b m} ha hb hr => by
    have nx : ∀ {t : Str} {env : Pd.Env} {x : MS Unit}, env.at 3 = .sh (.str w.s) → dEq (.str w.s) (.str t) = some (.bool false) → mIfS (mOpT dEq (mVar 3) (mC (.str t))) x mSkip env () = some (.nx, env, ()) := fun h e => if_no (word_t h e)
    have sa : mCall (F__law_val m) (mCons (mOp dIx (mVar 0) (mC (.int 1))) (mCons (mVar 1) (mCons (mVar 2) mNil))) (LE (.sh (Ex.bin w a b).d) (.sh rD) (.sh fD) (.sh (.str w.s)) .un .un .un .un .un) () = some (a.v R, ()) := call_e (xs := [a.d, rD, fD]) (cons_e (op_e rfl rfl rfl) (cons_e rfl (cons_e rfl nil_e))) ha
    have sb : mCall (F__law_val m) (mCons (mOp dIx (mVar 0) (mC (.int 2))) (mCons (mVar 1) (mCons (mVar 2) mNil))) (LE (.sh (Ex.bin w a b).d) (.sh rD) (.sh fD) (.sh (.str w.s)) (.sh (a.v R)) .un .un .un .un) () = some (b.v R, ()) := call_e (xs := [b.d, rD, fD]) (cons_e (op_e rfl rfl rfl) (cons_e rfl (cons_e rfl nil_e))) hb
    refine pre (re_nx (set_e (op_e rfl rfl rfl)) (re_nx (nx rfl ?_) (re_nx (nx rfl ?_) (re_nx (nx rfl ?_) (re_nx (set_e sa) (re_nx (nx rfl ?_) (re_nx (nx rfl ?_) (re_nx (nx rfl ?_) (re_nx (set_e sb) hr)))))))))
    all_goals (cases w <;> rfl)
  induction h with
  | @val k n d h =>
    intro m hm _
    obtain ⟨m, rfl⟩ : ∃ j, m = j + 1 := ⟨m - 1, by omega⟩
    exact pre (re_nx (set_e (op_e rfl rfl rfl)) (re_in (re_ift (word_t rfl rfl) (re_ret (op_e rfl rfl rfl)))))
  | @cell k n i j h =>
    intro m hm _
    obtain ⟨m, rfl⟩ : ∃ j, m = j + 1 := ⟨m - 1, by omega⟩
    obtain ⟨t, h1, h2⟩ := ok.cell _ _ _ h
    exact pre (re_nx (set_e (op_e rfl rfl rfl)) (re_nx (if_no (word_t rfl rfl)) (re_in (re_ift (word_t rfl rfl) (re_ret (op_e (op_e rfl (op_e rfl rfl rfl) h1) (op_e rfl rfl rfl) h2))))))
  | @ar n w a b hw ha hb ia ib =>
    intro m hm hn
    obtain ⟨m, rfl⟩ : ∃ j, m = j + 1 := ⟨m - 1, by omega⟩
    refine bin (ia m (by omega) (by omega)) (ib m (by omega) (by omega)) ?_
    rw [bin_reck (arith_lg hw)]
    exact tail_ck (arith_lg hw) (calc_ok ok (by omega) (.inl ⟨hw, rfl⟩) ha hb)
  | @cmp k n w a b hw ha hb ia ib =>
    intro m hm hn
    obtain ⟨m, rfl⟩ : ∃ j, m = j + 1 := ⟨m - 1, by omega⟩
    refine bin (ia m (by omega) (by omega)) (ib m (by omega) (by omega)) ?_
    rw [bin_reck (cmp_lg hw)]
    exact tail_ck (cmp_lg hw) (calc_ok ok (by omega) (.inr hw) ha hb)
  | @lg n w a b hw ha hb ia ib =>
    intro m hm hn
    obtain ⟨m, rfl⟩ : ∃ j, m = j + 1 := ⟨m - 1, by omega⟩
    exact bin (ia m (by omega) (by omega)) (ib m (by omega) (by omega)) (tail_lg hw (val_vb ok ha (by omega)) (val_vb ok hb (by omega)))
  | @nt n a ha ia =>
    intro m hm hn
    obtain ⟨m, rfl⟩ : ∃ j, m = j + 1 := ⟨m - 1, by omega⟩
    have xa : B3 (a.v R) := val_vb ok ha (by omega)
    refine pre (re_nx (set_e (op_e rfl rfl rfl)) (re_nx (if_no (word_t rfl rfl)) (re_nx (if_no (word_t rfl rfl)) (re_nx (if_no (word_t rfl rfl)) (re_nx (set_e (call_e (xs := [a.d, rD, fD]) (cons_e (op_e rfl rfl rfl) (cons_e rfl (cons_e rfl nil_e))) (ia m (by omega) (by omega)))) (re_nx (if_no (word_t rfl rfl)) (re_in (re_ift (word_t rfl rfl) (re_ret (g1 := ()) ?_)))))))))
    show _ = some (turnD (a.v R), ())
    generalize a.v R = x at xa
    rcases xa with rfl | ⟨b, rfl⟩
    · rfl
    · cases b <;> rfl
  | @nl k n a ha ia =>
    intro m hm hn
    obtain ⟨m, rfl⟩ : ∃ j, m = j + 1 := ⟨m - 1, by omega⟩
    exact pre (re_nx (set_e (op_e rfl rfl rfl)) (re_nx (if_no (word_t rfl rfl)) (re_nx (if_no (word_t rfl rfl)) (re_nx (if_no (word_t rfl rfl)) (re_nx (set_e (call_e (xs := [a.d, rD, fD]) (cons_e (op_e rfl rfl rfl) (cons_e rfl (cons_e rfl nil_e))) (ia m (by omega) (by omega)))) (re_in (re_ift (word_t rfl rfl) (re_ret (op_e rfl rfl rfl)))))))))
  | @am k n a vs ha hv h1 h3 ia =>
    intro m hm hn
    obtain ⟨m, rfl⟩ : ∃ j, m = j + 1 := ⟨m - 1, by omega⟩
    have xa := (val_vb ok ha (by omega)).scal
    exact pre (re_nx (set_e (op_e rfl rfl rfl)) (re_nx (if_no (word_t rfl rfl)) (re_nx (if_no (word_t rfl rfl)) (re_nx (if_no (word_t rfl rfl)) (re_nx (set_e (call_e (xs := [a.d, rD, fD]) (cons_e (op_e rfl rfl rfl) (cons_e rfl (cons_e rfl nil_e))) (ia m (by omega) (by omega)))) (re_nx (if_no (word_t rfl rfl)) (re_nx (if_no (word_t rfl rfl)) (re_in (re_ift (word_t rfl rfl) (tail_am xa (fun v hv' => (VB.of (hv v hv') 0).scal) h3 _ rfl))))))))))
end
end K30

namespace K30
open PySem Pd
/-! #### parts, places -/
def Ex.subs : Ex → List (Nat × Ex)
  | .val _ => []
  | .cell _ _ => []
  | .nt a => [(1, a)]
  | .nl a => [(1, a)]
  | .am a _ => [(1, a)]
  | .bin _ a b => [(1, a), (2, b)]
def subD (p : Nat × Ex) : D := .tuple [.int (p.1 : Int), p.2.d]
theorem parts_e (e : Ex) : F_parts_of [e.d] = some (.list (e.subs.map subD)) := by
  cases e with
  | bin w a b => cases w <;> rfl
  | _ => rfl
theorem within_e (e : Ex) : F__law_within [e.d] = some (.list (e.subs.map subD)) := by
  cases e with
  | bin w a b => cases w <;> rfl
  | _ => rfl
abbrev Plc := List Nat × Ex
def pre (i : Nat) (p : Plc) : Plc := (i :: p.1, p.2)
def Ex.pl : Ex → List Plc
  | .val d => [([], .val d)]
  | .cell i j => [([], .cell i j)]
  | .nt a => ([], .nt a) :: a.pl.map (pre 1)
  | .nl a => ([], .nl a) :: a.pl.map (pre 1)
  | .am a vs => ([], .am a vs) :: a.pl.map (pre 1)
  | .bin w a b => ([], .bin w a b) :: (a.pl.map (pre 1) ++ b.pl.map (pre 2))
theorem pl_subs (e : Ex) : e.pl = ([], e) :: e.subs.flatMap fun p => p.2.pl.map (pre p.1) := by
  cases e <;> simp [Ex.pl, Ex.subs]
def pathD (q : List Nat) : D := .tuple (q.map fun n : Nat => PyData.int (n : Int))
def pD (q : List Nat) (p : Plc) : D := .tuple [pathD (q ++ p.1), p.2.d]
theorem pD_pre (q : List Nat) (i : Nat) (p : Plc) : pD (q ++ [i]) p = pD q (pre i p) := by
  unfold pD pre
  rw [List.append_assoc]
  rfl
theorem pl_len {k : Kd} {n : Nat} {e : Ex} (h : WT k n e) : e.pl.length ≤ 2 ^ (n + 1) - 1 := by
  have two : ∀ n, 1 ≤ 2 ^ n := fun n => Nat.one_le_two_pow
  induction h with
  | @val k n d _ => have := two n; rw [Nat.pow_succ]; show 1 ≤ _; omega
  | @cell k n i j _ => have := two n; rw [Nat.pow_succ]; show 1 ≤ _; omega
  | @ar n w a b _ _ _ ia ib =>
    have := two (n + 1); rw [Nat.pow_succ]
    show (_ :: (_ ++ _)).length ≤ _
    rw [List.length_cons, List.length_append, List.length_map, List.length_map]
    omega
  | @cmp k n w a b _ _ _ ia ib =>
    have := two (n + 1); rw [Nat.pow_succ]
    show (_ :: (_ ++ _)).length ≤ _
    rw [List.length_cons, List.length_append, List.length_map, List.length_map]
    omega
  | @lg n w a b _ _ _ ia ib =>
    have := two (n + 1); rw [Nat.pow_succ]
    show (_ :: (_ ++ _)).length ≤ _
    rw [List.length_cons, List.length_append, List.length_map, List.length_map]
    omega
  | @nt n a _ ia =>
    have := two (n + 1); rw [Nat.pow_succ]
    show (_ :: _).length ≤ _
    rw [List.length_cons, List.length_map]
    omega
  | @nl k n a _ ia =>
    have := two (n + 1); rw [Nat.pow_succ]
    show (_ :: _).length ≤ _
    rw [List.length_cons, List.length_map]
    omega
  | @am k n a vs _ _ _ _ ia =>
    have := two (n + 1); rw [Nat.pow_succ]
    show (_ :: _).length ≤ _
    rw [List.length_cons, List.length_map]
    omega
/-- how high -/
def Ex.h : Ex → Nat
  | .val _ => 0
  | .cell _ _ => 0
  | .nt a => a.h + 1
  | .nl a => a.h + 1
  | .am a _ => a.h + 1
  | .bin _ a b => max a.h b.h + 1
theorem WT.hgt {k : Kd} {n : Nat} {e : Ex} (h : WT k n e) : e.h ≤ n := by
  induction h with
  | val _ => exact Nat.zero_le _
  | cell _ => exact Nat.zero_le _
  | ar _ _ _ ia ib => show max _ _ + 1 ≤ _; omega
  | cmp _ _ _ ia ib => show max _ _ + 1 ≤ _; omega
  | lg _ _ _ ia ib => show max _ _ + 1 ≤ _; omega
  | nt _ ia => show _ + 1 ≤ _; omega
  | nl _ ia => show _ + 1 ≤ _; omega
  | am _ _ _ _ ia => show _ + 1 ≤ _; omega
theorem sub_h {e : Ex} {p : Nat × Ex} (h : p ∈ e.subs) : p.2.h < e.h := by
  cases e with
  | val _ => cases h
  | cell _ _ => cases h
  | bin w a b =>
    simp only [Ex.subs, List.mem_cons, List.not_mem_nil, or_false] at h
    rcases h with rfl | rfl
    · show a.h < max a.h b.h + 1; omega
    · show b.h < max a.h b.h + 1; omega
  | nt a => rw [List.mem_singleton.mp h]; exact Nat.lt_succ_self _
  | nl a => rw [List.mem_singleton.mp h]; exact Nat.lt_succ_self _
  | am a vs => rw [List.mem_singleton.mp h]; exact Nat.lt_succ_self _
theorem flat_le {e : Ex} {l t : List (Nat × Ex)} (h : e.subs = l ++ t) : (l.flatMap fun p => p.2.pl.map (pre p.1)).length + 1 ≤ e.pl.length := by
  rw [pl_subs, h, List.flatMap_append, List.length_cons, List.length_append]
  omega
theorem ext_e {G : Type} {env : Pd.Env} {g g1 : G} {j : Nat} {me : ME G} {ds es : List D} (h : me env g = some (.list es, g1)) (hj : env.at j = .ow ds) (hl : ds.length + es.length ≤ sizeLine) : mExt j me env g = some (.nx, env.set j (.ow (ds ++ es)), g1) := by
  unfold mExt
  rw [h]
  dsimp only [bD]
  rw [hj]
  exact if_pos hl
abbrev PE6 (t f a b c d : SV) : Pd.Env := [t, f, a, b, c, d]
theorem places_loop {F : List D → Option D} {t : SV} : ∀ {l : List (Nat × Ex)} {acc : List D} {a b : SV}, (∀ p ∈ l, F [p.2.d] = some (.list (p.2.pl.map (pD [])))) → acc.length + (l.flatMap fun p => p.2.pl.map (pre p.1)).length ≤ 1000 →
    ∃ a' b', loopL (bTup 2 (bCons (bName 2) (bCons (bName 3) bNil))) (lb_places_of_1 F) (l.map subD) (PE6 t (.ow acc) a b .un .un) () = some (.nx, PE6 t (.ow (acc ++ (l.flatMap fun p => p.2.pl.map (pre p.1)).map (pD []))) a' b' .un .un, ())
  | [], acc, a, b, _, _ => ⟨a, b, by show _ = some (Ct.nx, PE6 t (.ow (acc ++ [])) a b .un .un, ()); rw [List.append_nil]; rfl⟩
  | p :: l, acc, a, b, hF, hl => by
    rw [List.flatMap_cons, List.length_append, List.length_map] at hl
    have z1000 : 2000 ≤ sizeLine := by decide
    have hc : compL (bTup 2 (bCons (bName 4) (bCons (bName 5) bNil))) mYes (mTup (mCons (mOp dAdd (mTup (mCons (mVar 2) mNil)) (mVar 4)) (mCons (mVar 5) mNil))) (Pd.Env.wipe (PE6 t (.ow acc) (.sh (.int (p.1 : Int))) (.sh p.2.d) .un .un) [4, 5]) (p.2.pl.map (pD [])) () = some (p.2.pl.map fun q => pD [] (pre p.1 q), ()) :=
      compL_mm (pD []) (fun q => pD [] (pre p.1 q)) fun q hq => ⟨_, rfl, tup_e (cons_e (op_e (tup_e (cons_e rfl nil_e)) rfl (by
        show (if 1 + (([] ++ q.1).map fun n : Nat => PyData.int (n : Int)).length ≤ sizeLine then some (PyData.tuple ([.int (p.1 : Int)] ++ ([] ++ q.1).map fun n : Nat => .int (n : Int))) else none) = some (pathD ([] ++ (pre p.1 q).1))
        rw [if_pos]
        · rfl
        · have hql : q.1.length ≤ p.2.pl.length := by
            have key : ∀ (e : Ex) (q : Plc), q ∈ e.pl → q.1.length ≤ e.pl.length := by
              intro e
              induction e with
              | val d => intro q hq; rw [List.mem_singleton.mp hq]; exact Nat.zero_le _
              | cell i j => intro q hq; rw [List.mem_singleton.mp hq]; exact Nat.zero_le _
              | nt a ih =>
                intro q hq
                rcases List.mem_cons.mp hq with rfl | hq
                · exact Nat.zero_le _
                · obtain ⟨r, hr, rfl⟩ := List.mem_map.mp hq
                  have := ih r hr
                  show r.1.length + 1 ≤ (_ :: _).length
                  rw [List.length_cons, List.length_map]; omega
              | nl a ih =>
                intro q hq
                rcases List.mem_cons.mp hq with rfl | hq
                · exact Nat.zero_le _
                · obtain ⟨r, hr, rfl⟩ := List.mem_map.mp hq
                  have := ih r hr
                  show r.1.length + 1 ≤ (_ :: _).length
                  rw [List.length_cons, List.length_map]; omega
              | am a vs ih =>
                intro q hq
                rcases List.mem_cons.mp hq with rfl | hq
                · exact Nat.zero_le _
                · obtain ⟨r, hr, rfl⟩ := List.mem_map.mp hq
                  have := ih r hr
                  show r.1.length + 1 ≤ (_ :: _).length
                  rw [List.length_cons, List.length_map]; omega
              | bin w a b ia ib =>
                intro q hq
                rcases List.mem_cons.mp hq with rfl | hq
                · exact Nat.zero_le _
                · rcases List.mem_append.mp hq with hq | hq
                  · obtain ⟨r, hr, rfl⟩ := List.mem_map.mp hq
                    have := ia r hr
                    show r.1.length + 1 ≤ (_ :: (_ ++ _)).length
                    rw [List.length_cons, List.length_append, List.length_map]; omega
                  · obtain ⟨r, hr, rfl⟩ := List.mem_map.mp hq
                    have := ib r hr
                    show r.1.length + 1 ≤ (_ :: (_ ++ _)).length
                    rw [List.length_cons, List.length_append, List.length_map, List.length_map]; omega
            exact key _ _ hq
          rw [List.length_map]
          show 1 + q.1.length ≤ _
          omega)) (cons_e rfl nil_e))⟩
    have e1 : p.2.pl.map (fun q => pD [] (pre p.1 q)) = (p.2.pl.map (pre p.1)).map (pD []) := by rw [List.map_map]; rfl
    obtain ⟨a', b', ih⟩ := places_loop (F := F) (t := t) (l := l) (acc := acc ++ (p.2.pl.map (pre p.1)).map (pD [])) (a := .sh (.int (p.1 : Int))) (b := .sh p.2.d) (fun q hq => hF q (List.mem_cons_of_mem _ hq)) (by rw [List.length_append, List.length_map, List.length_map]; omega)
    refine ⟨a', b', ?_⟩
    rw [List.flatMap_cons, List.map_append, ← List.append_assoc]
    rw [e1] at hc
    refine loop_nx (e1 := PE6 t (.ow acc) (.sh (.int (p.1 : Int))) (.sh p.2.d) .un .un) rfl (ext_e (L_e (comp_e (itL_e (call_e (xs := [p.2.d]) (cons_e rfl nil_e) (hF p (List.mem_cons_self ..)))) rfl hc)) rfl ?_) ih
    rw [List.length_map, List.length_map]
    omega
theorem places_e : ∀ (m : Nat) (e : Ex), e.h < m → e.pl.length ≤ 1000 → F_places_of m [e.d] = some (.list (e.pl.map (pD []))) := by
  intro m
  induction m with
  | zero => exact fun e h => absurd h (Nat.not_lt_zero _)
  | succ m ih =>
    intro e hh hl
    have hsub : ∀ p ∈ e.subs, F_places_of m [p.2.d] = some (.list (p.2.pl.map (pD []))) := fun p hp => ih p.2 (by have := sub_h hp; omega) (by
      obtain ⟨l, t, e2⟩ := List.append_of_mem hp
      have h1 := flat_le (e := e) (l := l ++ [p]) (t := t) (by rw [e2, List.append_assoc]; rfl)
      rw [List.flatMap_append, List.length_append, List.flatMap_cons, List.length_append, List.length_map] at h1
      omega)
    have h1 := flat_le (e := e) (l := e.subs) (t := []) (by rw [List.append_nil])
    obtain ⟨a', b', lp⟩ := places_loop (F := F_places_of m) (t := .sh e.d) (l := e.subs) (acc := [pD [] ([], e)]) (a := .un) (b := .un) hsub (by show 1 + _ ≤ _; omega)
    have := runP_Rl (N := 6) (n := 1) (m := m_places_of (F_places_of m)) (ds := [e.d]) (xs := e.pl.map (pD [])) (rl_nx (setF_e (lst_e (cons_e (tup_e (cons_e (tup_e nil_e) (cons_e rfl nil_e))) nil_e))) (rl_nx (for_e (itL_e (call_e (xs := [e.d]) (cons_e rfl nil_e) (parts_e e))) lp) (rl_retOw (by rw [pl_subs, List.map_cons]; rfl))))
    exact this
end K30

namespace K30
open PySem Pd
theorem z2000 : 2000 ≤ sizeLine := by decide
theorem path_add {q : List Nat} {i : Nat} (h : q.length ≤ 1000) : dAdd (pathD q) (.tuple [.int (i : Int)]) = some (pathD (q ++ [i])) := by
  show (if (q.map fun n : Nat => PyData.int (n : Int)).length + 1 ≤ sizeLine then some (PyData.tuple ((q.map fun n : Nat => PyData.int (n : Int)) ++ [.int (i : Int)])) else none) = _
  have := z2000
  rw [if_pos (by rw [List.length_map]; omega)]
  unfold pathD
  rw [List.map_append]
  rfl
theorem list_add {xs ys : List D} (h : xs.length + ys.length ≤ 1000) : dAdd (.list xs) (.list ys) = some (.list (xs ++ ys)) := by
  have := z2000
  exact if_pos (by omega)
abbrev QE (t q f a b : SV) : Pd.Env := [t, q, f, a, b]
theorem lplaces_loop {F : List D → Option D} {t : SV} {q : List Nat} (hq : q.length ≤ 1000) : ∀ {l : List (Nat × Ex)} {acc : List D} {a b : SV}, (∀ p ∈ l, F [p.2.d, pathD (q ++ [p.1])] = some (.list (p.2.pl.map (pD (q ++ [p.1]))))) → acc.length + (l.flatMap fun p => p.2.pl.map (pre p.1)).length ≤ 1000 →
    ∃ a' b', loopL (bTup 2 (bCons (bName 3) (bCons (bName 4) bNil))) (lb__law_places_1 F) (l.map subD) (QE t (.sh (pathD q)) (.sh (.list acc)) a b) () = some (.nx, QE t (.sh (pathD q)) (.sh (.list (acc ++ (l.flatMap fun p => p.2.pl.map (pre p.1)).map (pD q)))) a' b', ())
  | [], acc, a, b, _, _ => ⟨a, b, by show _ = some (Ct.nx, QE t (.sh (pathD q)) (.sh (.list (acc ++ []))) a b, ()); rw [List.append_nil]; rfl⟩
  | p :: l, acc, a, b, hF, hl => by
    rw [List.flatMap_cons, List.length_append, List.length_map] at hl
    have e1 : p.2.pl.map (pD (q ++ [p.1])) = (p.2.pl.map (pre p.1)).map (pD q) := by
      rw [List.map_map]
      exact List.map_congr_left fun x _ => pD_pre q p.1 x
    have hp := hF p (List.mem_cons_self ..)
    rw [e1] at hp
    obtain ⟨a', b', ih⟩ := lplaces_loop (F := F) (t := t) hq (l := l) (acc := acc ++ (p.2.pl.map (pre p.1)).map (pD q)) (a := .sh (.int (p.1 : Int))) (b := .sh p.2.d) (fun r hr => hF r (List.mem_cons_of_mem _ hr)) (by rw [List.length_append, List.length_map, List.length_map]; omega)
    refine ⟨a', b', ?_⟩
    rw [List.flatMap_cons, List.map_append, ← List.append_assoc]
    exact loop_nx (e1 := QE t (.sh (pathD q)) (.sh (.list acc)) (.sh (.int (p.1 : Int))) (.sh p.2.d)) rfl (set_e (op_e rfl (call_e (xs := [p.2.d, pathD (q ++ [p.1])]) (cons_e rfl (cons_e (op_e rfl (tup_e (cons_e rfl nil_e)) (path_add hq)) nil_e)) hp) (list_add (by rw [List.length_map, List.length_map]; omega)))) ih
theorem lplaces_e : ∀ (m : Nat) (e : Ex) (q : List Nat), e.h < m → e.pl.length ≤ 1000 → q.length + e.h ≤ 1000 → F__law_places m [e.d, pathD q] = some (.list (e.pl.map (pD q))) := by
  intro m
  induction m with
  | zero => exact fun e q h => absurd h (Nat.not_lt_zero _)
  | succ m ih =>
    intro e q hh hl hq
    have hsub : ∀ p ∈ e.subs, F__law_places m [p.2.d, pathD (q ++ [p.1])] = some (.list (p.2.pl.map (pD (q ++ [p.1])))) := fun p hp => ih p.2 _ (by have := sub_h hp; omega) (by
      obtain ⟨l, t, e2⟩ := List.append_of_mem hp
      have h1 := flat_le (e := e) (l := l ++ [p]) (t := t) (by rw [e2, List.append_assoc]; rfl)
      rw [List.flatMap_append, List.length_append, List.flatMap_cons, List.length_append, List.length_map] at h1
      omega) (by have := sub_h hp; rw [List.length_append]; show q.length + 1 + _ ≤ _; omega)
    have h1 := flat_le (e := e) (l := e.subs) (t := []) (by rw [List.append_nil])
    obtain ⟨a', b', lp⟩ := lplaces_loop (F := F__law_places m) (t := .sh e.d) (q := q) (by omega) (l := e.subs) (acc := [.tuple [pathD q, e.d]]) (a := .un) (b := .un) hsub (by show 1 + _ ≤ _; omega)
    have := runP_Re (N := 5) (n := 2) (m := m__law_places (F__law_places m)) (ds := [e.d, pathD q]) (d := .list (e.pl.map (pD q))) (re_nx (set_e (L_e (lst_e (cons_e (tup_e (cons_e rfl (cons_e rfl nil_e))) nil_e)))) (re_nx (for_e (itL_e (call_e (xs := [e.d]) (cons_e rfl nil_e) (within_e e))) lp) (re_ret (var_e (by rw [pl_subs, List.map_cons]; show SV.sh (PyData.list ([PyData.tuple [pathD q, e.d]] ++ _)) = SV.sh (PyData.list (PyData.tuple [pathD (q ++ []), e.d] :: _)); rw [List.append_nil]; rfl)))))
    exact this
/-! #### conjuncts -/
def Ex.cj : Ex → List Ex
  | .bin .and a b => a.cj ++ b.cj
  | e => [e]
theorem word0 (e : Ex) {t : Str} {b : Bool} {G : Type} {env : Pd.Env} {g : G} (he : env.at 0 = .sh e.d) (h : ∃ s, dIx e.d (.int 0) = some (.str s) ∧ dEq (.str s) (.str t) = some (.bool b)) : mOpT dEq (mOp dIx (mVar 0) (mC (.int 0))) (mC (.str t)) env g = some (b, g) := by
  obtain ⟨s, h1, h2⟩ := h
  exact opT_e (op_e (var_e he) rfl h1) rfl h2
theorem cj_len (e : Ex) : e.cj.length ≤ e.pl.length := by
  have one : ∀ e : Ex, 1 ≤ e.pl.length := fun e => by rw [pl_subs]; exact Nat.succ_le_succ (Nat.zero_le _)
  induction e with
  | bin w a b ia ib =>
    cases w with
    | and =>
      show (a.cj ++ b.cj).length ≤ (_ :: (_ ++ _)).length
      rw [List.length_append, List.length_cons, List.length_append, List.length_map, List.length_map]
      omega
    | _ => exact one _
  | _ => exact one _
theorem notAnd (e : Ex) (h : ∀ a b, e ≠ .bin .and a b) : ∃ s, dIx e.d (.int 0) = some (.str s) ∧ dEq (.str s) (.str "and") = some (.bool false) := by
  cases e with
  | bin w a b =>
    cases w with
    | and => exact absurd rfl (h a b)
    | _ => exact ⟨_, rfl, rfl⟩
  | _ => exact ⟨_, rfl, rfl⟩
theorem notAnd_cj (e : Ex) (h : ∀ a b, e ≠ .bin .and a b) : e.cj = [e] := by
  cases e with
  | bin w a b =>
    cases w with
    | and => exact absurd rfl (h a b)
    | _ => rfl
  | _ => rfl
theorem d_some (e : Ex) : isNone e.d = false := by cases e <;> rfl
theorem conj_e : ∀ (m : Nat) (e : Ex), e.h < m → e.pl.length ≤ 1000 → F_conjuncts m [e.d] = some (.list (e.cj.map Ex.d)) ∧ F__law_parts m [e.d] = some (.list (e.cj.map Ex.d)) := by
  intro m
  induction m with
  | zero => exact fun e h => absurd h (Nat.not_lt_zero _)
  | succ m ih =>
    intro e hh hl
    have s0 : mIfS (mOpT dIs (mVar 0) (mC .none)) (mRetF (mLst mNil)) mSkip (startE 1 ([e.d].map .sh)) () = some (.nx, startE 1 ([e.d].map .sh), ()) := if_no ((is_e rfl).trans (by rw [d_some]))
    by_cases ha : ∃ a b, e = .bin .and a b
    · obtain ⟨a, b, rfl⟩ := ha
      have hh : max a.h b.h + 1 < m + 1 := hh
      have hl' : (_ :: (_ ++ _)).length ≤ 1000 := hl
      rw [List.length_cons, List.length_append, List.length_map, List.length_map] at hl'
      obtain ⟨a1, a2⟩ := ih a (by omega) (by omega)
      obtain ⟨b1, b2⟩ := ih b (by omega) (by omega)
      have la := cj_len a
      have lb := cj_len b
      have hadd : dAdd (.list (a.cj.map Ex.d)) (.list (b.cj.map Ex.d)) = some (.list ((Ex.bin .and a b).cj.map Ex.d)) := by
        rw [list_add (by rw [List.length_map, List.length_map]; omega), ← List.map_append]
        rfl
      have t : ∃ s, dIx (Ex.bin .and a b).d (.int 0) = some (.str s) ∧ dEq (.str s) (.str "and") = some (.bool true) := ⟨_, rfl, rfl⟩
      exact ⟨runP_Re (N := 1) (n := 1) (m := m_conjuncts (F_conjuncts m)) (ds := [_]) (re_nx s0 (re_in (re_ift (word0 _ rfl t) (re_ret (op_e (call_e (xs := [a.d]) (cons_e (op_e rfl rfl rfl) nil_e) a1) (call_e (xs := [b.d]) (cons_e (op_e rfl rfl rfl) nil_e) b1) hadd))))),
        runP_Re (N := 1) (n := 1) (m := m__law_parts (F__law_parts m)) (ds := [_]) (re_in (re_ift (word0 _ rfl t) (re_ret (op_e (call_e (xs := [a.d]) (cons_e (op_e rfl rfl rfl) nil_e) a2) (call_e (xs := [b.d]) (cons_e (op_e rfl rfl rfl) nil_e) b2) hadd))))⟩
    · have ha : ∀ a b, e ≠ .bin .and a b := fun a b z => ha ⟨a, b, z⟩
      have t := notAnd e ha
      rw [notAnd_cj e ha]
      exact ⟨runP_Rl (N := 1) (n := 1) (m := m_conjuncts (F_conjuncts m)) (ds := [_]) (xs := [e.d]) (rl_nx s0 (rl_nx (if_no (word0 _ rfl t)) (rl_ret (lst_e (cons_e rfl nil_e))))),
        runP_Rl (N := 1) (n := 1) (m := m__law_parts (F__law_parts m)) (ds := [_]) (xs := [e.d]) (rl_nx (if_no (word0 _ rfl t)) (rl_ret (lst_e (cons_e rfl nil_e))))⟩
theorem cj_wt {k : Kd} {n : Nat} {e : Ex} (h : WT k n e) : ∀ c ∈ e.cj, ∃ k' n', n' ≤ n ∧ WT k' n' c := by
  induction h with
  | @lg n w a b hw ha hb ia ib =>
    intro c hc
    cases w with
    | and =>
      rcases List.mem_append.mp (show c ∈ a.cj ++ b.cj from hc) with h | h
      · obtain ⟨k', n', h1, h2⟩ := ia c h; exact ⟨k', n', by omega, h2⟩
      · obtain ⟨k', n', h1, h2⟩ := ib c h; exact ⟨k', n', by omega, h2⟩
    | or => rw [List.mem_singleton.mp (show c ∈ [_] from hc)]; exact ⟨_, _, Nat.le_refl _, .lg rfl ha hb⟩
    | _ => cases hw
  | val h => intro c hc; rw [List.mem_singleton.mp (show c ∈ [_] from hc)]; exact ⟨_, _, Nat.le_refl _, .val h⟩
  | cell h => intro c hc; rw [List.mem_singleton.mp (show c ∈ [_] from hc)]; exact ⟨_, _, Nat.le_refl _, .cell h⟩
  | @ar n w a b hw ha hb ia ib =>
    intro c hc
    cases w with
    | and => cases hw
    | _ => rw [List.mem_singleton.mp (show c ∈ [_] from hc)]; exact ⟨_, _, Nat.le_refl _, .ar hw ha hb⟩
  | @cmp k n w a b hw ha hb ia ib =>
    intro c hc
    cases w with
    | and => cases hw
    | _ => rw [List.mem_singleton.mp (show c ∈ [_] from hc)]; exact ⟨_, _, Nat.le_refl _, .cmp hw ha hb⟩
  | nt ha ia => intro c hc; rw [List.mem_singleton.mp (show c ∈ [_] from hc)]; exact ⟨_, _, Nat.le_refl _, .nt ha⟩
  | nl ha ia => intro c hc; rw [List.mem_singleton.mp (show c ∈ [_] from hc)]; exact ⟨_, _, Nat.le_refl _, .nl ha⟩
  | am ha h1 h2 h3 ia => intro c hc; rw [List.mem_singleton.mp (show c ∈ [_] from hc)]; exact ⟨_, _, Nat.le_refl _, .am ha h1 h2 h3⟩
theorem both_true {x y : D} (hx : B3 x) (hy : B3 y) : isBd true (bothD x y) = (isBd true x && isBd true y) := by
  rcases hx with rfl | ⟨b, rfl⟩ <;> rcases hy with rfl | ⟨c, rfl⟩
  · rfl
  · cases c <;> rfl
  · cases b <;> rfl
  · cases b <;> cases c <;> rfl
theorem cj_true {rD : D} {R : Nat → Nat → D} (ok : RowsOk rD R) {k : Kd} {n : Nat} {e : Ex} (h : WT k n e) : n ≤ 4 → isBd true (e.v R) = e.cj.all fun c => isBd true (c.v R) := by
  have one : ∀ e : Ex, (∀ a b, e ≠ .bin .and a b) → isBd true (e.v R) = e.cj.all fun c => isBd true (c.v R) := fun e h => by
    rw [notAnd_cj e h, List.all_cons, List.all_nil, Bool.and_true]
  induction h with
  | @lg n w a b hw ha hb ia ib =>
    intro hn
    cases w with
    | and =>
      show isBd true (bothD (a.v R) (b.v R)) = (a.cj ++ b.cj).all _
      rw [both_true (val_vb ok ha (by omega)) (val_vb ok hb (by omega)), List.all_append, ia (by omega), ib (by omega)]
    | or => exact one _ fun _ _ z => by cases z
    | _ => cases hw
  | @ar n w a b hw ha hb ia ib =>
    intro _
    exact one _ fun _ _ z => by cases z; cases hw
  | @cmp k n w a b hw ha hb ia ib =>
    intro _
    exact one _ fun _ _ z => by cases z; cases hw
  | val _ => exact fun _ => one _ fun _ _ z => by cases z
  | cell _ => exact fun _ => one _ fun _ _ z => by cases z
  | nt _ _ => exact fun _ => one _ fun _ _ z => by cases z
  | nl _ _ => exact fun _ => one _ fun _ _ z => by cases z
  | am _ _ _ _ _ => exact fun _ => one _ fun _ _ z => by cases z
end K30

namespace K30
open PySem Pd
/-! #### another part at a place -/
def Ex.put (x : Ex) : Ex → List Nat → Ex
  | .nt a => fun p => match p with
    | [] => x
    | _ :: p => .nt (Ex.put x a p)
  | .nl a => fun p => match p with
    | [] => x
    | _ :: p => .nl (Ex.put x a p)
  | .am a vs => fun p => match p with
    | [] => x
    | _ :: p => .am (Ex.put x a p) vs
  | .bin w a b => fun p => match p with
    | [] => x
    | i :: p => if i = 1 then .bin w (Ex.put x a p) b else .bin w a (Ex.put x b p)
  | .val d => fun p => match p with
    | [] => x
    | _ => .val d
  | .cell i j => fun p => match p with
    | [] => x
    | _ => .cell i j
theorem put_nil (x e : Ex) : Ex.put x e [] = x := by cases e <;> rfl
theorem pl_cases {e : Ex} {p : Plc} (h : p ∈ e.pl) : p = ([], e) ∨ ∃ q ∈ e.subs, ∃ r ∈ q.2.pl, p = pre q.1 r := by
  rw [pl_subs] at h
  rcases List.mem_cons.mp h with h | h
  · exact .inl h
  · obtain ⟨q, hq, h⟩ := List.mem_flatMap.mp h
    obtain ⟨r, hr, rfl⟩ := List.mem_map.mp h
    exact .inr ⟨q, hq, r, hr, rfl⟩
theorem node (e : Ex) {q : Nat × Ex} (h : q ∈ e.subs) : ∃ ds : List D, e.d = .tuple ds ∧ ds.length ≤ 3 ∧ 1 ≤ q.1 ∧ q.1 < ds.length ∧ ds[q.1]? = some q.2.d ∧ ∀ x p, (Ex.put x e (q.1 :: p)).d = .tuple (ds.set q.1 (Ex.put x q.2 p).d) := by
  cases e with
  | val _ => cases h
  | cell _ _ => cases h
  | nt a => rw [List.mem_singleton.mp h]; exact ⟨_, rfl, by show 2 ≤ 3; decide, Nat.le_refl _, by show 1 < 2; decide, rfl, fun x p => rfl⟩
  | nl a => rw [List.mem_singleton.mp h]; exact ⟨_, rfl, by show 2 ≤ 3; decide, Nat.le_refl _, by show 1 < 2; decide, rfl, fun x p => rfl⟩
  | am a vs => rw [List.mem_singleton.mp h]; exact ⟨_, rfl, by show 3 ≤ 3; decide, Nat.le_refl _, by show 1 < 3; decide, rfl, fun x p => rfl⟩
  | bin w a b =>
    simp only [Ex.subs, List.mem_cons, List.not_mem_nil, or_false] at h
    rcases h with rfl | rfl
    · exact ⟨_, rfl, by show 3 ≤ 3; decide, Nat.le_refl _, by show 1 < 3; decide, rfl, fun x p => rfl⟩
    · exact ⟨_, rfl, by show 3 ≤ 3; decide, by show 1 ≤ 2; decide, by show 2 < 3; decide, rfl, fun x p => rfl⟩
theorem put_self : ∀ (e : Ex) (p : Plc), p ∈ e.pl → Ex.put p.2 e p.1 = e := by
  intro e
  induction e with
  | val d => intro p h; rcases pl_cases h with rfl | ⟨q, hq, _⟩; exact put_nil _ _; cases hq
  | cell i j => intro p h; rcases pl_cases h with rfl | ⟨q, hq, _⟩; exact put_nil _ _; cases hq
  | nt a ih =>
    intro p h
    rcases pl_cases h with rfl | ⟨q, hq, r, hr, rfl⟩
    · exact put_nil _ _
    · rw [List.mem_singleton.mp hq] at hr ⊢
      show Ex.nt (Ex.put r.2 a r.1) = _
      rw [ih r hr]
  | nl a ih =>
    intro p h
    rcases pl_cases h with rfl | ⟨q, hq, r, hr, rfl⟩
    · exact put_nil _ _
    · rw [List.mem_singleton.mp hq] at hr ⊢
      show Ex.nl (Ex.put r.2 a r.1) = _
      rw [ih r hr]
  | am a vs ih =>
    intro p h
    rcases pl_cases h with rfl | ⟨q, hq, r, hr, rfl⟩
    · exact put_nil _ _
    · rw [List.mem_singleton.mp hq] at hr ⊢
      show Ex.am (Ex.put r.2 a r.1) vs = _
      rw [ih r hr]
  | bin w a b ia ib =>
    intro p h
    rcases pl_cases h with rfl | ⟨q, hq, r, hr, rfl⟩
    · exact put_nil _ _
    · simp only [Ex.subs, List.mem_cons, List.not_mem_nil, or_false] at hq
      rcases hq with rfl | rfl
      · show Ex.bin w (Ex.put r.2 a r.1) b = _
        rw [ia r hr]
      · show Ex.bin w a (Ex.put r.2 b r.1) = _
        rw [ib r hr]
theorem path_depth (p : List Nat) : (pathD p).depth ≤ 64 := Nat.le_trans (depth_tup (n := 1) fun x hx => by
  obtain ⟨k, _, rfl⟩ := List.mem_map.mp hx
  exact Nat.le_of_ble_eq_true rfl) (by decide)
theorem path_nil : dEq (pathD []) (.tuple []) = some (.bool true) := rfl
theorem path_cons (i : Nat) (p : List Nat) : dEq (pathD (i :: p)) (.tuple []) = some (.bool false) := by
  rw [eq_flat (path_depth _) (Nat.le_of_ble_eq_true rfl)]
  rfl
theorem part_to {ds : List D} {i : Nat} (h : i < ds.length) : partT ds none (some (i : Int)) = true := by
  unfold partT
  rw [HT.sIx_nat, Nat.min_eq_left (Nat.le_of_lt h), decide_eq_false (p := i = ds.length) (by omega), Bool.and_false]
  rfl
theorem part_from {ds : List D} {i : Nat} (h : i < ds.length) : partT ds (some ((i + 1 : Nat) : Int)) none = true := by
  unfold partT
  rw [HT.sIx_nat, decide_eq_false (p := min (i + 1) ds.length = 0) (by omega), Bool.false_and]
  rfl
theorem tup_add {xs ys : List D} (h : xs.length + ys.length ≤ 1000) : dAdd (.tuple xs) (.tuple ys) = some (.tuple (xs ++ ys)) := by
  have := z2000
  exact if_pos (by omega)
theorem tail_path (i : Nat) (p : List Nat) : cut ((i :: p).map fun n : Nat => PyData.int (n : Int)) (some 1) none = p.map fun n : Nat => PyData.int (n : Int) := cut_from _ 1
theorem set_cut {ds : List D} {i : Nat} {r : D} (h : i < ds.length) : ds.take i ++ [r] ++ ds.drop (i + 1) = ds.set i r := by
  rw [List.set_eq_take_append_cons_drop, if_pos h, List.append_assoc]
  rfl
theorem ixT_nat {ds : List D} {j : Nat} {x : D} (h : ds[j]? = some x) : dIx (.tuple ds) (.int j) = some x := L2.atI_nat h
theorem put_e (x : Ex) : ∀ (m : Nat) (e : Ex) (p : Plc), e.h < m → p ∈ e.pl → F_put_at m [e.d, pathD p.1, x.d] = some (Ex.put x e p.1).d ∧ F__law_put m [e.d, pathD p.1, x.d] = some (Ex.put x e p.1).d := by
  intro m
  induction m with
  | zero => exact fun e p h => absurd h (Nat.not_lt_zero _)
  | succ m ih =>
    intro e p hh hp
    rcases pl_cases hp with rfl | ⟨q, hq, r, hr, rfl⟩
    · rw [put_nil]
      exact ⟨runP_Re (N := 4) (n := 3) (m := m_put_at (F_put_at m)) (ds := [e.d, pathD [], x.d]) (re_in (re_ift (opT_e rfl (tup_e nil_e) path_nil) (re_ret rfl))),
        runP_Re (N := 4) (n := 3) (m := m__law_put (F__law_put m)) (ds := [e.d, pathD [], x.d]) (re_in (re_ift (opT_e rfl (tup_e nil_e) path_nil) (re_ret rfl)))⟩
    · obtain ⟨ds, ed, h3, h1, hi, hc, hput⟩ := node e hq
      obtain ⟨i1, i2⟩ := ih q.2 r (by have := sub_h hq; omega) hr
      have ep : (pre q.1 r).1 = q.1 :: r.1 := rfl
      rw [ep, hput, ed]
      have pt : partT ((q.1 :: r.1).map fun n : Nat => PyData.int (n : Int)) (some 1) none = true := part_from (i := 0) (by rw [List.length_map]; exact Nat.succ_pos _)
      have sl : ∀ {env : Pd.Env}, env.at 1 = .sh (pathD (q.1 :: r.1)) → mSlT (mVar 1) (mPart (mC (.int 1))) mNo env () = some (pathD r.1, ()) := fun h => (slT_e (var_e h) (part_e rfl) rfl pt).trans (by rw [tail_path]; rfl)
      constructor
      · refine runP_Re (N := 4) (n := 3) (m := m_put_at (F_put_at m)) (ds := [.tuple ds, pathD (q.1 :: r.1), x.d]) (re_nx (if_no (opT_e rfl (tup_e nil_e) (path_cons _ _))) (re_nx (set_e (op_e rfl rfl (ixT_nat (j := 0) rfl))) (re_ret (g1 := ()) ?_)))
        have e1 : mSlT (mVar 0) mNo (mPart (mVar 3)) [.sh (.tuple ds), .sh (pathD (q.1 :: r.1)), .sh x.d, .sh (.int (q.1 : Int))] () = some (.tuple (ds.take q.1), ()) := (slT_e rfl rfl (part_e rfl) (part_to hi)).trans (by rw [cut_to])
        have e2 : mSlT (mVar 0) (mPart (mOp dAdd (mVar 3) (mC (.int 1)))) mNo [.sh (.tuple ds), .sh (pathD (q.1 :: r.1)), .sh x.d, .sh (.int (q.1 : Int))] () = some (.tuple (ds.drop (q.1 + 1)), ()) := (slT_e (l := some ((q.1 + 1 : Nat) : Int)) rfl (part_e (op_e rfl rfl (congrArg (fun z => some (PyData.int z)) (by omega)))) rfl (part_from hi)).trans (by rw [cut_from])
        have hl1 : (ds.take q.1).length ≤ 3 := by rw [List.length_take]; omega
        have hl2 : (ds.drop (q.1 + 1)).length ≤ 3 := by rw [List.length_drop]; omega
        refine (op_e (op_e e1 (tup_e (cons_e (call_e (xs := [q.2.d, pathD r.1, x.d]) (cons_e (op_e rfl rfl (ixT_nat hc)) (cons_e (sl rfl) (cons_e rfl nil_e))) i1) nil_e)) (tup_add ?_)) e2 (tup_add ?_)).trans ?_
        · show _ + 1 ≤ _; omega
        · rw [List.length_append]; show _ + 1 + _ ≤ _; omega
        · rw [set_cut hi]
      · refine runP_Re (N := 4) (n := 3) (m := m__law_put (F__law_put m)) (ds := [.tuple ds, pathD (q.1 :: r.1), x.d]) (re_nx (if_no (opT_e rfl (tup_e nil_e) (path_cons _ _))) (re_nx (setF_e (callF_e (cons_e rfl nil_e) rfl)) (re_nx (setIx_e (i := (q.1 : Int)) (k := q.1) (ds := ds) (d := (Ex.put x q.2 r.1).d) (call_e (xs := [q.2.d, pathD r.1, x.d]) (cons_e (op_e rfl (op_e rfl rfl (ixT_nat (j := 0) rfl)) (ixT_nat hc)) (cons_e (sl rfl) (cons_e rfl nil_e))) i2) (op_e rfl rfl (ixT_nat (j := 0) rfl)) rfl (ixN_nat hi)) ?_)))
        exact ⟨_, _, frz_e (ret_e (call_e (cons_e rfl nil_e) rfl))⟩
end K30

namespace K30
open PySem Pd
/-! #### small data -/
structure Sm (w dp : Nat) (d : D) : Prop where
  lay : PyData.canLay0 d = true
  dep : d.depth ≤ dp
  wt : PyData.weight d ≤ w
  sh : PyData.showable d = true
  it : PyData.intsShort 13 d = true
  nd : noDict d = true
theorem Sm.mono {w w' dp dp' : Nat} {d : D} (h : Sm w dp d) (hw : w ≤ w') (hd : dp ≤ dp') : Sm w' dp' d := ⟨h.lay, Nat.le_trans h.dep hd, Nat.le_trans h.wt hw, h.sh, h.it, h.nd⟩
theorem sm_all {w dp : Nat} : ∀ {xs : List D}, (∀ x ∈ xs, Sm w dp x) → PyData.canLayAll0 xs = true ∧ PyData.weightAll xs ≤ xs.length * (w + 1) ∧ PyData.showableAll xs = true ∧ PyData.intsShortAll 13 xs = true ∧ noDictA xs = true
  | [], _ => ⟨by simp only [PyData.canLayAll0], by simp only [PyData.weightAll]; exact Nat.zero_le _, by simp only [PyData.showableAll], by simp only [PyData.intsShortAll], rfl⟩
  | x :: xs, h => by
    obtain ⟨a1, a2, a3, a4, a5⟩ := sm_all (xs := xs) fun y hy => h y (List.mem_cons_of_mem _ hy)
    have hx := h x (List.mem_cons_self ..)
    refine ⟨by simp only [PyData.canLayAll0, hx.lay, a1, Bool.and_self], ?_, by simp only [PyData.showableAll, hx.sh, a3, Bool.and_self], by simp only [PyData.intsShortAll, hx.it, a4, Bool.and_self], ?_⟩
    · simp only [PyData.weightAll, List.length_cons]
      have := hx.wt
      rw [Nat.add_mul, Nat.one_mul]
      omega
    · show (noDict x && noDictA xs) = true
      rw [hx.nd, a5]; rfl
theorem sm_tup {w dp : Nat} {xs : List D} (h : ∀ x ∈ xs, Sm w dp x) : Sm (xs.length * (w + 1)) (dp + 1) (.tuple xs) := by
  obtain ⟨a1, a2, a3, a4, a5⟩ := sm_all h
  exact ⟨by simpa only [PyData.canLay0] using a1, depth_tup fun x hx => (h x hx).dep, by simpa only [PyData.weight] using a2, by simpa only [PyData.showable] using a3, by simpa only [PyData.intsShort] using a4, by simpa only [noDict] using a5⟩
theorem sm_list {w dp : Nat} {xs : List D} (h : ∀ x ∈ xs, Sm w dp x) : Sm (xs.length * (w + 1)) (dp + 1) (.list xs) := by
  obtain ⟨a1, a2, a3, a4, a5⟩ := sm_all h
  exact ⟨by simpa only [PyData.canLay0] using a1, depth_list fun x hx => (h x hx).dep, by simpa only [PyData.weight] using a2, by simpa only [PyData.showable] using a3, by simpa only [PyData.intsShort] using a4, by simpa only [noDict] using a5⟩
theorem sm_none : Sm 30 1 .none := ⟨by simp only [PyData.canLay0], Nat.le_of_ble_eq_true rfl, by simp only [PyData.weight]; decide, by simp only [PyData.showable], by simp only [PyData.intsShort], rfl⟩
theorem sm_bool (b : Bool) : Sm 30 1 (.bool b) := ⟨by simp only [PyData.canLay0], Nat.le_of_ble_eq_true rfl, by simp only [PyData.weight]; decide, by simp only [PyData.showable], by simp only [PyData.intsShort], rfl⟩
theorem log_lt {n k : Nat} (h : n < 2 ^ k) (hk : 0 < k) : n.log2 < k := by
  by_cases z : n = 0
  · subst z
    exact hk
  · exact (Nat.log2_lt z).mpr h
theorem sm_int {i : Int} (h1 : -43046721 ≤ i) (h2 : i ≤ 43046721) : Sm 30 1 (.int i) := by
  have hn : i.natAbs < 2 ^ 29 := by
    have : (2 : Nat) ^ 29 = 536870912 := by decide
    omega
  have hl := log_lt hn (by decide)
  refine ⟨by simp only [PyData.canLay0], Nat.le_of_ble_eq_true rfl, ?_, ?_, ?_, rfl⟩
  · simp only [PyData.weight]
    split
    · exact Nat.zero_le _
    · omega
  · simp only [PyData.showable, decide_eq_true_eq]
    omega
  · simp only [PyData.intsShort, decide_eq_true_eq]
    exact PyData.shown_int_le (by have : (10 : Nat) ^ 12 = 1000000000000 := by decide
                                  omega)
theorem sm_str {s : Str} (h1 : PyData.canLay0 (.str s) = true) (h2 : s.cps.size ≤ 30) : Sm 30 1 (.str s) := ⟨h1, Nat.le_of_ble_eq_true rfl, by simpa only [PyData.weight] using h2, by simp only [PyData.showable], by simp only [PyData.intsShort], rfl⟩
theorem VB.sm {n : Nat} {k : Kd} {d : D} (hn : n ≤ 4) (h : VB (bnd n) k d) : Sm 30 1 d := by
  have := bnd_le hn
  cases k with
  | int =>
    rcases h with rfl | ⟨i, rfl, h1, h2⟩
    · exact sm_none
    · exact sm_int (by omega) (by omega)
  | bool =>
    rcases h with rfl | ⟨b, rfl⟩
    · exact sm_none
    · exact sm_bool b
  | text =>
    rcases h with rfl | ⟨s, hs, rfl⟩
    · exact sm_none
    · simp only [List.mem_cons, List.not_mem_nil, or_false] at hs
      rcases hs with rfl | rfl | rfl | rfl | rfl <;> exact sm_str (by decide +kernel) (by decide +kernel)
theorem sm_w2 (w : W2) : Sm 30 1 (.str w.s) := by cases w <;> exact sm_str (by decide +kernel) (by decide +kernel)
def Wt : Nat → Nat
  | 0 => 93
  | n + 1 => 3 * (Wt n + 1)
theorem Wt_ge : ∀ n, 93 ≤ Wt n
  | 0 => Nat.le_refl _
  | n + 1 => by have := Wt_ge n; show 93 ≤ 3 * (Wt n + 1); omega
theorem Wt_le {n : Nat} (h : n ≤ 4) : Wt n ≤ 8000 := by
  have : n = 0 ∨ n = 1 ∨ n = 2 ∨ n = 3 ∨ n = 4 := by omega
  rcases this with rfl | rfl | rfl | rfl | rfl <;> decide
theorem sm2 {w dp : Nat} {a b : D} (ha : Sm w dp a) (hb : Sm w dp b) : Sm (2 * (w + 1)) (dp + 1) (.tuple [a, b]) := sm_tup (xs := [a, b]) fun x hx => by
  simp only [List.mem_cons, List.not_mem_nil, or_false] at hx
  rcases hx with rfl | rfl <;> assumption
theorem sm3 {w dp : Nat} {a b c : D} (ha : Sm w dp a) (hb : Sm w dp b) (hc : Sm w dp c) : Sm (3 * (w + 1)) (dp + 1) (.tuple [a, b, c]) := sm_tup (xs := [a, b, c]) fun x hx => by
  simp only [List.mem_cons, List.not_mem_nil, or_false] at hx
  rcases hx with rfl | rfl | rfl <;> assumption
theorem cell_small {i j : Nat} {k : Kd} (h : (i, j, k) ∈ cellsL) : i ≤ 1 ∧ j ≤ 2 := by
  simp only [cellsL, List.mem_cons, Prod.mk.injEq, List.not_mem_nil, or_false] at h
  omega
theorem WT.sm {k : Kd} {n : Nat} {e : Ex} (h : WT k n e) : Sm (Wt n) (n + 2) e.d := by
  induction h with
  | @val k n d h =>
    have := Wt_ge n
    exact (sm2 (sm_str (s := "value") (by decide +kernel) (by decide +kernel)) ((VB.of h 0).sm (by decide))).mono (by omega) (by omega)
  | @cell k n i j h =>
    have := Wt_ge n
    have := cell_small h
    exact (sm3 (sm_str (s := "cell") (by decide +kernel) (by decide +kernel)) (sm_int (by omega) (by omega)) (sm_int (by omega) (by omega))).mono (by omega) (by omega)
  | @ar n w a b _ _ _ ia ib =>
    have := Wt_ge n
    exact sm3 ((sm_w2 w).mono (by omega) (by omega)) ia ib
  | @cmp k n w a b _ _ _ ia ib =>
    have := Wt_ge n
    exact sm3 ((sm_w2 w).mono (by omega) (by omega)) ia ib
  | @lg n w a b _ _ _ ia ib =>
    have := Wt_ge n
    exact sm3 ((sm_w2 w).mono (by omega) (by omega)) ia ib
  | @nt n a _ ia =>
    have := Wt_ge n
    exact (sm2 ((sm_str (s := "not") (by decide +kernel) (by decide +kernel)).mono (by omega) (by omega)) ia).mono (by show 2 * (Wt n + 1) ≤ 3 * (Wt n + 1); omega) (Nat.le_refl _)
  | @nl k n a _ ia =>
    have := Wt_ge n
    exact (sm2 ((sm_str (s := "null") (by decide +kernel) (by decide +kernel)).mono (by omega) (by omega)) ia).mono (by show 2 * (Wt n + 1) ≤ 3 * (Wt n + 1); omega) (Nat.le_refl _)
  | @am k n a vs _ hv h1 h3 ia =>
    have := Wt_ge n
    have hl : Sm (vs.length * 31) 2 (.list vs) := sm_list fun v h => (VB.of (hv v h) 0).sm (by decide)
    exact sm3 ((sm_str (s := "among") (by decide +kernel) (by decide +kernel)).mono (by omega) (by omega)) ia (hl.mono (by omega) (by omega))
theorem Sm.ok {w dp : Nat} {d : D} (h : Sm w dp d) (hw : w ≤ 2 ^ 20) (hd : dp ≤ 64) : showOk d = true := by
  unfold showOk PyData.layable0
  rw [h.lay, decide_eq_true (Nat.le_trans h.dep hd), decide_eq_true (Nat.le_trans h.wt hw), h.sh, h.it]
  rfl
theorem Sm.eq {w dp : Nat} {d : D} (h : Sm w dp d) (hd : dp ≤ 64) : dEq d d = some (.bool true) := eq_self h.nd (Nat.le_trans h.dep hd)
theorem Sm.ne {w dp : Nat} {d : D} (h : Sm w dp d) (hd : dp ≤ 64) : dNe d d = some (.bool false) := ne_self h.nd (Nat.le_trans h.dep hd)
theorem repr_e {w dp : Nat} {d : D} (h : Sm w dp d) (hw : w ≤ 2 ^ 20) (hd : dp ≤ 64) : dRepr [d] = some (.str d.shown) := if_pos (h.ok hw hd)
theorem str_eq (s : Str) : dEq (.str s) (.str s) = some (.bool true) := eq_self rfl (Nat.le_of_ble_eq_true rfl)
theorem str_ne (s : Str) : dNe (.str s) (.str s) = some (.bool false) := ne_self rfl (Nat.le_of_ble_eq_true rfl)
/-- the places, as data -/
theorem path_sm (q : List Nat) (h : ∀ i ∈ q, i ≤ 2) : Sm (q.length * 31) 2 (pathD q) := by
  have := sm_tup (w := 30) (dp := 1) (xs := q.map fun n : Nat => PyData.int (n : Int)) fun x hx => by
    obtain ⟨i, hi, rfl⟩ := List.mem_map.mp hx
    have := h i hi
    exact sm_int (by omega) (by omega)
  rw [List.length_map] at this
  exact this
theorem pl_path : ∀ (e : Ex) (p : Plc), p ∈ e.pl → ∀ i ∈ p.1, i ≤ 2 := by
  intro e
  induction e with
  | val d => intro p h; rw [List.mem_singleton.mp h]; exact fun i h => nomatch h
  | cell _ _ => intro p h; rw [List.mem_singleton.mp h]; exact fun i h => nomatch h
  | nt a ih =>
    intro p h
    rcases List.mem_cons.mp h with rfl | h
    · exact fun i h => nomatch h
    · obtain ⟨r, hr, rfl⟩ := List.mem_map.mp h
      intro i hi
      rcases List.mem_cons.mp hi with rfl | hi
      · decide
      · exact ih r hr i hi
  | nl a ih =>
    intro p h
    rcases List.mem_cons.mp h with rfl | h
    · exact fun i h => nomatch h
    · obtain ⟨r, hr, rfl⟩ := List.mem_map.mp h
      intro i hi
      rcases List.mem_cons.mp hi with rfl | hi
      · decide
      · exact ih r hr i hi
  | am a vs ih =>
    intro p h
    rcases List.mem_cons.mp h with rfl | h
    · exact fun i h => nomatch h
    · obtain ⟨r, hr, rfl⟩ := List.mem_map.mp h
      intro i hi
      rcases List.mem_cons.mp hi with rfl | hi
      · decide
      · exact ih r hr i hi
  | bin w a b ia ib =>
    intro p h
    rcases List.mem_cons.mp h with rfl | h
    · exact fun i h => nomatch h
    · rcases List.mem_append.mp h with h | h
      · obtain ⟨r, hr, rfl⟩ := List.mem_map.mp h
        intro i hi
        rcases List.mem_cons.mp hi with rfl | hi
        · decide
        · exact ia r hr i hi
      · obtain ⟨r, hr, rfl⟩ := List.mem_map.mp h
        intro i hi
        rcases List.mem_cons.mp hi with rfl | hi
        · decide
        · exact ib r hr i hi
/-- the parts are of a kind -/
theorem pl_wt {k : Kd} {n : Nat} {e : Ex} (h : WT k n e) : ∀ p ∈ e.pl, ∃ k' n', n' ≤ n ∧ WT k' n' p.2 := by
  have two : ∀ {n : Nat} {a b : Ex} {e : Ex}, (∀ p ∈ a.pl, ∃ k' n', n' ≤ n ∧ WT k' n' p.2) → (∀ p ∈ b.pl, ∃ k' n', n' ≤ n ∧ WT k' n' p.2) → (∃ k', WT k' (n + 1) e) → ∀ p ∈ ([], e) :: (a.pl.map (pre 1) ++ b.pl.map (pre 2)), ∃ k' n', n' ≤ n + 1 ∧ WT k' n' p.2 := fun {n a b e} ha hb he p hp => by
    rcases List.mem_cons.mp hp with rfl | hp
    · obtain ⟨k', h⟩ := he; exact ⟨k', n + 1, Nat.le_refl _, h⟩
    · rcases List.mem_append.mp hp with hp | hp
      · obtain ⟨r, hr, rfl⟩ := List.mem_map.mp hp
        obtain ⟨k', n', h1, h2⟩ := ha r hr
        exact ⟨k', n', by omega, h2⟩
      · obtain ⟨r, hr, rfl⟩ := List.mem_map.mp hp
        obtain ⟨k', n', h1, h2⟩ := hb r hr
        exact ⟨k', n', by omega, h2⟩
  have one : ∀ {n : Nat} {a : Ex} {e : Ex}, (∀ p ∈ a.pl, ∃ k' n', n' ≤ n ∧ WT k' n' p.2) → (∃ k', WT k' (n + 1) e) → ∀ p ∈ ([], e) :: a.pl.map (pre 1), ∃ k' n', n' ≤ n + 1 ∧ WT k' n' p.2 := fun {n a e} ha he p hp => by
    rcases List.mem_cons.mp hp with rfl | hp
    · obtain ⟨k', h⟩ := he; exact ⟨k', n + 1, Nat.le_refl _, h⟩
    · obtain ⟨r, hr, rfl⟩ := List.mem_map.mp hp
      obtain ⟨k', n', h1, h2⟩ := ha r hr
      exact ⟨k', n', by omega, h2⟩
  induction h with
  | val h => intro p hp; rw [List.mem_singleton.mp hp]; exact ⟨_, _, Nat.le_refl _, .val h⟩
  | cell h => intro p hp; rw [List.mem_singleton.mp hp]; exact ⟨_, _, Nat.le_refl _, .cell h⟩
  | ar hw ha hb ia ib => exact two ia ib ⟨_, .ar hw ha hb⟩
  | cmp hw ha hb ia ib => exact two ia ib ⟨_, .cmp hw ha hb⟩
  | lg hw ha hb ia ib => exact two ia ib ⟨_, .lg hw ha hb⟩
  | nt ha ia => exact one ia ⟨_, .nt ha⟩
  | nl ha ia => exact one ia ⟨_, .nl ha⟩
  | am ha h1 h2 h3 ia => exact one ia ⟨_, .am ha h1 h2 h3⟩
theorem Wt_mono {m n : Nat} (h : m ≤ n) : Wt m ≤ Wt n := by
  induction h with
  | refl => exact Nat.le_refl _
  | step _ ih => exact Nat.le_trans ih (by show Wt _ ≤ 3 * (Wt _ + 1); omega)
theorem pD_nice {k : Kd} {n : Nat} {e : Ex} (h : WT k n e) : ∀ p ∈ e.pl, noDict (pD [] p) = true ∧ (pD [] p).depth ≤ n + 4 := by
  intro p hp
  obtain ⟨k', n', h1, h2⟩ := pl_wt h p hp
  have h3 := h2.sm
  have h4 := path_sm ([] ++ p.1) (pl_path e p hp)
  have h5 := sm2 (h4.mono (w' := max ((([] ++ p.1) : List Nat).length * 31) (Wt n')) (dp' := n + 2) (Nat.le_max_left _ _) (by omega)) (h3.mono (w' := max ((([] ++ p.1) : List Nat).length * 31) (Wt n')) (Nat.le_max_right _ _) (by omega))
  exact ⟨h5.nd, Nat.le_trans h5.dep (by omega)⟩
theorem pls_self {k : Kd} {n : Nat} {e : Ex} (h : WT k n e) (hn : n ≤ 4) : dNe (.list (e.pl.map (pD []))) (.list (e.pl.map (pD []))) = some (.bool false) := by
  refine ne_self ?_ (Nat.le_trans (depth_list (n := n + 4) fun x hx => ?_) (by omega))
  · rw [noDict]
    refine noDictA_of fun x hx => ?_
    obtain ⟨p, hp, rfl⟩ := List.mem_map.mp hx
    exact (pD_nice h p hp).1
  · obtain ⟨p, hp, rfl⟩ := List.mem_map.mp hx
    exact (pD_nice h p hp).2
/-! #### cells, tables -/
def isC (p : Plc) : Bool := match p.2 with
  | .cell _ _ => true
  | _ => false
def ci (p : Plc) : List Int := match p.2 with
  | .cell i j => [(i : Int), (j : Int)]
  | _ => []
def tlD (e : Ex) : D := match e.d with
  | .tuple ds => .tuple (ds.drop 1)
  | d => d
abbrev tupD (ns : List Int) : D := .tuple (ns.map .int)
theorem d_tup (e : Ex) : ∃ a ds, e.d = .tuple (a :: ds) := by cases e <;> exact ⟨_, _, rfl⟩
theorem tl_e {G : Type} {env : Pd.Env} {g : G} {i : Nat} (e : Ex) (h : env.at i = .sh e.d) : mSlT (mVar i) (mPart (mC (.int 1))) mNo env g = some (tlD e, g) := by
  obtain ⟨a, ds, hd⟩ := d_tup e
  have := slT_e (g1 := g) (lo := mPart (mC (.int 1))) (hi := mNo) (var_e (h.trans (by rw [hd]))) (part_e rfl) rfl (part_from (ds := a :: ds) (i := 0) (by show 0 < ds.length + 1; omega))
  refine this.trans ?_
  unfold tlD
  rw [hd]
  exact congrArg (fun z => some (PyData.tuple z, g)) (cut_from (a :: ds) 1)
theorem isC_e {G : Type} {env : Pd.Env} {g : G} {i : Nat} (p : Plc) (h : env.at i = .sh p.2.d) : mOpT dEq (mOp dIx (mVar i) (mC (.int 0))) (mC (.str "cell")) env g = some (isC p, g) := by
  obtain ⟨q, e⟩ := p
  have : ∃ s, dIx e.d (.int 0) = some (.str s) ∧ dEq (.str s) (.str "cell") = some (.bool (isC (q, e))) := by
    cases e with
    | bin w a b => cases w <;> exact ⟨_, rfl, rfl⟩
    | _ => exact ⟨_, rfl, rfl⟩
  obtain ⟨s, h1, h2⟩ := this
  exact opT_e (op_e (var_e h) rfl h1) rfl h2
def kss (e : Ex) : List (List Int) := (e.pl.filter isC).map ci
theorem cells_map (e : Ex) : (e.pl.filter isC).map (fun p => tlD p.2) = (kss e).map tupD := by
  unfold kss
  rw [List.map_map]
  refine List.map_congr_left fun p hp => ?_
  have hp := (List.mem_filter.mp hp).2
  obtain ⟨q, e⟩ := p
  cases e <;> first | rfl | cases hp
theorem kss_fit {k : Kd} {n : Nat} {e : Ex} (h : WT k n e) : ∀ ns ∈ kss e, ∃ i j : Nat, ns = [(i : Int), (j : Int)] ∧ i ≤ 1 ∧ j ≤ 2 := by
  intro ns hns
  obtain ⟨p, hp, rfl⟩ := List.mem_map.mp hns
  obtain ⟨hp, hc⟩ := List.mem_filter.mp hp
  obtain ⟨k', n', _, hw⟩ := pl_wt h p hp
  obtain ⟨q, e⟩ := p
  cases e with
  | cell i j =>
    cases hw with
    | cell h => exact ⟨i, j, rfl, cell_small h⟩
  | _ => cases hc
theorem sorted_tups {ks : List (List Int)} (hl : ks.length < 64) (h : ∀ ns ∈ ks, ∃ i j : Nat, ns = [(i : Int), (j : Int)] ∧ i ≤ 1 ∧ j ≤ 2) : ∃ rs : List (List Int), dSortedSet [.list (ks.map tupD)] = some (rs.map tupD) ∧ (∀ r ∈ rs, r ∈ ks) ∧ rs.length ≤ ks.length := by
  cases ks with
  | nil => exact ⟨[], rfl, (fun _ h => nomatch h), Nat.le_refl _⟩
  | cons x ks =>
    refine ⟨sortK (TS.code 64) (x :: ks), ?_, fun r hr => sortK_mem hr, sortK_len _⟩
    have e1 : intsD ((x :: ks).map tupD) = none := rfl
    have e2 : tupsI ((x :: ks).map tupD) = some (x :: ks) := tupsI_mm _
    have hw : widthT (x :: ks) = 2 := by
      obtain ⟨i, j, rfl, _⟩ := h x (List.mem_cons_self ..)
      rfl
    have hf : fitT 2 (x :: ks) = true := by
      unfold fitT
      rw [List.all_eq_true]
      intro ns hns
      obtain ⟨i, j, rfl, h1, h2⟩ := h ns hns
      show (decide (2 = 2) && ((decide (0 ≤ (i : Int)) && decide ((i : Int) < 64)) && ((decide (0 ≤ (j : Int)) && decide ((j : Int) < 64)) && true))) = true
      rw [decide_eq_true (p := 0 ≤ (i : Int)) (by omega), decide_eq_true (p := (i : Int) < 64) (by omega), decide_eq_true (p := 0 ≤ (j : Int)) (by omega), decide_eq_true (p := (j : Int) < 64) (by omega)]
      rfl
    unfold dSortedSet
    simp only [e1, e2]
    rw [if_pos ⟨hl, by rw [hw]; decide, by rw [hw]; exact hf⟩]
theorem sorted_ints {ns : List Int} (h : ns.length < 64) : dSortedSet [.list (ns.map .int)] = some ((sortK id ns).map .int) := by
  unfold dSortedSet
  simp only [intsD_mm]
  rw [if_pos h]
abbrev tupR (rs : List (List Int)) : D := .list (rs.map tupD)
theorem cells_e {e : Ex} {rs : List (List Int)} (hh : e.h < 6) (hl : e.pl.length ≤ 1000) (hs : dSortedSet [.list ((kss e).map tupD)] = some (rs.map tupD)) : F_cells_of [e.d] = some (tupR rs) := by
  have hc : compL (bTup 2 (bCons (bName 2) (bCons (bName 3) bNil))) (mOpT dEq (mOp dIx (mVar 3) (mC (.int 0))) (mC (.str "cell"))) (mSlT (mVar 3) (mPart (mC (.int 1))) mNo) (Pd.Env.wipe (startE 4 ([e.d].map .sh)) [2, 3]) (e.pl.map (pD [])) () = some ((kss e).map tupD, ()) := by
    rw [← cells_map]
    exact compL_filter (pD []) (fun p => tlD p.2) isC fun p _ => ⟨_, rfl, isC_e p rfl, tl_e p.2 rfl⟩
  exact runP_Rl (N := 4) (n := 1) (m := m_cells_of) (ds := [e.d]) (xs := rs.map tupD) (rl_nx (then_e (setF_e (comp_e (itL_e (call_e (xs := [e.d]) (cons_e rfl nil_e) (places_e 6 e hh hl))) rfl hc))) (rl_ret (callF_e (xs := [.list ((kss e).map tupD)]) (cons_e rfl nil_e) hs)))
def firsts (rs : List (List Int)) : List Int := rs.map fun r => r.getD 0 0
theorem first_e {G : Type} {env : Pd.Env} {g : G} {i : Nat} {rs : List (List Int)} (h : ∀ r ∈ rs, ∃ i j : Nat, r = [(i : Int), (j : Int)] ∧ i ≤ 1 ∧ j ≤ 2) (hi : i < env.length) : compL (bName i) mYes (mOp dIx (mVar i) (mC (.int 0))) env (rs.map tupD) g = some ((firsts rs).map .int, g) := by
  unfold firsts
  rw [List.map_map]
  refine compL_mm tupD (PyData.int ∘ fun r => r.getD 0 0) fun r hr => ?_
  obtain ⟨a, b, rfl, _⟩ := h r hr
  refine ⟨_, rfl, op_e (x := tupD [(a : Int), (b : Int)]) (var_e ?_) rfl (ixT_nat (j := 0) rfl)⟩
  rw [at_set, if_pos ⟨rfl, hi⟩]
theorem tables_e {e : Ex} {rs : List (List Int)} (hc : F_cells_of [e.d] = some (tupR rs)) (h : ∀ r ∈ rs, ∃ i j : Nat, r = [(i : Int), (j : Int)] ∧ i ≤ 1 ∧ j ≤ 2) (hl : rs.length < 64) : F_tables_of [e.d] = some (.list ((sortK id (firsts rs)).map .int)) := by
  exact runP_Rl (N := 2) (n := 1) (m := m_tables_of) (ds := [e.d]) (rl_ret (callF_e (xs := [.list ((firsts rs).map .int)]) (cons_e (L_e (comp_e (itL_e (call_e (xs := [e.d]) (cons_e rfl nil_e) hc)) rfl (first_e h (by show 1 < 2; decide)))) nil_e) (sorted_ints (by unfold firsts; rw [List.length_map]; exact hl))))
/-! #### joined -/
def joinF (x : D) (xs : List D) : D := xs.foldl (fun a b => .tuple [.str "and", a, b]) x
theorem join_loop : ∀ {xs : List D} {x : D} {l : SV} {p : SV}, ∃ p', loopL (bName 2) lb_joined_1 xs [l, .sh x, p] () = some (.nx, [l, .sh (joinF x xs), p'], ())
  | [], x, l, p => ⟨p, rfl⟩
  | y :: xs, x, l, p => by
    obtain ⟨p', ih⟩ := join_loop (xs := xs) (x := .tuple [.str "and", x, y]) (l := l) (p := .sh y)
    exact ⟨p', loop_nx (e1 := [l, .sh x, .sh y]) rfl (set_e (tup_e (cons_e rfl (cons_e rfl (cons_e rfl nil_e))))) ih⟩
theorem joined_e (x : D) (xs : List D) : F_joined [.list (x :: xs)] = some (joinF x xs) := by
  obtain ⟨p', hl⟩ := join_loop (xs := xs) (x := x) (l := .sh (.list (x :: xs))) (p := .un)
  have hs : mSlL (mVar 0) (mPart (mC (.int 1))) mNo [.sh (.list (x :: xs)), .sh x, .un] () = some (xs, ()) := (slL_e rfl (part_e rfl) rfl).trans (congrArg (fun z => some (z, ())) (cut_from (x :: xs) 1))
  exact runP_Re (N := 3) (n := 1) (m := m_joined) (ds := [.list (x :: xs)]) (re_nx (if_no (opT_e (call_e (cons_e rfl nil_e) rfl) rfl (eq_if (by show ((xs.length + 1 : Nat) : Int) ≠ 0; omega)))) (re_nx (set_e (op_e rfl rfl (ix_nat (j := 0) rfl))) (re_nx (for_e (itL_e (L_e hs)) hl) (re_ret rfl))))
theorem joined_nil : F_joined [.list []] = some .none := rfl
end K30

namespace K30
open PySem Pd
abbrev LW (c : Addr) (k t kept turn rows i j col due parts part big pls found path cell some one : SV) : Pd.Env := [.raw (.ref c), .st, .sh (.list (cellsL.map cD)), k, t, kept, turn, rows, i, j, col, due, parts, part, big, pls, found, path, cell, some, one]
theorem lend_e {G : Type} {env : Pd.Env} {g g1 : G} {js : List Nat} {ma : ME G} {d : D} (h0 : (env.lend js).noOw = true) (h : ma (env.lend js) g = some (d, g1)) (hs : scal0 d = true) : mLend js ma env g = some (d, g1) := by
  unfold mLend
  rw [if_pos h0, h]
  exact if_pos hs
theorem bor_f {G : Type} {env : Pd.Env} {g g1 : G} {ma mb : ME G} {r} (h : ma env g = some (.bool false, g1)) (k : mb env g1 = r) : mBOr ma mb env g = r := by unfold mBOr; rw [h]; exact k
/-! #### a row's cells -/
section
variable {g : Dc} {c : Addr} {k t kept turn j due parts part big pls found path cell some one : SV} {r0 r1 : List D} {kd : Kd}
abbrev RW2 (r0 r1 : List D) : List D := [.tuple r0, .tuple r1]
theorem rstep0 (hc : g.c = c) (hl : r0.length ≤ 5) : ∃ d g', Vd kd d ∧ g'.c = c ∧ lb_law_1 (LW c k t kept turn (.ow (RW2 r0 r1)) (.sh (.int 0)) j (.sh (.str kd.s)) due parts part big pls found path cell some one) g = .some (.nx, LW c k t kept turn (.ow (RW2 (r0 ++ [d]) r1)) (.sh (.int 0)) j (.sh (.str kd.s)) due parts part big pls found path cell some one, g') := by
  obtain ⟨d, g1, e1, hv, hc1⟩ := somed (env := LW c k t kept turn (.ow (RW2 r0 r1)) (.sh (.int 0)) j (.sh (.str kd.s)) due parts part big pls found path cell some one) (g := g) (i := 1) (k := 0) (me := mVar 10) (kd := kd) rfl (by rw [hc]; rfl) rfl
  exact ⟨d, g1, hv, hc1.trans hc, setIx_e (i := 0) (k := 0) (ds := RW2 r0 r1) (d := .tuple (r0 ++ [d])) (op_e (x := .tuple r0) (y := .tuple [d]) (ixOw_e (i := 0) (ds := RW2 r0 r1) rfl rfl rfl) (tup_e (cons_e e1 nil_e)) (tup_add (by show _ + 1 ≤ _; omega))) rfl rfl rfl⟩
theorem rstep1 (hc : g.c = c) (hl : r1.length ≤ 5) : ∃ d g', Vd kd d ∧ g'.c = c ∧ lb_law_1 (LW c k t kept turn (.ow (RW2 r0 r1)) (.sh (.int 1)) j (.sh (.str kd.s)) due parts part big pls found path cell some one) g = .some (.nx, LW c k t kept turn (.ow (RW2 r0 (r1 ++ [d]))) (.sh (.int 1)) j (.sh (.str kd.s)) due parts part big pls found path cell some one, g') := by
  obtain ⟨d, g1, e1, hv, hc1⟩ := somed (env := LW c k t kept turn (.ow (RW2 r0 r1)) (.sh (.int 1)) j (.sh (.str kd.s)) due parts part big pls found path cell some one) (g := g) (i := 1) (k := 0) (me := mVar 10) (kd := kd) rfl (by rw [hc]; rfl) rfl
  exact ⟨d, g1, hv, hc1.trans hc, setIx_e (i := 1) (k := 1) (ds := RW2 r0 r1) (d := .tuple (r1 ++ [d])) (op_e (x := .tuple r1) (y := .tuple [d]) (ixOw_e (i := 1) (ds := RW2 r0 r1) rfl rfl rfl) (tup_e (cons_e e1 nil_e)) (tup_add (by show _ + 1 ≤ _; omega))) rfl rfl rfl⟩
theorem rows_e {i col : SV} (hc : g.c = c) : ∃ x0 x1 y0 y1 y2 g', Vd .int x0 ∧ Vd .text x1 ∧ Vd .int y0 ∧ Vd .bool y1 ∧ Vd .int y2 ∧ g'.c = c ∧
    loopL (bTup 3 (bCons (bName 8) (bCons (bName 9) (bCons (bName 10) bNil)))) lb_law_1 (cellsL.map cD) (LW c k t kept turn (.ow (RW2 [] [])) i j col due parts part big pls found path cell some one) g = .some (.nx, LW c k t kept turn (.ow (RW2 [x0, x1] [y0, y1, y2])) (.sh (.int 1)) (.sh (.int 2)) (.sh (.str Kd.int.s)) due parts part big pls found path cell some one, g') := by
  obtain ⟨x0, g1, v0, c1, s1⟩ := rstep0 (g := g) (c := c) (k := k) (t := t) (kept := kept) (turn := turn) (j := .sh (.int 0)) (due := due) (parts := parts) (part := part) (big := big) (pls := pls) (found := found) (path := path) (cell := cell) (some := some) (one := one) (r0 := []) (r1 := []) (kd := .int) hc (by decide)
  obtain ⟨x1, g2, v1, c2, s2⟩ := rstep0 (g := g1) (c := c) (k := k) (t := t) (kept := kept) (turn := turn) (j := .sh (.int 1)) (due := due) (parts := parts) (part := part) (big := big) (pls := pls) (found := found) (path := path) (cell := cell) (some := some) (one := one) (r0 := [x0]) (r1 := []) (kd := .text) c1 (by show 1 ≤ 5; decide)
  obtain ⟨y0, g3, w0, c3, s3⟩ := rstep1 (g := g2) (c := c) (k := k) (t := t) (kept := kept) (turn := turn) (j := .sh (.int 0)) (due := due) (parts := parts) (part := part) (big := big) (pls := pls) (found := found) (path := path) (cell := cell) (some := some) (one := one) (r0 := [x0, x1]) (r1 := []) (kd := .int) c2 (by decide)
  obtain ⟨y1, g4, w1, c4, s4⟩ := rstep1 (g := g3) (c := c) (k := k) (t := t) (kept := kept) (turn := turn) (j := .sh (.int 1)) (due := due) (parts := parts) (part := part) (big := big) (pls := pls) (found := found) (path := path) (cell := cell) (some := some) (one := one) (r0 := [x0, x1]) (r1 := [y0]) (kd := .bool) c3 (by show 1 ≤ 5; decide)
  obtain ⟨y2, g5, w2, c5, s5⟩ := rstep1 (g := g4) (c := c) (k := k) (t := t) (kept := kept) (turn := turn) (j := .sh (.int 2)) (due := due) (parts := parts) (part := part) (big := big) (pls := pls) (found := found) (path := path) (cell := cell) (some := some) (one := one) (r0 := [x0, x1]) (r1 := [y0, y1]) (kd := .int) c4 (by show 2 ≤ 5; decide)
  exact ⟨x0, x1, y0, y1, y2, g5, v0, v1, w0, w1, w2, c5, loop_nx rfl s1 (loop_nx rfl s2 (loop_nx rfl s3 (loop_nx rfl s4 (loop_nx rfl s5 rfl))))⟩
end
def Rf (x0 x1 y0 y1 y2 : D) (i j : Nat) : D := (([[x0, x1], [y0, y1, y2]] : List (List D)).getD i []).getD j .none
theorem rows_ok {x0 x1 y0 y1 y2 : D} (v0 : Vd .int x0) (v1 : Vd .text x1) (w0 : Vd .int y0) (w1 : Vd .bool y1) (w2 : Vd .int y2) (f : List D → D) (hf : ∀ (i : Nat) (t : D), (RW2 [x0, x1] [y0, y1, y2])[i]? = some t → dIx (f (RW2 [x0, x1] [y0, y1, y2])) (.int (i : Int)) = some t) : RowsOk (f (RW2 [x0, x1] [y0, y1, y2])) (Rf x0 x1 y0 y1 y2) where
  cell := fun i j k h => by
    simp only [cellsL, List.mem_cons, Prod.mk.injEq, List.not_mem_nil, or_false] at h
    rcases h with ⟨rfl, rfl, rfl⟩ | ⟨rfl, rfl, rfl⟩ | ⟨rfl, rfl, rfl⟩ | ⟨rfl, rfl, rfl⟩ | ⟨rfl, rfl, rfl⟩
    · exact ⟨_, hf 0 _ rfl, ixT_nat (j := 0) rfl⟩
    · exact ⟨_, hf 0 _ rfl, ixT_nat (j := 1) rfl⟩
    · exact ⟨_, hf 1 _ rfl, ixT_nat (j := 0) rfl⟩
    · exact ⟨_, hf 1 _ rfl, ixT_nat (j := 1) rfl⟩
    · exact ⟨_, hf 1 _ rfl, ixT_nat (j := 2) rfl⟩
  vd := fun i j k h => by
    simp only [cellsL, List.mem_cons, Prod.mk.injEq, List.not_mem_nil, or_false] at h
    rcases h with ⟨rfl, rfl, rfl⟩ | ⟨rfl, rfl, rfl⟩ | ⟨rfl, rfl, rfl⟩ | ⟨rfl, rfl, rfl⟩ | ⟨rfl, rfl, rfl⟩ <;> assumption
theorem met_e {rD : D} {R : Nat → Nat → D} (ok : RowsOk rD R) {k : Kd} {n : Nat} {e : Ex} (h : WT k n e) (hn : n ≤ 4) {fD : D} : F_is_met [e.d, rD, fD] = some (.bool (isBd true (e.v R))) := by
  have hv := value_e (fD := fD) ok h 6 (by omega) hn
  have h0 : mOp dIs (mVar 0) (mC .none) (startE 3 ([e.d, rD, fD].map .sh)) () = some (.bool false, ()) := op_e rfl rfl (by show some (PyData.bool (isNone e.d)) = _; rw [d_some])
  exact runP_re (N := 3) (n := 3) (m := m_is_met) (ds := [e.d, rD, fD]) (u := ()) (ret_e (bor_f h0 (op_e (call_e (xs := [e.d, rD, fD]) (cons_e rfl (cons_e rfl (cons_e rfl nil_e))) hv) rfl rfl)))
theorem met_none {rD fD : D} : F_is_met [.none, rD, fD] = some (.bool true) := rfl
theorem pl_small {k : Kd} {n : Nat} {e : Ex} (h : WT k n e) (hn : n ≤ 4) : e.pl.length ≤ 31 := by
  have h1 := pl_len h
  have h2 : (2 : Nat) ^ (n + 1) ≤ 2 ^ 5 := Nat.pow_le_pow_right (by decide) (by omega)
  have h32 : (2 : Nat) ^ 5 = 32 := by decide
  omega
/-- one turn -/
theorem turn_e {g : Dc} {c : Addr} {kd : Kd} {n : Nat} {e : Ex} (hw : WT kd n e) (hn : n ≤ 4) (hc : g.c = c) {k kept turn rows i j col due parts : SV} (hk : k.notOw = true) (h5 : kept.notOw = true) (h6 : turn.notOw = true) (hp : parts.notOw = true) (hdu : due.notOw = true) :
    ∃ rows' i' j' col' due' parts' g', g'.c = c ∧ parts'.notOw = true ∧ due'.notOw = true ∧ lb_law_2 (LW c k (.sh e.d) kept turn rows i j col due parts .un .un .un .un .un .un .un .un) g = some (.nx, LW c k (.sh e.d) kept turn rows' i' j' col' due' parts' .un .un .un .un .un .un .un .un, g') := by
  obtain ⟨x0, x1, y0, y1, y2, g1, v0, v1, w0, w1, w2, c1, s1⟩ := rows_e (g := g) (c := c) (k := k) (t := .sh e.d) (kept := kept) (turn := turn) (j := j) (due := due) (parts := parts) (part := .un) (big := .un) (pls := .un) (found := .un) (path := .un) (cell := .un) (some := .un) (one := .un) (i := i) (col := col) hc
  let R := Rf x0 x1 y0 y1 y2
  have okL : RowsOk (.list (RW2 [x0, x1] [y0, y1, y2])) R := rows_ok v0 v1 w0 w1 w2 .list fun i t h => ix_nat h
  have okT : RowsOk (.tuple (RW2 [x0, x1] [y0, y1, y2])) R := rows_ok v0 v1 w0 w1 w2 .tuple fun i t h => ixT_nat h
  have vb := val_vb okL hw hn
  let v := e.v R
  let EA := fun (due parts : SV) => LW c k (.sh e.d) kept turn (.ow (RW2 [x0, x1] [y0, y1, y2])) (.sh (.int 1)) (.sh (.int 2)) (.sh (.str Kd.int.s)) due parts .un .un .un .un .un .un .un .un
  have no : ∀ d q : SV, d.notOw = true → q.notOw = true → ((EA d q).lend [7]).noOw = true := fun d q hd hq => by
    show (true && (true && (true && (k.notOw && (true && (kept.notOw && (turn.notOw && (true && (true && (true && (true && (d.notOw && (q.notOw && (true && (true && (true && (true && (true && (true && (true && (true && true))))))))))))))))))))) = true
    rw [hk, h5, h6, hd, hq]
    rfl
  have hval := law_val_e (fD := .tuple []) okL hw 6 (by omega) hn
  have hval2 := value_e (fD := .tuple []) okL hw 6 (by omega) hn
  obtain ⟨p1, p2⟩ := conj_e 6 e (by have := hw.hgt; omega) (Nat.le_trans (pl_small hw hn) (by decide))
  have hsm := VB.sm hn vb
  refine ⟨_, _, _, _, .sh v, .sh (.list (e.cj.map Ex.d)), g1, c1, rfl, rfl, seq_nx (setF_e (lst_e (cons_e (tup_e nil_e) (cons_e (tup_e nil_e) nil_e)))) (seq_nx (for_e (itL_e rfl) s1) (seq_nx (e1 := EA (.sh v) parts) (g1 := g1) ?due (seq_nx (g1 := g1) (if_no (or_f (g1 := g1) ?t1 (or_f (g1 := g1) ?t2 ?t3))) (seq_nx (e1 := EA (.sh v) (.sh (.list (e.cj.map Ex.d)))) (g1 := g1) (set_e (call_e (xs := [e.d]) (cons_e rfl nil_e) ?parts)) (if_no ?t4)))))⟩
  case parts => exact p2
  case due =>
    have hd := lend_e (ma := mCall (F__law_val 6) (mCons (mVar 4) (mCons (mVar 7) (mCons (mTup mNil) mNil)))) (js := [7]) (env := EA due parts) (g := g1) (d := v) (no _ _ hdu hp) (call_e (xs := [e.d, .list (RW2 [x0, x1] [y0, y1, y2]), .tuple []]) (cons_e rfl (cons_e rfl (cons_e (tup_e nil_e) nil_e))) hval) vb.scal
    exact set_e hd
  case t1 =>
    refine lendT_e (no _ _ rfl hp) (opT_e (call_e (xs := [v]) (cons_e (call_e (xs := [e.d, .list (RW2 [x0, x1] [y0, y1, y2]), .tuple []]) (cons_e rfl (cons_e rfl (cons_e (tup_e nil_e) nil_e))) hval2) nil_e) (repr_e hsm (by decide) (by decide))) (call_e (xs := [v]) (cons_e rfl nil_e) (repr_e hsm (by decide) (by decide))) (str_ne _))
  case t2 =>
    refine lendT_e (no _ _ rfl hp) (opT_e (call_e (xs := [e.d, .tuple (RW2 [x0, x1] [y0, y1, y2]), .tuple []]) (cons_e rfl (cons_e (call_e (cons_e rfl nil_e) rfl) (cons_e (tup_e nil_e) nil_e))) (met_e okT hw hn)) (op_e (x := v) rfl rfl rfl) ((ne_bb _ _).trans ?_))
    show some (PyData.bool (isBd true v != isBd true v)) = _
    simp
  case t3 =>
    exact lendT_e (no _ _ rfl hp) (opT_e (call_e (xs := [.none, .list (RW2 [x0, x1] [y0, y1, y2]), .tuple []]) (cons_e rfl (cons_e rfl (cons_e (tup_e nil_e) nil_e))) met_none) rfl rfl)
  case t4 =>
    have hcj : compL (bName 13) (mOpT dIsNB (mCall (F__law_val 6) (mCons (mVar 13) (mCons (mVar 7) (mCons (mTup mNil) mNil)))) (mC (.bool true))) (mVar 13) (Pd.Env.wipe ((EA (.sh v) (.sh (.list (e.cj.map Ex.d)))).lend [7]) [13]) (e.cj.map Ex.d) g1 = some ((e.cj.filter fun c => !isBd true (c.v R)).map Ex.d, g1) :=
      compL_filter Ex.d Ex.d (fun c => !isBd true (c.v R)) fun cc hcc => by
        obtain ⟨k', n', h1, h2⟩ := cj_wt hw cc hcc
        exact ⟨_, rfl, opT_e (x := cc.v R) (call_e (xs := [cc.d, .list (RW2 [x0, x1] [y0, y1, y2]), .tuple []]) (cons_e rfl (cons_e rfl (cons_e (tup_e nil_e) nil_e))) (law_val_e okL h2 6 (by omega) (by omega))) rfl rfl, rfl⟩
    refine lendT_e (no _ _ rfl rfl) (opT_e (op_e (x := v) rfl rfl rfl) (op_e (call_e (xs := [.list ((e.cj.filter fun c => !isBd true (c.v R)).map Ex.d)]) (cons_e (L_e (comp_e (itL_e rfl) rfl hcj)) nil_e) len_e) rfl (eq_int _ _)) ((ne_bb _ _).trans ?_))
    have e1 : isBd true v = e.cj.all fun c => isBd true (c.v R) := cj_true okL hw hn
    have e2 : ((((e.cj.filter fun c => !isBd true (c.v R)).map Ex.d).length : Int) == 0) = e.cj.all fun c => isBd true (c.v R) := by
      rw [List.length_map]
      cases h : e.cj.all fun c => isBd true (c.v R) with
      | true =>
        have : e.cj.filter (fun c => !isBd true (c.v R)) = [] := by
          rw [List.filter_eq_nil_iff]
          intro a ha
          rw [List.all_eq_true] at h
          rw [h a ha]
          decide
        rw [this]
        rfl
      | false =>
        obtain ⟨a, ha, hb⟩ := List.all_eq_false.mp h
        have : a ∈ e.cj.filter fun c => !isBd true (c.v R) := List.mem_filter.mpr ⟨ha, by simpa using hb⟩
        have := List.length_pos_of_mem this
        exact beq_false_of_ne (by omega)
    show some (PyData.bool (isBd true v != ((((e.cj.filter fun c => !isBd true (c.v R)).map Ex.d).length : Int) == 0))) = _
    rw [e1, e2]
    simp
end K30

namespace K30
open PySem Pd
/-! #### data without doubt -/
def Ni (n : Nat) (d : D) : Prop := noDict d = true ∧ d.depth ≤ n
theorem Ni.ne {n : Nat} {d : D} (h : Ni n d) (hn : n ≤ 64) : dNe d d = some (.bool false) := ne_self h.1 (Nat.le_trans h.2 hn)
theorem Ni.eq {n : Nat} {d : D} (h : Ni n d) (hn : n ≤ 64) : dEq d d = some (.bool true) := eq_self h.1 (Nat.le_trans h.2 hn)
theorem Ni.mono {m n : Nat} {d : D} (h : Ni m d) (hn : m ≤ n) : Ni n d := ⟨h.1, Nat.le_trans h.2 hn⟩
theorem ni_tup {n : Nat} {xs : List D} (h : ∀ x ∈ xs, Ni n x) : Ni (n + 1) (.tuple xs) := ⟨by rw [noDict]; exact noDictA_of fun x hx => (h x hx).1, depth_tup fun x hx => (h x hx).2⟩
theorem ni_list {n : Nat} {xs : List D} (h : ∀ x ∈ xs, Ni n x) : Ni (n + 1) (.list xs) := ⟨by rw [noDict]; exact noDictA_of fun x hx => (h x hx).1, depth_list fun x hx => (h x hx).2⟩
theorem ni_scal {d : D} (h : scal0 d = true) : Ni 1 d := by cases d <;> first | exact ⟨rfl, Nat.le_of_ble_eq_true rfl⟩ | cases h
theorem ni2 {n : Nat} {a b : D} (ha : Ni n a) (hb : Ni n b) : Ni (n + 1) (.tuple [a, b]) := ni_tup fun x hx => by
  simp only [List.mem_cons, List.not_mem_nil, or_false] at hx
  rcases hx with rfl | rfl <;> assumption
theorem ni3 {n : Nat} {a b c : D} (ha : Ni n a) (hb : Ni n b) (hc : Ni n c) : Ni (n + 1) (.tuple [a, b, c]) := ni_tup fun x hx => by
  simp only [List.mem_cons, List.not_mem_nil, or_false] at hx
  rcases hx with rfl | rfl | rfl <;> assumption
def Nice : Ex → Prop
  | .val d => scal0 d = true
  | .cell _ _ => True
  | .nt a => Nice a
  | .nl a => Nice a
  | .am a vs => Nice a ∧ ∀ v ∈ vs, scal0 v = true
  | .bin _ a b => Nice a ∧ Nice b
theorem nice_ni : ∀ {e : Ex}, Nice e → Ni (e.h + 3) e.d
  | .val d, h => ((ni2 (ni_scal (d := .str "value") rfl) (ni_scal h)).mono (by show 2 ≤ 0 + 3; decide))
  | .cell i j, _ => ((ni3 (ni_scal (d := .str "cell") rfl) (ni_scal (d := .int _) rfl) (ni_scal (d := .int _) rfl)).mono (by show 2 ≤ 0 + 3; decide))
  | .nt a, h => (ni2 ((ni_scal (d := .str "not") rfl).mono (by omega)) (nice_ni (e := a) h)).mono (by show a.h + 3 + 1 ≤ a.h + 1 + 3; omega)
  | .nl a, h => (ni2 ((ni_scal (d := .str "null") rfl).mono (by omega)) (nice_ni (e := a) h)).mono (by show a.h + 3 + 1 ≤ a.h + 1 + 3; omega)
  | .am a vs, h => (ni3 ((ni_scal (d := .str "among") rfl).mono (by omega)) (nice_ni (e := a) h.1) ((ni_list (n := 1) fun v hv => ni_scal (h.2 v hv)).mono (by omega))).mono (by show a.h + 3 + 1 ≤ a.h + 1 + 3; omega)
  | .bin w a b, h => (ni3 (n := max a.h b.h + 3) ((ni_scal (d := .str w.s) rfl).mono (by omega)) ((nice_ni (e := a) h.1).mono (by omega)) ((nice_ni (e := b) h.2).mono (by omega))).mono (by show max a.h b.h + 3 + 1 ≤ max a.h b.h + 1 + 3; omega)
theorem WT.nice {k : Kd} {n : Nat} {e : Ex} (h : WT k n e) : Nice e := by
  induction h with
  | val h => exact (VB.of h 0).scal
  | cell _ => trivial
  | ar _ _ _ ia ib => exact ⟨ia, ib⟩
  | cmp _ _ _ ia ib => exact ⟨ia, ib⟩
  | lg _ _ _ ia ib => exact ⟨ia, ib⟩
  | nt _ ia => exact ia
  | nl _ ia => exact ia
  | am _ hv _ _ ia => exact ⟨ia, fun v h => (VB.of (hv v h) 0).scal⟩
theorem put_nice {x : Ex} (hx : Nice x) : ∀ {e : Ex} (p : List Nat), Nice e → Nice (Ex.put x e p) ∧ (Ex.put x e p).h ≤ e.h + x.h := by
  intro e
  induction e with
  | val d => intro p h; cases p with | nil => rw [put_nil]; exact ⟨hx, Nat.le_add_left _ _⟩ | cons i p => exact ⟨h, Nat.le_add_right _ _⟩
  | cell i j => intro p h; cases p with | nil => rw [put_nil]; exact ⟨hx, Nat.le_add_left _ _⟩ | cons i p => exact ⟨h, Nat.le_add_right _ _⟩
  | nt a ia =>
    intro p h
    cases p with
    | nil => rw [put_nil]; exact ⟨hx, Nat.le_add_left _ _⟩
    | cons i p =>
      obtain ⟨h1, h2⟩ := ia p h
      exact ⟨h1, by show (Ex.put x a p).h + 1 ≤ a.h + 1 + x.h; omega⟩
  | nl a ia =>
    intro p h
    cases p with
    | nil => rw [put_nil]; exact ⟨hx, Nat.le_add_left _ _⟩
    | cons i p =>
      obtain ⟨h1, h2⟩ := ia p h
      exact ⟨h1, by show (Ex.put x a p).h + 1 ≤ a.h + 1 + x.h; omega⟩
  | am a vs ia =>
    intro p h
    cases p with
    | nil => rw [put_nil]; exact ⟨hx, Nat.le_add_left _ _⟩
    | cons i p =>
      obtain ⟨h1, h2⟩ := ia p h.1
      exact ⟨⟨h1, h.2⟩, by show (Ex.put x a p).h + 1 ≤ a.h + 1 + x.h; omega⟩
  | bin w a b ia ib =>
    intro p h
    cases p with
    | nil => rw [put_nil]; exact ⟨hx, Nat.le_add_left _ _⟩
    | cons i p =>
      obtain ⟨h1, h2⟩ := ia p h.1
      obtain ⟨h3, h4⟩ := ib p h.2
      show Nice (if i = 1 then _ else _) ∧ (if i = 1 then _ else _ : Ex).h ≤ max a.h b.h + 1 + x.h
      split
      · exact ⟨⟨h1, h.2⟩, by show max (Ex.put x a p).h b.h + 1 ≤ _; omega⟩
      · exact ⟨⟨h.1, h3⟩, by show max a.h (Ex.put x b p).h + 1 ≤ _; omega⟩
theorem join_ni {n : Nat} : ∀ {xs : List D} {x : D} {m : Nat}, Ni m x → n ≤ m → (∀ y ∈ xs, Ni n y) → Ni (m + xs.length) (joinF x xs)
  | [], x, m, hx, _, _ => hx
  | y :: xs, x, m, hx, hm, h => by
    have h1 : Ni (m + 1) (.tuple [.str "and", x, y]) := ni_tup fun z hz => by
      simp only [List.mem_cons, List.not_mem_nil, or_false] at hz
      rcases hz with rfl | rfl | rfl
      · exact ⟨rfl, Nat.le_trans (Nat.le_of_ble_eq_true rfl : (PyData.str "and").depth ≤ 0) (Nat.zero_le _)⟩
      · exact hx
      · exact (h _ (List.mem_cons_self ..)).mono hm
    exact (join_ni (xs := xs) h1 (by omega) fun z hz => h z (List.mem_cons_of_mem _ hz)).mono (by rw [List.length_cons]; omega)
/-! #### the law's last loop -/
theorem last_loop {c : Addr} {k t kept turn rows i j col parts part big pls found path cell some : SV} {g : Dc} : ∀ {xs : List D} {x : D} {p : SV}, ∃ p', loopL (bName 20) lb_law_3 xs (LW c k t kept turn rows i j col (.sh x) parts part big pls found path cell some p) g = .some (.nx, LW c k t kept turn rows i j col (.sh (joinF x xs)) parts part big pls found path cell some p', g)
  | [], x, p => ⟨p, rfl⟩
  | y :: xs, x, p => by
    obtain ⟨p', ih⟩ := last_loop (c := c) (k := k) (t := t) (kept := kept) (turn := turn) (rows := rows) (i := i) (j := j) (col := col) (parts := parts) (part := part) (big := big) (pls := pls) (found := found) (path := path) (cell := cell) (some := some) (g := g) (xs := xs) (x := .tuple [.str "and", x, y]) (p := .sh y)
    exact ⟨p', loop_nx (e1 := LW c k t kept turn rows i j col (.sh x) parts part big pls found path cell some (.sh y)) rfl (set_e (tup_e (cons_e rfl (cons_e rfl (cons_e rfl nil_e))))) ih⟩
/-! #### a great number -/
def bigD : D := .tuple [.str "times", .tuple [.str "value", .int 1000000000], .tuple [.str "plus", .tuple [.str "value", .int 1000000000], .tuple [.str "field", .int 1]]]
theorem big1 : F_value_of 6 [bigD, .tuple [], .tuple [.none, .int 7]] = some (.int 1000000007000000000) := by rfl
theorem big2 : F_value_of 6 [bigD, .tuple [], .tuple [.int 1, .none]] = some .none := by rfl
theorem conj_none : F_conjuncts 6 [.none] = some (.list []) := rfl
end K30

namespace K30
open PySem Pd
theorem law_true (g : Dc) (hl : g.ns.length ≤ 63) : ∃ e g1, m_law (lawEC n_law.length 1 g.c) g = some (.re (.bool true), e, g1) := by
  show Tr m_law (lawEC n_law.length 1 g.c) g
  refine tr_seq (g1 := g) (set_e (d := .list (cellsL.map cD)) rfl) ?_
  change Tr _ (LW g.c .un .un .un .un .un .un .un .un .un .un .un .un .un .un .un .un .un .un) g
  obtain ⟨x, hx, g1, e1, c1⟩ := picked (env := LW g.c .un .un .un .un .un .un .un .un .un .un .un .un .un .un .un .un .un .un) (g := g) (i := 1) (k := 0) (me := mL (mLst (mCons (mC (.str "bool")) (mCons (mC (.str "bool")) (mCons (mC (.str "int")) mNil))))) rfl rfl (L_e (lst_e (cons_e rfl (cons_e rfl (cons_e rfl nil_e))))) (by simp) (by decide)
  have hkd : ∃ kd : Kd, x = .str kd.s := by
    simp only [List.mem_cons, List.not_mem_nil, or_false] at hx
    rcases hx with rfl | rfl | rfl
    · exact ⟨.bool, rfl⟩
    · exact ⟨.bool, rfl⟩
    · exact ⟨.int, rfl⟩
  obtain ⟨kd, rfl⟩ := hkd
  refine tr_seq (set_e e1) ?_
  change Tr _ (LW g.c (.sh (.str kd.s)) .un .un .un .un .un .un .un .un .un .un .un .un .un .un .un .un .un) g1
  obtain ⟨j, g2, e2, j0, j1, c2⟩ := drawn (env := LW g.c (.sh (.str kd.s)) .un .un .un .un .un .un .un .un .un .un .un .un .un .un .un .un .un) (g := g1) (i := 1) (k := 0) (me := mC (.int 4)) (m := 4) rfl (by rw [c1]; rfl) rfl (by decide)
  have c2' : g2.c = g.c := c2.trans c1
  obtain ⟨q, rfl⟩ := Int.eq_ofNat_of_zero_le j0
  obtain ⟨e, g3, e3, hw, c3⟩ := expr_e 4 (1 + q) kd g2 (by omega)
  rw [c2'] at e3
  have c3' : g3.c = g.c := c3.trans c2'
  have hn : 1 + q ≤ 4 := by omega
  have hsm := hw.sm
  have hwt := Wt_le hn
  have hpl := pl_small hw hn
  have hh := hw.hgt
  refine tr_seq (set_e (callG_e (gst2 (c := g.c) rfl rfl (gsh rfl (gsh rfl (gsh (op_e rfl e2 (congrArg (fun z => some (PyData.int z)) (show (1 : Int) + (q : Int) = ((1 + q : Nat) : Int) by omega))) rfl)))) e3)) ?_
  change Tr _ (LW g.c (.sh (.str kd.s)) (.sh e.d) .un .un .un .un .un .un .un .un .un .un .un .un .un .un .un .un) g3
  have hrepr : dRepr [e.d] = some (.str e.d.shown) := repr_e hsm (Nat.le_trans hwt (by decide)) (by omega)
  refine tr_seq (set_e (call_e (xs := [e.d]) (cons_e rfl nil_e) hrepr)) ?_
  change Tr _ (LW g.c (.sh (.str kd.s)) (.sh e.d) (.sh (.str e.d.shown)) .un .un .un .un .un .un .un .un .un .un .un .un .un .un .un) g3
  obtain ⟨e4, g4, h4, turn, rows, i4, j4, col, due, parts, rfl, c4⟩ := loop_inv (bt := bName 6) (mb := lb_law_2) (fun env g' => ∃ turn rows i j col due parts, env = LW g.c (.sh (.str kd.s)) (.sh e.d) (.sh (.str e.d.shown)) turn rows i j col due parts .un .un .un .un .un .un .un .un ∧ g'.c = g.c ∧ due.notOw = true ∧ parts.notOw = true) (ds := rng 0 6) (env := LW g.c (.sh (.str kd.s)) (.sh e.d) (.sh (.str e.d.shown)) .un .un .un .un .un .un .un .un .un .un .un .un .un .un .un) (g := g3) ⟨_, _, _, _, _, _, _, rfl, c3', rfl, rfl⟩ (by
    rintro d hd env g' ⟨turn, rows, i, j, col, due, parts, rfl, hc, h1, h2⟩
    obtain ⟨rows', i', j', col', due', parts', g5, hc5, hp5, hd5, h5⟩ := turn_e (g := g') (c := g.c) hw hn hc (k := .sh (.str kd.s)) (kept := .sh (.str e.d.shown)) (turn := .sh d) (rows := rows) (i := i) (j := j) (col := col) (due := due) (parts := parts) rfl rfl rfl h2 h1
    exact ⟨_, rfl, _, g5, .inl h5, _, _, _, _, _, _, _, rfl, hc5, hd5, hp5⟩)
  refine tr_seq (for_e (rng1_e (j := 6) (cons_e rfl nil_e) (by decide)) h4) ?_
  refine tr_seq (g1 := g4) (set_e (d := bigD) rfl) ?_
  refine tr_seq (g1 := g4) (if_no (or_f (opT_e (x := .int 1000000007000000000) (y := .int 1000000007000000000) (call_e (xs := [bigD, .tuple [], .tuple [.none, .int 7]]) (cons_e rfl (cons_e rfl (cons_e rfl nil_e))) ?b1) rfl (neq_f rfl)) (opT_e (x := .none) (call_e (xs := [bigD, .tuple [], .tuple [.int 1, .none]]) (cons_e rfl (cons_e rfl (cons_e rfl nil_e))) ?b2) rfl rfl))) ?_
  case b1 => exact big1
  case b2 => exact big2
  have hpl1 := places_e 6 e (by omega) (by omega)
  have hpl2 := lplaces_e 6 e [] (by omega) (by omega) (by show 0 + e.h ≤ _; omega)
  refine tr_seq (g1 := g4) (set_e (d := .list (e.pl.map (pD []))) (call_e (xs := [e.d, pathD []]) (cons_e rfl (cons_e rfl nil_e)) ?p1)) ?_
  case p1 => exact hpl2
  have hsize : F_size_of [e.d] = some (.int ((e.pl.map (pD [])).length : Int)) := runP_re (N := 1) (n := 1) (m := m_size_of) (ds := [e.d]) (u := ()) (ret_e (call_e (xs := [.list (e.pl.map (pD []))]) (cons_e (call_e (xs := [e.d]) (cons_e rfl nil_e) hpl1) nil_e) len_e))
  have hsubs : Ni 64 (.list (e.subs.map subD)) := by
    have hnice := hw.nice
    refine (ni_list (n := e.h + 4) fun x hx => ?_).mono (by omega)
    obtain ⟨p, hp, rfl⟩ := List.mem_map.mp hx
    have hps : Nice p.2 := by
      cases e with
      | val _ => cases hp
      | cell _ _ => cases hp
      | nt a => rw [List.mem_singleton.mp hp]; exact hnice
      | nl a => rw [List.mem_singleton.mp hp]; exact hnice
      | am a vs => rw [List.mem_singleton.mp hp]; exact hnice.1
      | bin w a b =>
        simp only [Ex.subs, List.mem_cons, List.not_mem_nil, or_false] at hp
        rcases hp with rfl | rfl
        · exact hnice.1
        · exact hnice.2
    have := sub_h hp
    exact ni2 ((ni_scal (d := .int _) rfl).mono (by omega)) ((nice_ni hps).mono (by omega))
  refine tr_seq (g1 := g4) (if_no (or_f (opT_e (call_e (xs := [e.d]) (cons_e rfl nil_e) ?q1) rfl (pls_self hw hn)) (or_f (opT_e (call_e (xs := [e.d]) (cons_e rfl nil_e) ?q2) (call_e (cons_e rfl nil_e) len_e) (neq_f rfl)) (opT_e (call_e (xs := [e.d]) (cons_e rfl nil_e) ?q3) (call_e (xs := [e.d]) (cons_e rfl nil_e) ?q4) (hsubs.ne (Nat.le_refl _)))))) ?_
  case q1 => exact hpl1
  case q2 => exact hsize
  case q3 => exact parts_e e
  case q4 => exact within_e e
  have hkl : (kss e).length < 64 := by
    unfold kss
    rw [List.length_map]
    have := List.length_filter_le isC e.pl
    omega
  obtain ⟨rs, hrs, hmem, hlen⟩ := sorted_tups hkl (kss_fit hw)
  have hfit : ∀ r ∈ rs, ∃ i j : Nat, r = [(i : Int), (j : Int)] ∧ i ≤ 1 ∧ j ≤ 2 := fun r hr => kss_fit hw r (hmem r hr)
  have hcells := cells_e (e := e) (rs := rs) (by omega) (by omega) hrs
  have htabs := tables_e hcells hfit (by omega)
  change Tr _ (LW g.c (.sh (.str kd.s)) (.sh e.d) (.sh (.str e.d.shown)) turn rows i4 j4 col due parts .un (.sh bigD) (.sh (.list (e.pl.map (pD [])))) .un .un .un .un .un) g4
  have hcomp : compL (bTup 2 (bCons (bName 17) (bCons (bName 13) bNil))) (mOpT dEq (mOp dIx (mVar 13) (mC (.int 0))) (mC (.str "cell"))) (mSlT (mVar 13) (mPart (mC (.int 1))) mNo) (Pd.Env.wipe (LW g.c (.sh (.str kd.s)) (.sh e.d) (.sh (.str e.d.shown)) turn rows i4 j4 col due parts .un (.sh bigD) (.sh (.list (e.pl.map (pD [])))) .un .un .un .un .un) [17, 13]) (e.pl.map (pD [])) g4 = some ((kss e).map tupD, g4) := by
    rw [← cells_map]
    exact compL_filter (pD []) (fun p => tlD p.2) isC fun p _ => ⟨_, rfl, isC_e p rfl, tl_e p.2 rfl⟩
  refine tr_seq (g1 := g4) (set_e (d := tupR rs) (L_e (callF_e (xs := [.list ((kss e).map tupD)]) (cons_e (L_e (comp_e (itL_e rfl) rfl hcomp)) nil_e) ?r1))) ?_
  case r1 => exact hrs
  change Tr _ (LW g.c (.sh (.str kd.s)) (.sh e.d) (.sh (.str e.d.shown)) turn rows i4 j4 col due parts .un (.sh bigD) (.sh (.list (e.pl.map (pD [])))) (.sh (tupR rs)) .un .un .un .un) g4
  have hcompF : compL (bName 18) mYes (mOp dIx (mVar 18) (mC (.int 0))) (Pd.Env.wipe (LW g.c (.sh (.str kd.s)) (.sh e.d) (.sh (.str e.d.shown)) turn rows i4 j4 col due parts .un (.sh bigD) (.sh (.list (e.pl.map (pD [])))) (.sh (tupR rs)) .un .un .un .un) [18]) (rs.map tupD) g4 = some ((firsts rs).map .int, g4) := first_e hfit (by show 18 < 21; decide)
  have hti : dSortedSet [.list ((firsts rs).map .int)] = some ((sortK id (firsts rs)).map .int) := sorted_ints (by unfold firsts; rw [List.length_map]; omega)
  have hneT : dNe (iL (sortK id (firsts rs))) (iL (sortK id (firsts rs))) = some (.bool false) := (ne_iL _ _).trans (by simp)
  have niR : Ni 64 (tupR rs) := (ni_list (n := 2) fun x hx => by
    obtain ⟨r, _, rfl⟩ := List.mem_map.mp hx
    exact ni_tup fun y hy => by obtain ⟨z, _, rfl⟩ := List.mem_map.mp hy; exact ni_scal rfl).mono (by decide)
  refine tr_seq (g1 := g4) (if_no (or_f (opT_e (call_e (xs := [e.d]) (cons_e rfl nil_e) ?s1) rfl (niR.ne (Nat.le_refl _))) (opT_e (y := .list ((sortK id (firsts rs)).map .int)) (call_e (xs := [e.d]) (cons_e rfl nil_e) ?s2) (L_e (callF_e (xs := [.list ((firsts rs).map .int)]) (cons_e (L_e (comp_e (itL_e rfl) rfl hcompF)) nil_e) ?s3)) hneT))) ?_
  case s1 => exact hcells
  case s2 => exact htabs
  case s3 => exact hti
  obtain ⟨y, hy, g5, e5, c5⟩ := picked (env := LW g.c (.sh (.str kd.s)) (.sh e.d) (.sh (.str e.d.shown)) turn rows i4 j4 col due parts .un (.sh bigD) (.sh (.list (e.pl.map (pD [])))) (.sh (tupR rs)) .un .un .un .un) (g := g4) (i := 1) (k := 0) (me := mVar 15) (xs := e.pl.map (pD [])) rfl (by rw [c4.1]; rfl) rfl (by rw [pl_subs]; simp) (by rw [List.length_map]; omega)
  obtain ⟨p, hp, rfl⟩ := List.mem_map.mp hy
  have c5' : g5.c = g.c := c5.trans c4.1
  refine tr_seq (g1 := g5) (asg_e (d := pD [] p) e5 rfl) ?_
  change Tr _ (LW g.c (.sh (.str kd.s)) (.sh e.d) (.sh (.str e.d.shown)) turn rows i4 j4 col due parts (.sh p.2.d) (.sh bigD) (.sh (.list (e.pl.map (pD [])))) (.sh (tupR rs)) (.sh (pathD p.1)) .un .un .un) g5
  obtain ⟨u1, u2⟩ := put_e (Ex.val (.int 5)) 6 e p (by omega) hp
  have u3 := (put_e p.2 6 e p (by omega) hp).1
  rw [put_self e p hp] at u3
  obtain ⟨hn1, hn2⟩ := put_nice (x := Ex.val (.int 5)) (show Nice (.val (.int 5)) from rfl) p.1 hw.nice
  have hh0 : (Ex.val (.int 5)).h = 0 := rfl
  have niP : Ni 64 (Ex.put (Ex.val (.int 5)) e p.1).d := (nice_ni hn1).mono (by omega)
  have niE : Ni 64 e.d := (nice_ni hw.nice).mono (by omega)
  refine tr_seq (g1 := g5) (if_no (or_f (opT_e (call_e (xs := [e.d, pathD p.1, (Ex.val (.int 5)).d]) (cons_e rfl (cons_e rfl (cons_e rfl nil_e))) ?v1) (call_e (xs := [e.d, pathD p.1, (Ex.val (.int 5)).d]) (cons_e rfl (cons_e rfl (cons_e rfl nil_e))) ?v2) (niP.ne (Nat.le_refl _))) (opT_e (call_e (xs := [e.d, pathD p.1, p.2.d]) (cons_e rfl (cons_e rfl (cons_e rfl nil_e))) ?v3) rfl (niE.ne (Nat.le_refl _))))) ?_
  case v1 => exact u1
  case v2 => exact u2
  case v3 => exact u3
  obtain ⟨w1, w2⟩ := conj_e 6 e (by omega) (by omega)
  have niC : Ni 64 (.list (e.cj.map Ex.d)) := (ni_list (n := 10) fun x hx => by
    obtain ⟨a, ha, rfl⟩ := List.mem_map.mp hx
    obtain ⟨k', n', h1, h2⟩ := cj_wt hw a ha
    have := h2.hgt
    exact (nice_ni h2.nice).mono (by omega)).mono (by decide)
  refine tr_seq (g1 := g5) (if_no (or_f (opT_e (call_e (xs := [e.d]) (cons_e rfl nil_e) ?z1) (call_e (xs := [e.d]) (cons_e rfl nil_e) ?z2) (niC.ne (Nat.le_refl _))) (or_f (opT_e (x := .list []) (call_e (xs := [.none]) (cons_e rfl nil_e) ?z3) (L_e (lst_e nil_e)) rfl) (opT_e (x := .none) (call_e (xs := [.list []]) (cons_e (L_e (lst_e nil_e)) nil_e) ?z4) rfl rfl)))) ?_
  case z1 => exact w1
  case z2 => exact w2
  case z3 => exact conj_none
  case z4 => exact joined_nil
  obtain ⟨m, g6, e6, m0, m1, c6⟩ := drawn (env := LW g.c (.sh (.str kd.s)) (.sh e.d) (.sh (.str e.d.shown)) turn rows i4 j4 col due parts (.sh p.2.d) (.sh bigD) (.sh (.list (e.pl.map (pD [])))) (.sh (tupR rs)) (.sh (pathD p.1)) .un .un .un) (g := g5) (i := 1) (k := 0) (me := mC (.int 3)) (m := 3) rfl (by rw [c5']; rfl) rfl (by decide)
  obtain ⟨r, rfl⟩ := Int.eq_ofNat_of_zero_le m0
  let xs : List D := ([(Ex.cell 1 1).d, e.d] : List D).take r
  have hxs : xs.length ≤ 2 := by show (List.take r _).length ≤ 2; rw [List.length_take]; exact Nat.min_le_right _ _
  have hcut : cut [(Ex.val (.bool true)).d, (Ex.cell 1 1).d, e.d] none (some ((1 + r : Nat) : Int)) = (Ex.val (.bool true)).d :: xs := by
    rw [cut_to, Nat.add_comm]
    rfl
  refine tr_seq (g1 := g6) (set_e (d := .list ((Ex.val (.bool true)).d :: xs)) (L_e ((slL_e (xs := [(Ex.val (.bool true)).d, (Ex.cell 1 1).d, e.d]) (h := some ((1 + r : Nat) : Int)) (L_e (lst_e (cons_e rfl (cons_e rfl (cons_e rfl nil_e))))) rfl (part_e (op_e rfl e6 (congrArg (fun z => some (PyData.int z)) (show (1 : Int) + (r : Int) = ((1 + r : Nat) : Int) by omega))))).trans (by rw [hcut])))) ?_
  refine tr_seq (g1 := g6) (set_e (d := (Ex.val (.bool true)).d) (op_e rfl rfl (ix_nat (j := 0) rfl))) ?_
  obtain ⟨o', hlp⟩ := last_loop (c := g.c) (k := .sh (.str kd.s)) (t := .sh e.d) (kept := .sh (.str e.d.shown)) (turn := turn) (rows := rows) (i := i4) (j := j4) (col := col) (parts := parts) (part := .sh p.2.d) (big := .sh bigD) (pls := .sh (.list (e.pl.map (pD [])))) (found := .sh (tupR rs)) (path := .sh (pathD p.1)) (cell := .un) (some := .sh (.list ((Ex.val (.bool true)).d :: xs))) (g := g6) (xs := xs) (x := (Ex.val (.bool true)).d) (p := .un)
  refine tr_seq (g1 := g6) (for_e (itL_e (L_e ((slL_e (xs := (Ex.val (.bool true)).d :: xs) (l := some 1) (h := none) rfl (part_e rfl) rfl).trans (congrArg (fun z => some (z, g6)) (cut_from ((Ex.val (.bool true)).d :: xs) 1))))) hlp) ?_
  have niJ : Ni 64 (joinF (Ex.val (.bool true)).d xs) := (join_ni (n := 10) (m := 10) ((nice_ni (e := .val (.bool true)) rfl).mono (by show 0 + 3 ≤ 10; decide)) (Nat.le_refl _) fun y hy => by
    have hy := List.mem_of_mem_take hy
    simp only [List.mem_cons, List.not_mem_nil, or_false] at hy
    rcases hy with rfl | rfl
    · exact (nice_ni (e := .cell 1 1) trivial).mono (by show 0 + 3 ≤ 10; decide)
    · exact (nice_ni hw.nice).mono (by omega)).mono (by omega)
  refine tr_ret (g1 := g6) (band_t (op_e (call_e (xs := [.list ((Ex.val (.bool true)).d :: xs)]) (cons_e rfl nil_e) ?j1) rfl (niJ.eq (Nat.le_refl _))) (op_e (call_e (xs := [e.d]) (cons_e rfl nil_e) ?j2) rfl (str_eq _)))
  case j1 => exact joined_e _ _
  case j2 => exact hrepr
end K30

namespace K30
open PySem PySem.Spec L2 Pd
section
variable {P : Program} {wd : World} {K : PySem.W.Frag} {mg : Str → Option Value} {base : Heap}
theorem ok_law {f : Addr} {fd : FuncData} (F : Fun K "law" "law" s_law f fd) (T : Txt K mg) {H : Hp} {s1 : Shared} {a : Addr} {ns : List Int} (hl : ns.length ≤ 63) (hS : SqL K H a (ns.map V.int)) (e0 : Env0 P wd K mg base callerA [] s1 H)
    (hb : ∀ (s : Shared) (v : Value), BindsTo s fd ⟨[v], []⟩ [("script", v)]) : codeAny (model P wd) callerA (.call (.ref f) ⟨[.ref a], []⟩) (CR CX0 [] P wd H s1 (fun v _ => v = .bl true) fun _ _ _ => False) s1 := by
  obtain ⟨oc, od, kV, doc, pm, an, cdv, ct, osl, rfl, lk, hcd⟩ := F.ex
  refine run_at (N := n_law) (ps := ["script"]) (us := [.ref a]) (vs := [.ref a]) (k := 10) lk hcd sc_law ⟨rfl, by decide, by decide⟩ e0 (hb s1 (.ref a)) (.cons rfl .nil) rfl ⟨_, (pss_cons (ps_set (i := 1) sc_law.nd rfl (by first | exact Or.inl rfl | exact Or.inr rfl) (pe_lst (pa_cons pe_int (pa_cons pe_int pa_nil))))
    (body_law T f cdv callerA [] s1 H (fun _ _ _ => False) (Room.deeper (k := 10) ⟨rfl, by decide, by decide⟩ _) rfl)).nox, ?_⟩
  refine ⟨(by show 2 ≤ sizeLine; decide), fun q hq => ?_⟩
  obtain ⟨g, rfl, rfl, rfl, ok⟩ := drC_new hS hq
  exact law_startC (N := n_law.length) (i := 1) rfl rfl rfl ok (law_true g hl) fun H' => rfl
end
theorem all_mk {l : PySem.W.OpenLaw} {w : World} {K : PySem.W.Frag} {h : Heap} {mg : Str → Option Value} {fa : Addr} (X : K.In h) (G : h.Ns mainGlobals mg) (hfa : mg "law" = some (.ref fa))
    {f0 : Addr} {od0 an0 : Option Addr} {sl0 : Array (Option Value)} {oc0 kV0 dc0 pm0 cd0 ct0 : Value}
    {f1 : Addr} {od1 an1 : Option Addr} {sl1 : Array (Option Value)} {oc1 kV1 dc1 pm1 cd1 ct1 : Value}
    {f2 : Addr} {od2 an2 : Option Addr} {sl2 : Array (Option Value)} {oc2 kV2 dc2 pm2 cd2 ct2 : Value}
    {f3 : Addr} {od3 an3 : Option Addr} {sl3 : Array (Option Value)} {oc3 kV3 dc3 pm3 cd3 ct3 : Value}
    {f4 : Addr} {od4 an4 : Option Addr} {sl4 : Array (Option Value)} {oc4 kV4 dc4 pm4 cd4 ct4 : Value}
    {f5 : Addr} {od5 an5 : Option Addr} {sl5 : Array (Option Value)} {oc5 kV5 dc5 pm5 cd5 ct5 : Value}
    {f6 : Addr} {od6 an6 : Option Addr} {sl6 : Array (Option Value)} {oc6 kV6 dc6 pm6 cd6 ct6 : Value}
    {f7 : Addr} {od7 an7 : Option Addr} {sl7 : Array (Option Value)} {oc7 kV7 dc7 pm7 cd7 ct7 : Value}
    {f8 : Addr} {od8 an8 : Option Addr} {sl8 : Array (Option Value)} {oc8 kV8 dc8 pm8 cd8 ct8 : Value}
    {f9 : Addr} {od9 an9 : Option Addr} {sl9 : Array (Option Value)} {oc9 kV9 dc9 pm9 cd9 ct9 : Value}
    {f10 : Addr} {od10 an10 : Option Addr} {sl10 : Array (Option Value)} {oc10 kV10 dc10 pm10 cd10 ct10 : Value}
    {f11 : Addr} {od11 an11 : Option Addr} {sl11 : Array (Option Value)} {oc11 kV11 dc11 pm11 cd11 ct11 : Value}
    {f12 : Addr} {od12 an12 : Option Addr} {sl12 : Array (Option Value)} {oc12 kV12 dc12 pm12 cd12 ct12 : Value}
    {f13 : Addr} {od13 an13 : Option Addr} {sl13 : Array (Option Value)} {oc13 kV13 dc13 pm13 cd13 ct13 : Value}
    {f14 : Addr} {od14 an14 : Option Addr} {sl14 : Array (Option Value)} {oc14 kV14 dc14 pm14 cd14 ct14 : Value}
    {f15 : Addr} {od15 an15 : Option Addr} {sl15 : Array (Option Value)} {oc15 kV15 dc15 pm15 cd15 ct15 : Value}
    {f16 : Addr} {od16 an16 : Option Addr} {sl16 : Array (Option Value)} {oc16 kV16 dc16 pm16 cd16 ct16 : Value}
    {f17 : Addr} {od17 an17 : Option Addr} {sl17 : Array (Option Value)} {oc17 kV17 dc17 pm17 cd17 ct17 : Value}
    {f18 : Addr} {od18 an18 : Option Addr} {sl18 : Array (Option Value)} {oc18 kV18 dc18 pm18 cd18 ct18 : Value}
    {f19 : Addr} {od19 an19 : Option Addr} {sl19 : Array (Option Value)} {oc19 kV19 dc19 pm19 cd19 ct19 : Value}
    {f20 : Addr} {od20 an20 : Option Addr} {sl20 : Array (Option Value)} {oc20 kV20 dc20 pm20 cd20 ct20 : Value}
    {f21 : Addr} {od21 an21 : Option Addr} {sl21 : Array (Option Value)} {oc21 kV21 dc21 pm21 cd21 ct21 : Value}
    {f22 : Addr} {od22 an22 : Option Addr} {sl22 : Array (Option Value)} {oc22 kV22 dc22 pm22 cd22 ct22 : Value}
    {f23 : Addr} {od23 an23 : Option Addr} {sl23 : Array (Option Value)} {oc23 kV23 dc23 pm23 cd23 ct23 : Value}
    {f24 : Addr} {od24 an24 : Option Addr} {sl24 : Array (Option Value)} {oc24 kV24 dc24 pm24 cd24 ct24 : Value}
    {f25 : Addr} {od25 an25 : Option Addr} {sl25 : Array (Option Value)} {oc25 kV25 dc25 pm25 cd25 ct25 : Value}
    (a0 : PySem.W.nsIn K mainGlobals "turned" = some (some (.ref f0))) (l0 : K.lookup f0 = some ⟨oc0, od0, .func (PySem.W.fnOf "turned" "turned" (defArgs s_turned) (defBody s_turned) (defScope s_turned) .none kV0 dc0 pm0 an0 cd0 ct0), sl0⟩) (c0 : PySem.W.codeIn K cd0 "turned" = true) (k0 : PySem.W.keepIn K (.ref f0) = true)
    (a1 : PySem.W.nsIn K mainGlobals "both" = some (some (.ref f1))) (l1 : K.lookup f1 = some ⟨oc1, od1, .func (PySem.W.fnOf "both" "both" (defArgs s_both) (defBody s_both) (defScope s_both) .none kV1 dc1 pm1 an1 cd1 ct1), sl1⟩) (c1 : PySem.W.codeIn K cd1 "both" = true) (k1 : PySem.W.keepIn K (.ref f1) = true)
    (a2 : PySem.W.nsIn K mainGlobals "either" = some (some (.ref f2))) (l2 : K.lookup f2 = some ⟨oc2, od2, .func (PySem.W.fnOf "either" "either" (defArgs s_either) (defBody s_either) (defScope s_either) .none kV2 dc2 pm2 an2 cd2 ct2), sl2⟩) (c2 : PySem.W.codeIn K cd2 "either" = true) (k2 : PySem.W.keepIn K (.ref f2) = true)
    (a3 : PySem.W.nsIn K mainGlobals "reckoned" = some (some (.ref f3))) (l3 : K.lookup f3 = some ⟨oc3, od3, .func (PySem.W.fnOf "reckoned" "reckoned" (defArgs s_reckoned) (defBody s_reckoned) (defScope s_reckoned) .none kV3 dc3 pm3 an3 cd3 ct3), sl3⟩) (c3 : PySem.W.codeIn K cd3 "reckoned" = true) (k3 : PySem.W.keepIn K (.ref f3) = true)
    (a4 : PySem.W.nsIn K mainGlobals "among" = some (some (.ref f4))) (l4 : K.lookup f4 = some ⟨oc4, od4, .func (PySem.W.fnOf "among" "among" (defArgs s_among) (defBody s_among) (defScope s_among) .none kV4 dc4 pm4 an4 cd4 ct4), sl4⟩) (c4 : PySem.W.codeIn K cd4 "among" = true) (k4 : PySem.W.keepIn K (.ref f4) = true)
    (a5 : PySem.W.nsIn K mainGlobals "value_of" = some (some (.ref f5))) (l5 : K.lookup f5 = some ⟨oc5, od5, .func (PySem.W.fnOf "value_of" "value_of" (defArgs s_value_of) (defBody s_value_of) (defScope s_value_of) .none kV5 dc5 pm5 an5 cd5 ct5), sl5⟩) (c5 : PySem.W.codeIn K cd5 "value_of" = true) (k5 : PySem.W.keepIn K (.ref f5) = true)
    (a6 : PySem.W.nsIn K mainGlobals "is_met" = some (some (.ref f6))) (l6 : K.lookup f6 = some ⟨oc6, od6, .func (PySem.W.fnOf "is_met" "is_met" (defArgs s_is_met) (defBody s_is_met) (defScope s_is_met) .none kV6 dc6 pm6 an6 cd6 ct6), sl6⟩) (c6 : PySem.W.codeIn K cd6 "is_met" = true) (k6 : PySem.W.keepIn K (.ref f6) = true)
    (a7 : PySem.W.nsIn K mainGlobals "parts_of" = some (some (.ref f7))) (l7 : K.lookup f7 = some ⟨oc7, od7, .func (PySem.W.fnOf "parts_of" "parts_of" (defArgs s_parts_of) (defBody s_parts_of) (defScope s_parts_of) .none kV7 dc7 pm7 an7 cd7 ct7), sl7⟩) (c7 : PySem.W.codeIn K cd7 "parts_of" = true) (k7 : PySem.W.keepIn K (.ref f7) = true)
    (a8 : PySem.W.nsIn K mainGlobals "places_of" = some (some (.ref f8))) (l8 : K.lookup f8 = some ⟨oc8, od8, .func (PySem.W.fnOf "places_of" "places_of" (defArgs s_places_of) (defBody s_places_of) (defScope s_places_of) .none kV8 dc8 pm8 an8 cd8 ct8), sl8⟩) (c8 : PySem.W.codeIn K cd8 "places_of" = true) (k8 : PySem.W.keepIn K (.ref f8) = true)
    (a9 : PySem.W.nsIn K mainGlobals "put_at" = some (some (.ref f9))) (l9 : K.lookup f9 = some ⟨oc9, od9, .func (PySem.W.fnOf "put_at" "put_at" (defArgs s_put_at) (defBody s_put_at) (defScope s_put_at) .none kV9 dc9 pm9 an9 cd9 ct9), sl9⟩) (c9 : PySem.W.codeIn K cd9 "put_at" = true) (k9 : PySem.W.keepIn K (.ref f9) = true)
    (a10 : PySem.W.nsIn K mainGlobals "cells_of" = some (some (.ref f10))) (l10 : K.lookup f10 = some ⟨oc10, od10, .func (PySem.W.fnOf "cells_of" "cells_of" (defArgs s_cells_of) (defBody s_cells_of) (defScope s_cells_of) .none kV10 dc10 pm10 an10 cd10 ct10), sl10⟩) (c10 : PySem.W.codeIn K cd10 "cells_of" = true) (k10 : PySem.W.keepIn K (.ref f10) = true)
    (a11 : PySem.W.nsIn K mainGlobals "tables_of" = some (some (.ref f11))) (l11 : K.lookup f11 = some ⟨oc11, od11, .func (PySem.W.fnOf "tables_of" "tables_of" (defArgs s_tables_of) (defBody s_tables_of) (defScope s_tables_of) .none kV11 dc11 pm11 an11 cd11 ct11), sl11⟩) (c11 : PySem.W.codeIn K cd11 "tables_of" = true) (k11 : PySem.W.keepIn K (.ref f11) = true)
    (a12 : PySem.W.nsIn K mainGlobals "conjuncts" = some (some (.ref f12))) (l12 : K.lookup f12 = some ⟨oc12, od12, .func (PySem.W.fnOf "conjuncts" "conjuncts" (defArgs s_conjuncts) (defBody s_conjuncts) (defScope s_conjuncts) .none kV12 dc12 pm12 an12 cd12 ct12), sl12⟩) (c12 : PySem.W.codeIn K cd12 "conjuncts" = true) (k12 : PySem.W.keepIn K (.ref f12) = true)
    (a13 : PySem.W.nsIn K mainGlobals "joined" = some (some (.ref f13))) (l13 : K.lookup f13 = some ⟨oc13, od13, .func (PySem.W.fnOf "joined" "joined" (defArgs s_joined) (defBody s_joined) (defScope s_joined) .none kV13 dc13 pm13 an13 cd13 ct13), sl13⟩) (c13 : PySem.W.codeIn K cd13 "joined" = true) (k13 : PySem.W.keepIn K (.ref f13) = true)
    (a14 : PySem.W.nsIn K mainGlobals "size_of" = some (some (.ref f14))) (l14 : K.lookup f14 = some ⟨oc14, od14, .func (PySem.W.fnOf "size_of" "size_of" (defArgs s_size_of) (defBody s_size_of) (defScope s_size_of) .none kV14 dc14 pm14 an14 cd14 ct14), sl14⟩) (c14 : PySem.W.codeIn K cd14 "size_of" = true) (k14 : PySem.W.keepIn K (.ref f14) = true)
    (a15 : PySem.W.nsIn K mainGlobals "_law_draw" = some (some (.ref f15))) (l15 : K.lookup f15 = some ⟨oc15, od15, .func (PySem.W.fnOf "_law_draw" "_law_draw" (defArgs s__law_draw) (defBody s__law_draw) (defScope s__law_draw) .none kV15 dc15 pm15 an15 cd15 ct15), sl15⟩) (c15 : PySem.W.codeIn K cd15 "_law_draw" = true) (k15 : PySem.W.keepIn K (.ref f15) = true)
    (a16 : PySem.W.nsIn K mainGlobals "_law_pick" = some (some (.ref f16))) (l16 : K.lookup f16 = some ⟨oc16, od16, .func (PySem.W.fnOf "_law_pick" "_law_pick" (defArgs s__law_pick) (defBody s__law_pick) (defScope s__law_pick) .none kV16 dc16 pm16 an16 cd16 ct16), sl16⟩) (c16 : PySem.W.codeIn K cd16 "_law_pick" = true) (k16 : PySem.W.keepIn K (.ref f16) = true)
    (a17 : PySem.W.nsIn K mainGlobals "_law_some" = some (some (.ref f17))) (l17 : K.lookup f17 = some ⟨oc17, od17, .func (PySem.W.fnOf "_law_some" "_law_some" (defArgs s__law_some) (defBody s__law_some) (defScope s__law_some) .none kV17 dc17 pm17 an17 cd17 ct17), sl17⟩) (c17 : PySem.W.codeIn K cd17 "_law_some" = true) (k17 : PySem.W.keepIn K (.ref f17) = true)
    (a18 : PySem.W.nsIn K mainGlobals "_law_leaf" = some (some (.ref f18))) (l18 : K.lookup f18 = some ⟨oc18, od18, .func (PySem.W.fnOf "_law_leaf" "_law_leaf" (defArgs s__law_leaf) (defBody s__law_leaf) (defScope s__law_leaf) .none kV18 dc18 pm18 an18 cd18 ct18), sl18⟩) (c18 : PySem.W.codeIn K cd18 "_law_leaf" = true) (k18 : PySem.W.keepIn K (.ref f18) = true)
    (a19 : PySem.W.nsIn K mainGlobals "_law_expr" = some (some (.ref f19))) (l19 : K.lookup f19 = some ⟨oc19, od19, .func (PySem.W.fnOf "_law_expr" "_law_expr" (defArgs s__law_expr) (defBody s__law_expr) (defScope s__law_expr) .none kV19 dc19 pm19 an19 cd19 ct19), sl19⟩) (c19 : PySem.W.codeIn K cd19 "_law_expr" = true) (k19 : PySem.W.keepIn K (.ref f19) = true)
    (a20 : PySem.W.nsIn K mainGlobals "_law_val" = some (some (.ref f20))) (l20 : K.lookup f20 = some ⟨oc20, od20, .func (PySem.W.fnOf "_law_val" "_law_val" (defArgs s__law_val) (defBody s__law_val) (defScope s__law_val) .none kV20 dc20 pm20 an20 cd20 ct20), sl20⟩) (c20 : PySem.W.codeIn K cd20 "_law_val" = true) (k20 : PySem.W.keepIn K (.ref f20) = true)
    (a21 : PySem.W.nsIn K mainGlobals "_law_within" = some (some (.ref f21))) (l21 : K.lookup f21 = some ⟨oc21, od21, .func (PySem.W.fnOf "_law_within" "_law_within" (defArgs s__law_within) (defBody s__law_within) (defScope s__law_within) .none kV21 dc21 pm21 an21 cd21 ct21), sl21⟩) (c21 : PySem.W.codeIn K cd21 "_law_within" = true) (k21 : PySem.W.keepIn K (.ref f21) = true)
    (a22 : PySem.W.nsIn K mainGlobals "_law_places" = some (some (.ref f22))) (l22 : K.lookup f22 = some ⟨oc22, od22, .func (PySem.W.fnOf "_law_places" "_law_places" (defArgs s__law_places) (defBody s__law_places) (defScope s__law_places) .none kV22 dc22 pm22 an22 cd22 ct22), sl22⟩) (c22 : PySem.W.codeIn K cd22 "_law_places" = true) (k22 : PySem.W.keepIn K (.ref f22) = true)
    (a23 : PySem.W.nsIn K mainGlobals "_law_put" = some (some (.ref f23))) (l23 : K.lookup f23 = some ⟨oc23, od23, .func (PySem.W.fnOf "_law_put" "_law_put" (defArgs s__law_put) (defBody s__law_put) (defScope s__law_put) .none kV23 dc23 pm23 an23 cd23 ct23), sl23⟩) (c23 : PySem.W.codeIn K cd23 "_law_put" = true) (k23 : PySem.W.keepIn K (.ref f23) = true)
    (a24 : PySem.W.nsIn K mainGlobals "_law_parts" = some (some (.ref f24))) (l24 : K.lookup f24 = some ⟨oc24, od24, .func (PySem.W.fnOf "_law_parts" "_law_parts" (defArgs s__law_parts) (defBody s__law_parts) (defScope s__law_parts) .none kV24 dc24 pm24 an24 cd24 ct24), sl24⟩) (c24 : PySem.W.codeIn K cd24 "_law_parts" = true) (k24 : PySem.W.keepIn K (.ref f24) = true)
    (a25 : PySem.W.nsIn K mainGlobals "law" = some (some (.ref f25))) (l25 : K.lookup f25 = some ⟨oc25, od25, .func (PySem.W.fnOf "law" "law" (defArgs s_law) (defBody s_law) (defScope s_law) .none kV25 dc25 pm25 an25 cd25 ct25), sl25⟩) (c25 : PySem.W.codeIn K cd25 "law" = true) (k25 : PySem.W.keepIn K (.ref f25) = true)
    (z0 : PySem.W.nsIn K mainGlobals "int" = some none)
    (z1 : PySem.W.nsIn K mainGlobals "len" = some none)
    (z2 : PySem.W.nsIn K mainGlobals "list" = some none)
    (z3 : PySem.W.nsIn K mainGlobals "range" = some none)
    (z4 : PySem.W.nsIn K mainGlobals "repr" = some none)
    (z5 : PySem.W.nsIn K mainGlobals "set" = some none)
    (z6 : PySem.W.nsIn K mainGlobals "sorted" = some none)
    (z7 : PySem.W.nsIn K mainGlobals "tuple" = some none) :
    ∃ fd : FuncData, (∀ (s : Shared) (v : Value), BindsTo s fd ⟨[v], []⟩ [("script", v)]) ∧ ∀ (base : Heap) (H : Hp) (s1 : Shared) (a : Addr) (ns : List Int), ns.length ≤ 63 → SqL K H a (ns.map V.int) → Env0 l.prog w K mg base callerA [] s1 H → codeAny (model l.prog w) callerA (.call (.ref fa) ⟨[.ref a], []⟩) (CR CX0 [] l.prog w H s1 (fun v _ => v = .bl true) fun _ _ _ => False) s1 := by
  have e := hfa.symm.trans (PySem.W.mg_of X G a25)
  cases e
  have F0 := fun_mk (st := s_turned) l0 c0 k0
  have F1 := fun_mk (st := s_both) l1 c1 k1
  have F2 := fun_mk (st := s_either) l2 c2 k2
  have F3 := fun_mk (st := s_reckoned) l3 c3 k3
  have F4 := fun_mk (st := s_among) l4 c4 k4
  have F5 := fun_mk (st := s_value_of) l5 c5 k5
  have F6 := fun_mk (st := s_is_met) l6 c6 k6
  have F7 := fun_mk (st := s_parts_of) l7 c7 k7
  have F8 := fun_mk (st := s_places_of) l8 c8 k8
  have F9 := fun_mk (st := s_put_at) l9 c9 k9
  have F10 := fun_mk (st := s_cells_of) l10 c10 k10
  have F11 := fun_mk (st := s_tables_of) l11 c11 k11
  have F12 := fun_mk (st := s_conjuncts) l12 c12 k12
  have F13 := fun_mk (st := s_joined) l13 c13 k13
  have F14 := fun_mk (st := s_size_of) l14 c14 k14
  have F15 := fun_mk (st := s__law_draw) l15 c15 k15
  have F16 := fun_mk (st := s__law_pick) l16 c16 k16
  have F17 := fun_mk (st := s__law_some) l17 c17 k17
  have F18 := fun_mk (st := s__law_leaf) l18 c18 k18
  have F19 := fun_mk (st := s__law_expr) l19 c19 k19
  have F20 := fun_mk (st := s__law_val) l20 c20 k20
  have F21 := fun_mk (st := s__law_within) l21 c21 k21
  have F22 := fun_mk (st := s__law_places) l22 c22 k22
  have F23 := fun_mk (st := s__law_put) l23 c23 k23
  have F24 := fun_mk (st := s__law_parts) l24 c24 k24
  have T : Txt K mg := ⟨⟨⟨f0, _, F0, PySem.W.mg_of X G a0, F0.binds (ps := ["value"]) fun _ _ _ _ _ _ us hl => match us, hl with | [_], _ => rfl⟩⟩,
    ⟨⟨f1, _, F1, PySem.W.mg_of X G a1, F1.binds (ps := ["one", "other"]) fun _ _ _ _ _ _ us hl => match us, hl with | [_, _], _ => rfl⟩⟩,
    ⟨⟨f2, _, F2, PySem.W.mg_of X G a2, F2.binds (ps := ["one", "other"]) fun _ _ _ _ _ _ us hl => match us, hl with | [_, _], _ => rfl⟩⟩,
    ⟨⟨f3, _, F3, PySem.W.mg_of X G a3, F3.binds (ps := ["word", "one", "other"]) fun _ _ _ _ _ _ us hl => match us, hl with | [_, _, _], _ => rfl⟩⟩,
    ⟨⟨f4, _, F4, PySem.W.mg_of X G a4, F4.binds (ps := ["value", "values"]) fun _ _ _ _ _ _ us hl => match us, hl with | [_, _], _ => rfl⟩⟩,
    ⟨⟨f5, _, F5, PySem.W.mg_of X G a5, F5.binds (ps := ["tree", "rows", "fields"]) fun _ _ _ _ _ _ us hl => match us, hl with | [_, _, _], _ => rfl⟩⟩,
    ⟨⟨f6, _, F6, PySem.W.mg_of X G a6, F6.binds (ps := ["tree", "rows", "fields"]) fun _ _ _ _ _ _ us hl => match us, hl with | [_, _, _], _ => rfl⟩⟩,
    ⟨⟨f7, _, F7, PySem.W.mg_of X G a7, F7.binds (ps := ["tree"]) fun _ _ _ _ _ _ us hl => match us, hl with | [_], _ => rfl⟩⟩,
    ⟨⟨f8, _, F8, PySem.W.mg_of X G a8, F8.binds (ps := ["tree"]) fun _ _ _ _ _ _ us hl => match us, hl with | [_], _ => rfl⟩⟩,
    ⟨⟨f9, _, F9, PySem.W.mg_of X G a9, F9.binds (ps := ["tree", "path", "part"]) fun _ _ _ _ _ _ us hl => match us, hl with | [_, _, _], _ => rfl⟩⟩,
    ⟨⟨f10, _, F10, PySem.W.mg_of X G a10, F10.binds (ps := ["tree"]) fun _ _ _ _ _ _ us hl => match us, hl with | [_], _ => rfl⟩⟩,
    ⟨⟨f11, _, F11, PySem.W.mg_of X G a11, F11.binds (ps := ["tree"]) fun _ _ _ _ _ _ us hl => match us, hl with | [_], _ => rfl⟩⟩,
    ⟨⟨f12, _, F12, PySem.W.mg_of X G a12, F12.binds (ps := ["tree"]) fun _ _ _ _ _ _ us hl => match us, hl with | [_], _ => rfl⟩⟩,
    ⟨⟨f13, _, F13, PySem.W.mg_of X G a13, F13.binds (ps := ["parts"]) fun _ _ _ _ _ _ us hl => match us, hl with | [_], _ => rfl⟩⟩,
    ⟨⟨f14, _, F14, PySem.W.mg_of X G a14, F14.binds (ps := ["tree"]) fun _ _ _ _ _ _ us hl => match us, hl with | [_], _ => rfl⟩⟩,
    ⟨⟨f15, _, F15, PySem.W.mg_of X G a15, F15.binds (ps := ["state", "script", "size"]) fun _ _ _ _ _ _ us hl => match us, hl with | [_, _, _], _ => rfl⟩⟩,
    ⟨⟨f16, _, F16, PySem.W.mg_of X G a16, F16.binds (ps := ["state", "script", "items"]) fun _ _ _ _ _ _ us hl => match us, hl with | [_, _, _], _ => rfl⟩⟩,
    ⟨⟨f17, _, F17, PySem.W.mg_of X G a17, F17.binds (ps := ["state", "script", "kind"]) fun _ _ _ _ _ _ us hl => match us, hl with | [_, _, _], _ => rfl⟩⟩,
    ⟨⟨f18, _, F18, PySem.W.mg_of X G a18, F18.binds (ps := ["state", "script", "kind", "cells"]) fun _ _ _ _ _ _ us hl => match us, hl with | [_, _, _, _], _ => rfl⟩⟩,
    ⟨⟨f19, _, F19, PySem.W.mg_of X G a19, F19.binds (ps := ["state", "script", "kind", "cells", "fuel"]) fun _ _ _ _ _ _ us hl => match us, hl with | [_, _, _, _, _], _ => rfl⟩⟩,
    ⟨⟨f20, _, F20, PySem.W.mg_of X G a20, F20.binds (ps := ["tree", "rows", "fields"]) fun _ _ _ _ _ _ us hl => match us, hl with | [_, _, _], _ => rfl⟩⟩,
    ⟨⟨f21, _, F21, PySem.W.mg_of X G a21, F21.binds (ps := ["tree"]) fun _ _ _ _ _ _ us hl => match us, hl with | [_], _ => rfl⟩⟩,
    ⟨⟨f22, _, F22, PySem.W.mg_of X G a22, F22.binds (ps := ["tree", "path"]) fun _ _ _ _ _ _ us hl => match us, hl with | [_, _], _ => rfl⟩⟩,
    ⟨⟨f23, _, F23, PySem.W.mg_of X G a23, F23.binds (ps := ["tree", "path", "part"]) fun _ _ _ _ _ _ us hl => match us, hl with | [_, _, _], _ => rfl⟩⟩,
    ⟨⟨f24, _, F24, PySem.W.mg_of X G a24, F24.binds (ps := ["tree"]) fun _ _ _ _ _ _ us hl => match us, hl with | [_], _ => rfl⟩⟩,
    PySem.W.mg_none_of X G z0,
    PySem.W.mg_none_of X G z1,
    PySem.W.mg_none_of X G z2,
    PySem.W.mg_none_of X G z3,
    PySem.W.mg_none_of X G z4,
    PySem.W.mg_none_of X G z5,
    PySem.W.mg_none_of X G z6,
    PySem.W.mg_none_of X G z7⟩
  have FL := fun_mk (st := s_law) l25 c25 k25
  exact ⟨PySem.W.fnOf "law" "law" (defArgs s_law) (defBody s_law) (defScope s_law) .none kV25 dc25 pm25 an25 cd25 ct25, fun s v => .of_eq rfl, fun base H s1 a ns hl hS e0 => ok_law FL T hl hS e0 fun s v => .of_eq rfl⟩
theorem walk {l : PySem.W.OpenLaw} {q : Program} {loose : List Str} {XP : (Str → Option Value) → Heap → Prop} {YP : World → Heap → Prop} {d : DefRec} {K : Params → PySem.W.Frag} (hn : l.most = some 63) (hdf : d.params.defaults = [])
    (hY : ∀ (w : World) (h : Heap), YP w h → (K w.params).In h)
    (F : ∀ (w : World) (mg : Str → Option Value) (fa : Addr) (h : Heap), (K w.params).In h → h.Ns mainGlobals mg → mg d.name = some (.ref fa) →
      ∃ fd : FuncData, (∀ (s : Shared) (u : Value), BindsTo s fd ⟨[u], []⟩ [("script", u)]) ∧ ∀ (base : Heap) (H : Hp) (s1 : Shared) (a : Addr) (ns : List Int), ns.length ≤ 63 → SqL (K w.params) H a (ns.map V.int) → Env0 l.prog w (K w.params) mg base callerA [] s1 H → codeAny (model l.prog w) callerA (.call (.ref fa) ⟨[.ref a], []⟩) (CR CX0 [] l.prog w H s1 (fun v _ => v = .bl true) fun _ _ _ => False) s1) :
    PySem.W.WalkO q loose XP YP l.row.toRowW d [] (fun f vs => PySem.call f vs) :=
  walk_at (n := 63) hn (by decide) hdf hY fun w mg fa h KX G hm => (F w mg fa h KX G hm).choose_spec.2
end K30
open PySem PySem.W PyProof.Rows
set_option maxRecDepth 100000 in
set_option maxHeartbeats 0 in
theorem PySem.Challenge.cw_plainserial_k30_whole_values_of_expressi_holds : PySem.Challenge.rw_plainserial_k30_whole_values_of_expressi.Holds := by
  w_on; o_law; k_head; (case hw => w_witness2)
  k_fill
  refine K30.walk (l := PySem.Challenge.rw_plainserial_k30_whole_values_of_expressi) rfl rfl (fun w h Y => PySem.W.kIn_of Y) ?F
  case F =>
    intro w mg fa h KX G hmg
    refine' K30.all_mk KX G hmg ?a0 ?l0 ?c0 ?k0 ?a1 ?l1 ?c1 ?k1 ?a2 ?l2 ?c2 ?k2 ?a3 ?l3 ?c3 ?k3 ?a4 ?l4 ?c4 ?k4 ?a5 ?l5 ?c5 ?k5 ?a6 ?l6 ?c6 ?k6 ?a7 ?l7 ?c7 ?k7 ?a8 ?l8 ?c8 ?k8 ?a9 ?l9 ?c9 ?k9 ?a10 ?l10 ?c10 ?k10 ?a11 ?l11 ?c11 ?k11 ?a12 ?l12 ?c12 ?k12 ?a13 ?l13 ?c13 ?k13 ?a14 ?l14 ?c14 ?k14 ?a15 ?l15 ?c15 ?k15 ?a16 ?l16 ?c16 ?k16 ?a17 ?l17 ?c17 ?k17 ?a18 ?l18 ?c18 ?k18 ?a19 ?l19 ?c19 ?k19 ?a20 ?l20 ?c20 ?k20 ?a21 ?l21 ?c21 ?k21 ?a22 ?l22 ?c22 ?k22 ?a23 ?l23 ?c23 ?k23 ?a24 ?l24 ?c24 ?k24 ?a25 ?l25 ?c25 ?k25 ?z0 ?z1 ?z2 ?z3 ?z4 ?z5 ?z6 ?z7
    (case a0 => k_is); (case l0 => k_is); (case c0 => k_is); (case k0 => k_is); (case a1 => k_is); (case l1 => k_is); (case c1 => k_is); (case k1 => k_is)
    (case a2 => k_is); (case l2 => k_is); (case c2 => k_is); (case k2 => k_is); (case a3 => k_is); (case l3 => k_is); (case c3 => k_is); (case k3 => k_is)
    (case a4 => k_is); (case l4 => k_is); (case c4 => k_is); (case k4 => k_is); (case a5 => k_is); (case l5 => k_is); (case c5 => k_is); (case k5 => k_is)
    (case a6 => k_is); (case l6 => k_is); (case c6 => k_is); (case k6 => k_is); (case a7 => k_is); (case l7 => k_is); (case c7 => k_is); (case k7 => k_is)
    (case a8 => k_is); (case l8 => k_is); (case c8 => k_is); (case k8 => k_is); (case a9 => k_is); (case l9 => k_is); (case c9 => k_is); (case k9 => k_is)
    (case a10 => k_is); (case l10 => k_is); (case c10 => k_is); (case k10 => k_is); (case a11 => k_is); (case l11 => k_is); (case c11 => k_is); (case k11 => k_is)
    (case a12 => k_is); (case l12 => k_is); (case c12 => k_is); (case k12 => k_is); (case a13 => k_is); (case l13 => k_is); (case c13 => k_is); (case k13 => k_is)
    (case a14 => k_is); (case l14 => k_is); (case c14 => k_is); (case k14 => k_is); (case a15 => k_is); (case l15 => k_is); (case c15 => k_is); (case k15 => k_is)
    (case a16 => k_is); (case l16 => k_is); (case c16 => k_is); (case k16 => k_is); (case a17 => k_is); (case l17 => k_is); (case c17 => k_is); (case k17 => k_is)
    (case a18 => k_is); (case l18 => k_is); (case c18 => k_is); (case k18 => k_is); (case a19 => k_is); (case l19 => k_is); (case c19 => k_is); (case k19 => k_is)
    (case a20 => k_is); (case l20 => k_is); (case c20 => k_is); (case k20 => k_is); (case a21 => k_is); (case l21 => k_is); (case c21 => k_is); (case k21 => k_is)
    (case a22 => k_is); (case l22 => k_is); (case c22 => k_is); (case k22 => k_is); (case a23 => k_is); (case l23 => k_is); (case c23 => k_is); (case k23 => k_is)
    (case a24 => k_is); (case l24 => k_is); (case c24 => k_is); (case k24 => k_is); (case a25 => k_is); (case l25 => k_is); (case c25 => k_is); (case k25 => k_is)
    (case z0 => k_is); (case z1 => k_is); (case z2 => k_is); (case z3 => k_is); (case z4 => k_is); (case z5 => k_is); (case z6 => k_is); (case z7 => k_is)
