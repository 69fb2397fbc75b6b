import PyProof.Rows.All
import Wide.All
import OpenK.AllK
import Wide.FinOn
import HandS.ForMost
import HandS.Evl
import HandS.IsInst
import HandS.Flow
import HandS.Style
import HandS.TupAny
import HandS.Deep
import KE.SortData
import KE.LtSeq
import KE.LtData
import PySem.Challenge.RW_plainserial_k51_whole_keys_in_order
set_option Elab.async false
set_option linter.all false
set_option maxRecDepth 100000
set_option maxHeartbeats 4000000
/-! Pd: pure data over the hand layer: values that stand for PyData, local owned lists, a ghost state. -/
namespace Pd
open PySem PySem.Spec L2

abbrev D := PyData
/-- a text that may be compared, measured -/
def SOk (x : Str) : Prop := x.length ≤ sizeLine ∧ PyData.canLay0 (.str x) = true

/-! ### values that stand for data; what stands never changes -/
mutual
inductive Rp (K : PySem.W.Frag) (H : Hp) : V → D → Prop
  | non : Rp K H .non .none
  | bl (b : Bool) : Rp K H (.bl b) (.bool b)
  | int (i : Int) : Rp K H (.int i) (.int i)
  | str {x : Str} : SOk x → Rp K H (.str x) (.str x)
  | lst {a : Addr} {xs : List V} {ds : List D} : H a = some (.lst xs) → RpA K H xs ds → ds.length ≤ sizeLine → Rp K H (.ref a) (.list ds)
  | tup {a : Addr} {xs : List V} {ds : List D} : SqT K H a xs → RpA K H xs ds → ds.length ≤ sizeLine → Rp K H (.ref a) (.tuple ds)
inductive RpA (K : PySem.W.Frag) (H : Hp) : List V → List D → Prop
  | nil : RpA K H [] []
  | cons {v : V} {vs : List V} {d : D} {ds : List D} : Rp K H v d → RpA K H vs ds → RpA K H (v :: vs) (d :: ds)
end
section
variable {K : PySem.W.Frag} {H H' : Hp}
theorem same_t {a : Addr} {xs : List V} (e : Same H H') (h : SqT K H a xs) : SqT K H' a xs := Evl.ex_t e h
mutual
theorem Rp.mono (e : Same H H') : ∀ {d : D} {v : V}, Rp K H v d → Rp K H' v d
  | .none, _, h => by cases h; exact .non
  | .bool _, _, h => by cases h; exact .bl _
  | .int _, _, h => by cases h; exact .int _
  | .str _, _, h => by cases h with | str h => exact .str h
  | .list ds, _, h => by cases h with | lst a b c => exact .lst (e _ _ a) (RpA.mono e b) c
  | .tuple ds, _, h => by cases h with | tup a b c => exact .tup (same_t e a) (RpA.mono e b) c
  | .dict _, _, h => by cases h
theorem RpA.mono (e : Same H H') : ∀ {ds : List D} {vs : List V}, RpA K H vs ds → RpA K H' vs ds
  | [], _, h => by cases h; exact .nil
  | _ :: _, _, h => by cases h with | cons a b => exact .cons (Rp.mono e a) (RpA.mono e b)
end
mutual
theorem Rp.dp : ∀ {d : D} {v : V}, Rp K H v d → Dp K H v d
  | .none, _, h => by cases h; exact .non
  | .bool _, _, h => by cases h; exact .bl _
  | .int _, _, h => by cases h; exact .int _
  | .str _, _, h => by cases h with | str h => exact .str _
  | .list ds, _, h => by cases h with | lst a b c => exact .lst (SqL.of a) (RpA.dp b)
  | .tuple ds, _, h => by cases h with | tup a b c => exact .tup a (RpA.dp b)
  | .dict _, _, h => by cases h
theorem RpA.dp : ∀ {ds : List D} {vs : List V}, RpA K H vs ds → DpAll K H vs ds
  | [], _, h => by cases h; exact .nil
  | _ :: _, _, h => by cases h with | cons a b => exact .cons (Rp.dp a) (RpA.dp b)
end
mutual
theorem Rp.lay : ∀ {d : D} {v : V}, Rp K H v d → d.canLay0 = true
  | .none, _, h => by simp only [PyData.canLay0]
  | .bool _, _, h => by simp only [PyData.canLay0]
  | .int _, _, h => by simp only [PyData.canLay0]
  | .str _, _, h => by cases h with | str h => exact h.2
  | .list ds, _, h => by cases h with | lst a b c => simp only [PyData.canLay0]; exact RpA.lay b
  | .tuple ds, _, h => by cases h with | tup a b c => simp only [PyData.canLay0]; exact RpA.lay b
  | .dict _, _, h => by cases h
theorem RpA.lay : ∀ {ds : List D} {vs : List V}, RpA K H vs ds → PyData.canLayAll0 ds = true
  | [], _, h => by simp only [PyData.canLayAll0]
  | _ :: _, _, h => by cases h with | cons a b => simp only [PyData.canLayAll0, Rp.lay a, RpA.lay b, Bool.and_self]
end
theorem RpA.len : ∀ {vs : List V} {ds : List D}, RpA K H vs ds → vs.length = ds.length
  | _, _, .nil => rfl
  | _, _, .cons _ b => by rw [List.length_cons, List.length_cons, RpA.len b]
theorem RpA.get : ∀ {vs : List V} {ds : List D} {i : Nat} {d : D}, RpA K H vs ds → ds[i]? = some d → ∃ v, vs[i]? = some v ∧ Rp K H v d
  | _, _, _, _, .nil, e => by simp at e
  | _, _, 0, _, .cons a _, e => by simp at e; subst e; exact ⟨_, rfl, a⟩
  | _, _, i + 1, d, .cons _ b, e => by
    obtain ⟨v, h1, h2⟩ := RpA.get (i := i) (d := d) b (by simpa using e)
    exact ⟨v, by simpa using h1, h2⟩
theorem RpA.getV : ∀ {vs : List V} {ds : List D} {i : Nat} {v : V}, RpA K H vs ds → vs[i]? = some v → ∃ d, ds[i]? = some d ∧ Rp K H v d
  | _, _, _, _, .nil, e => by simp at e
  | _, _, 0, _, .cons a _, e => by simp at e; subst e; exact ⟨_, rfl, a⟩
  | _, _, i + 1, v, .cons _ b, e => by
    obtain ⟨d, h1, h2⟩ := RpA.getV (i := i) (v := v) b (by simpa using e)
    exact ⟨d, by simpa using h1, h2⟩
theorem RpA.append : ∀ {vs us : List V} {ds es : List D}, RpA K H vs ds → RpA K H us es → RpA K H (vs ++ us) (ds ++ es)
  | _, _, _, _, .nil, h => h
  | _, _, _, _, .cons a b, h => .cons a (RpA.append b h)
theorem RpA.one {v : V} {d : D} (h : Rp K H v d) : RpA K H [v] [d] := .cons h .nil
theorem RpA.set {v : V} {d : D} (h : Rp K H v d) : ∀ {vs : List V} {ds : List D} (i : Nat), RpA K H vs ds → RpA K H (vs.set i v) (ds.set i d)
  | _, _, _, .nil => .nil
  | _, _, 0, .cons _ b => .cons h b
  | _, _, i + 1, .cons a b => .cons a (RpA.set h i b)
theorem RpA.take : ∀ {vs : List V} {ds : List D} (n : Nat), RpA K H vs ds → RpA K H (vs.take n) (ds.take n)
  | _, _, 0, _ => .nil
  | _, _, _ + 1, .nil => .nil
  | _, _, n + 1, .cons a b => .cons a (RpA.take n b)
theorem RpA.drop : ∀ {vs : List V} {ds : List D} (n : Nat), RpA K H vs ds → RpA K H (vs.drop n) (ds.drop n)
  | _, _, 0, h => h
  | _, _, _ + 1, .nil => .nil
  | _, _, n + 1, .cons _ b => RpA.drop n b
theorem RpA.reverse : ∀ {vs : List V} {ds : List D}, RpA K H vs ds → RpA K H vs.reverse ds.reverse
  | _, _, .nil => .nil
  | _, _, .cons a b => by rw [List.reverse_cons, List.reverse_cons]; exact (RpA.reverse b).append (.one a)
theorem RpA.flatRep {vs : List V} {ds : List D} (h : RpA K H vs ds) : ∀ n : Nat, RpA K H (List.replicate n vs).flatten (List.replicate n ds).flatten
  | 0 => .nil
  | n + 1 => by rw [List.replicate_succ, List.replicate_succ, List.flatten_cons, List.flatten_cons]; exact h.append (RpA.flatRep h n)
theorem RpA.ints : ∀ {vs : List V} {ns : List Int}, RpA K H vs (ns.map .int) → vs = ns.map V.int
  | _, [], h => by cases h; rfl
  | _, n :: ns, h => by
    cases h with
    | cons a b => cases a; rw [List.map_cons, ← RpA.ints b]
theorem RpA.of_ints : ∀ (ns : List Int), RpA K H (ns.map V.int) (ns.map .int)
  | [] => .nil
  | n :: ns => .cons (.int n) (RpA.of_ints ns)
end

/-! ### a pure step: I what is known to stand, H the heap -/
structure Pst (I H I' H' : Hp) : Prop where
  eI : Same I I'
  eH : Same H H'
  sub : Same I' H'
  ag : ∀ a, H a ≠ none → I' a = I a
section
variable {I H I1 H1 I2 H2 : Hp}
theorem Pst.refl (h : Same I H) : Pst I H I H := ⟨Same.refl _, Same.refl _, h, fun _ _ => rfl⟩
theorem Pst.trans (a : Pst I H I1 H1) (b : Pst I1 H1 I2 H2) : Pst I H I2 H2 := ⟨a.eI.trans b.eI, a.eH.trans b.eH, b.sub, fun x hx => by
  have h1 : H1 x ≠ none := fun z => hx (a.eH.free z)
  rw [b.ag x h1, a.ag x hx]⟩
theorem same_new {H : Hp} {p : Addr} {o : HO} (h : H p = none) : Same H (upd H p o) := Evl.Ex.new h
theorem same_upd {I H : Hp} {p : Addr} {o : HO} (e : Same I H) (h : H p = none) : Same (upd I p o) (upd H p o) := fun b u q => by
  by_cases z : b = p
  · subst z; rw [upd_same] at q ⊢; exact q
  · rw [upd_ne z] at q ⊢; exact e b u q
theorem Pst.new {p : Addr} {o : HO} (e : Same I H) (h : H p = none) : Pst I H (upd I p o) (upd H p o) :=
  ⟨same_new (e.free h), same_new h, same_upd e h, fun a ha => upd_ne fun z => ha (z ▸ h)⟩
end

/-! ### the ghost state -/
structure Gs (G : Type) where
  fp : G → Addr → Prop
  ok : G → Hp → Prop
  root : G → V
  loc : ∀ {g H H'}, (∀ a, fp g a → H' a = H a) → ok g H → ok g H'
  dom : ∀ {g H a}, ok g H → fp g a → H a ≠ none
/-- none -/
def G0 : Gs Unit := ⟨fun _ _ => False, fun _ _ => True, fun _ => .non, fun _ _ => trivial, fun _ h => h.elim⟩

/-- what a slot holds: nothing that is known, data that stands, a list of one's own, the ghost state's root, a value as it is -/
inductive SV where
  | un | sh (d : D) | ow (ds : List D) | st | raw (v : V)
abbrev Env := List SV
abbrev Env.at (env : Env) (i : Nat) : SV := env.getD i .un
/-- the world: what is to be kept, what was known at the entry, what is known to stand, the ghost's places, its root -/
structure Wd where
  H0 : Hp
  I0 : Hp
  I : Hp
  fp : Addr → Prop
  rt : V
abbrev Wd.im (w : Wd) (I : Hp) : Wd := { w with I := I }

def SlotOk (K : PySem.W.Frag) (w : Wd) (σ : St) (H : Hp) (i : Nat) : SV → Prop
  | .un => True
  | .sh d => ∃ v, σ[i]? = some (some v) ∧ Rp K w.I v d
  | .st => σ[i]? = some (some w.rt)
  | .raw v => σ[i]? = some (some v)
  | .ow ds => ∃ p vs, σ[i]? = some (some (.ref p)) ∧ H p = some (.lst vs) ∧ w.I p = none ∧ w.H0 p = none ∧ ¬ w.fp p ∧ RpA K w.I vs ds ∧ ds.length ≤ sizeLine

structure Rel {G : Type} (K : PySem.W.Frag) (S : Gs G) (w : Wd) (env : Env) (g : G) (σ : St) (H : Hp) : Prop where
  e0 : Same w.H0 H
  eI : Same w.I H
  ag : ∀ a o, w.H0 a = some o → w.I a = w.I0 a
  ge : Same w.I0 w.I
  gfp : ∀ a, S.fp g a ↔ w.fp a
  grt : S.root g = w.rt
  gok : S.ok g H
  fI : ∀ a, w.fp a → w.I a = none
  f0 : ∀ a, w.fp a → w.H0 a = none
  len : σ.length = env.length
  slot : ∀ i, SlotOk K w σ H i (env.at i)
  dis : ∀ i j p ds es, i ≠ j → env.at i = .ow ds → env.at j = .ow es → σ[i]? = some (some (.ref p)) → σ[j]? ≠ some (some (.ref p))
section
variable {G : Type} {K : PySem.W.Frag} {S : Gs G} {w : Wd} {env : Env} {g g' : G} {σ : St} {H H' I' : Hp}
theorem SlotOk.pst {i : Nat} {sv : SV} (p : Pst w.I H I' H') (h : SlotOk K w σ H i sv) : SlotOk K (w.im I') σ H' i sv := by
  cases sv with
  | un => trivial
  | sh d => obtain ⟨v, e, r⟩ := h; exact ⟨v, e, r.mono p.eI⟩
  | st => exact h
  | raw v => exact h
  | ow ds =>
    obtain ⟨a, vs, e, hp, hi, h0, hf, r, z⟩ := h
    exact ⟨a, vs, e, p.eH _ _ hp, (p.ag a (by rw [hp]; simp)).trans hi, h0, hf, r.mono p.eI, z⟩
theorem Rel.pst (R : Rel K S w env g σ H) (p : Pst w.I H I' H') : Rel K S (w.im I') env g σ H' where
  e0 := R.e0.trans p.eH
  eI := p.sub
  ag := fun a o e => (p.ag a (by rw [R.e0 a o e]; simp)).trans (R.ag a o e)
  ge := R.ge.trans p.eI
  gfp := R.gfp
  grt := R.grt
  gok := S.loc (fun a ha => by
    cases q : H a with
    | none => exact absurd q (S.dom R.gok ha)
    | some o => exact p.eH a o q) R.gok
  fI := fun a ha => (p.ag a (S.dom R.gok ((R.gfp a).mpr ha))).trans (R.fI a ha)
  f0 := R.f0
  len := R.len
  slot := fun i => (R.slot i).pst p
  dis := R.dis
/-- a new object comes, that nothing knows of -/
theorem Rel.alloc {p : Addr} {o : HO} (R : Rel K S w env g σ H) (h : H p = none) : Rel K S w env g σ (upd H p o) :=
  R.pst (I' := w.I) ⟨Same.refl _, same_new h, R.eI.trans (same_new h), fun _ _ => rfl⟩
/-- p is nobody's -/
structure Nob (w : Wd) (env : Env) (σ : St) (p : Addr) : Prop where
  i : w.I p = none
  h0 : w.H0 p = none
  f : ¬ w.fp p
  o : ∀ i ds, env.at i = .ow ds → σ[i]? ≠ some (some (.ref p))
theorem Rel.nob {p : Addr} (R : Rel K S w env g σ H) (h : H p = none) : Nob w env σ p where
  i := R.eI.free h
  h0 := R.e0.free h
  f := fun z => S.dom R.gok ((R.gfp p).mpr z) h
  o := fun i ds e q => by
    have z := R.slot i
    rw [e] at z
    obtain ⟨a, vs, e1, hp, _⟩ := z
    rw [e1] at q
    cases q
    rw [hp] at h
    cases h
/-- nobody's object is from now on one that stands -/
theorem Rel.freeze {p : Addr} {o : HO} (R : Rel K S w env g σ H) (n : Nob w env σ p) (h : H p = some o) : Rel K S (w.im (upd w.I p o)) env g σ H where
  e0 := R.e0
  eI := fun b u q => by
    have q : upd w.I p o b = some u := q
    by_cases z : b = p
    · subst z; rw [upd_same] at q; rw [h]; exact q
    · rw [upd_ne z] at q; exact R.eI b u q
  ag := fun a u e => by
    have z : a ≠ p := fun z => by rw [z, n.h0] at e; cases e
    exact (upd_ne z).trans (R.ag a u e)
  ge := R.ge.trans (same_new n.i)
  gfp := R.gfp
  grt := R.grt
  gok := R.gok
  fI := fun a ha => by
    have z : a ≠ p := fun z => n.f (z ▸ ha)
    exact (upd_ne z).trans (R.fI a ha)
  f0 := R.f0
  len := R.len
  slot := fun i => by
    have q := R.slot i
    cases e : env.at i with
    | un => trivial
    | sh d => rw [e] at q; obtain ⟨v, e1, r⟩ := q; exact ⟨v, e1, r.mono (same_new n.i)⟩
    | st => rw [e] at q; exact q
    | raw v => rw [e] at q; exact q
    | ow ds =>
      rw [e] at q
      obtain ⟨a, vs, e1, hp, hi, h0, hf, r, z⟩ := q
      have ne : a ≠ p := fun z => n.o i ds e (z ▸ e1)
      exact ⟨a, vs, e1, hp, (upd_ne ne).trans hi, h0, hf, r.mono (same_new n.i), z⟩
  dis := R.dis
end
end Pd

/-! Pd: expressions and tests. -/
namespace Pd
open PySem PySem.Spec L2

/-! ### readings by data -/
abbrev ME (G : Type) := Env → G → Option (D × G)
abbrev ML (G : Type) := Env → G → Option (List D × G)
abbrev MT (G : Type) := Env → G → Option (Bool × G)

def tE {G : Type} (K : PySem.W.Frag) (S : Gs G) (m : ME G) : TE := fun σ H Q => ∃ w env g d g', Rel K S w env g σ H ∧ m env g = some (d, g') ∧
  ∀ v I' H', Same w.I I' → Rel K S (w.im I') env g' σ H' → Rp K I' v d → Q v H'
/-- a new list, that nothing knows of -/
def tF {G : Type} (K : PySem.W.Frag) (S : Gs G) (m : ML G) : TE := fun σ H Q => ∃ w env g ds g', Rel K S w env g σ H ∧ m env g = some (ds, g') ∧
  ∀ p vs I' H', Same w.I I' → Rel K S (w.im I') env g' σ H' → Nob (w.im I') env σ p → H' p = some (.lst vs) → RpA K I' vs ds → ds.length ≤ sizeLine → Q (.ref p) H'
def tT {G : Type} (K : PySem.W.Frag) (S : Gs G) (m : MT G) : TT := fun σ H Q => ∃ w env g b g', Rel K S w env g σ H ∧ m env g = some (b, g') ∧
  ∀ I' H', Same w.I I' → Rel K S (w.im I') env g' σ H' → Q b H'
def tA {G : Type} (K : PySem.W.Frag) (S : Gs G) (m : ML G) : TA := fun σ H Q => ∃ w env g ds g', Rel K S w env g σ H ∧ m env g = some (ds, g') ∧
  ∀ vs I' H', Same w.I I' → Rel K S (w.im I') env g' σ H' → RpA K I' vs ds → Q vs H'

abbrev DE {G : Type} (X : Cx) (S : Gs G) (e : Expr) (m : ME G) : Prop := PE X e (tE X.K S m)
abbrev DF {G : Type} (X : Cx) (S : Gs G) (e : Expr) (m : ML G) : Prop := PE X e (tF X.K S m)
abbrev DT {G : Type} (X : Cx) (S : Gs G) (e : Expr) (m : MT G) : Prop := PT X e (tT X.K S m)
abbrev DW {G : Type} (X : Cx) (S : Gs G) (e : Expr) (m : MT G) : Prop := PW X e (tT X.K S m)
abbrev DA {G : Type} (X : Cx) (S : Gs G) (es : List Expr) (m : ML G) : Prop := PA X es (tA X.K S m)

theorem PE.imp {X : Cx} {e : Expr} {t t' : TE} (h : PE X e t) (i : ∀ σ H Q, t' σ H Q → t σ H Q) : PE X e t' := ⟨fun pins s σ H Q I q => h.run pins s σ H Q I (i _ _ _ q)⟩
theorem PT.imp {X : Cx} {e : Expr} {t t' : TT} (h : PT X e t) (i : ∀ σ H Q, t' σ H Q → t σ H Q) : PT X e t' := ⟨fun pins s σ H Q I q => h.run pins s σ H Q I (i _ _ _ q)⟩
theorem PW.imp {X : Cx} {e : Expr} {t t' : TT} (h : PW X e t) (i : ∀ σ H Q, t' σ H Q → t σ H Q) : PW X e t' := ⟨fun wh pins s σ H Q I q => h.run wh pins s σ H Q I (i _ _ _ q)⟩
theorem PA.imp {X : Cx} {e : List Expr} {t t' : TA} (h : PA X e t) (i : ∀ σ H Q, t' σ H Q → t σ H Q) : PA X e t' := ⟨fun pos pins s σ H Q I q => h.run pos pins s σ H Q I (i _ _ _ q)⟩
theorem PS.imp {X : Cx} {e : Stmt} {t t' : TS} (h : PS X e t) (i : ∀ D σ H, t' D σ H → t D σ H) : PS X e t' := ⟨fun pins s σ H D I q => h.run pins s σ H D I (i _ _ _ q)⟩
theorem PSs.imp {X : Cx} {e : List Stmt} {t t' : TS} (h : PSs X e t) (i : ∀ D σ H, t' D σ H → t D σ H) : PSs X e t' := ⟨fun pins s σ H D I q => h.run pins s σ H D I (i _ _ _ q)⟩

section
variable {G : Type} {X : Cx} {S : Gs G} {a b c e : Expr} {es : List Expr} {pos : Pos} {ma mb mc : ME G} {mt mu : MT G} {ml : ML G}

/-! ### bind, in the order of reading -/
@[reducible] def bD {α β G : Type} (x : Option (α × G)) (f : α → G → Option β) : Option β := match x with
  | some (a, g) => f a g
  | none => none
theorem bD_some {α β : Type} {x : Option (α × G)} {f : α → G → Option β} {y : β} (h : bD x f = some y) : ∃ a g, x = some (a, g) ∧ f a g = some y := by
  cases x with
  | none => cases h
  | some p => obtain ⟨a, g⟩ := p; exact ⟨a, g, rfl, h⟩

/-! ### names, constants -/
def mVar (i : Nat) : ME G := fun env g => match env.at i with
  | .sh d => some (d, g)
  | _ => none
def mC (d : D) : ME G := fun _ g => some (d, g)
theorem te_var {i : Nat} {σ : St} {H : Hp} {Q : VK} (h : tE X.K S (mVar i) σ H Q) : tVar i σ H Q := by
  obtain ⟨w, env, g, d, g', R, e, k⟩ := h
  have q := R.slot i
  unfold mVar at e
  cases z : env.at i with
  | sh d' =>
    rw [z] at e q
    obtain ⟨v, e1, r⟩ := q
    cases e
    exact ⟨v, e1, k v w.I H (Same.refl _) R r⟩
  | _ => rw [z] at e; cases e
theorem de_var (i : Nat) {x : Str} (hN : X.N[i]? = some x := by rfl) (hv : Vis X.env.scope x := by first | exact Or.inl rfl | exact Or.inr (Or.inl rfl) | exact Or.inr (Or.inr rfl)) (hd : (x == ("__debug__" : Str)) = false := by decide)
    (hcd : (x == ("__classdict__" : Str)) = false := by decide) : DE X S (.Name x pos) (mVar i) := PE.imp (pe_var hN hv hd hcd) fun _ _ _ h => te_var h
theorem te_c {v : V} {d : D} (r : ∀ H, Rp X.K H v d) {σ : St} {H : Hp} {Q : VK} (h : tE X.K S (mC d) σ H Q) : tC v σ H Q := by
  obtain ⟨w, env, g, d, g', R, e, k⟩ := h
  cases e
  exact k v w.I H (Same.refl _) R (r _)
theorem de_int {i : Int} {j} : DE X S (.Constant (.int i) j pos) (mC (.int i)) := PE.imp pe_int fun _ _ _ h => te_c (fun _ => .int i) h
theorem de_bl {i : Bool} {j} : DE X S (.Constant (.bool i) j pos) (mC (.bool i)) := PE.imp pe_bl fun _ _ _ h => te_c (fun _ => .bl i) h
theorem de_non {j} : DE X S (.Constant .none j pos) (mC .none) := PE.imp pe_non fun _ _ _ h => te_c (fun _ => .non) h
theorem de_str {x : Str} {j} (h : SOk x := by exact ⟨by decide +kernel, by decide +kernel⟩) : DE X S (.Constant (.str x) j pos) (mC (.str x)) := PE.imp pe_str fun _ _ _ q => te_c (fun _ => .str h) q
/-- a module's constant -/
theorem de_glob {x : Str} {v : V} {u : Value} {d : D} (hg : Gl X x) (hm : X.mg x = some u) (r : RelV v u) (hd : ∀ H, Rp X.K H v d) (hdb : (x == ("__debug__" : Str)) = false := by decide) : DE X S (.Name x pos) (mC d) :=
  PE.imp (pe_glob hg hm r hdb) fun _ _ _ h => te_c hd h

/-! ### operations by values -/
def OpD (K : PySem.W.Frag) (r : R2) (f : D → D → Option D) : Prop := ∀ {I H : Hp} {x y : V} {d e z : D}, Same I H → Rp K I x d → Rp K I y e → f d e = some z →
  ∀ {Q : VK}, (∀ v I' H', Pst I H I' H' → Rp K I' v z → Q v H') → r x y H Q
def UnD (K : PySem.W.Frag) (r : V → Hp → VK → Prop) (f : D → Option D) : Prop := ∀ {I H : Hp} {x : V} {d z : D}, Same I H → Rp K I x d → f d = some z →
  ∀ {Q : VK}, (∀ v I' H', Pst I H I' H' → Rp K I' v z → Q v H') → r x H Q
def CallD (K : PySem.W.Frag) (r : List V → Hp → VK → Prop) (f : List D → Option D) : Prop := ∀ {I H : Hp} {xs : List V} {ds : List D} {z : D}, Same I H → RpA K I xs ds → f ds = some z →
  ∀ {Q : VK}, (∀ v I' H', Pst I H I' H' → Rp K I' v z → Q v H') → r xs H Q
/-- .. a new list -/
def CallF (K : PySem.W.Frag) (r : List V → Hp → VK → Prop) (f : List D → Option (List D)) : Prop := ∀ {I H : Hp} {xs : List V} {ds zs : List D}, Same I H → RpA K I xs ds → f ds = some zs →
  ∀ {Q : VK}, (∀ p vs H', H p = none → Same H H' → H' p = some (.lst vs) → RpA K I vs zs → zs.length ≤ sizeLine → Q (.ref p) H') → r xs H Q
theorem OpD.or {K : PySem.W.Frag} {r r' : R2} {f f' : D → D → Option D} (h : OpD K r f) (h' : OpD K r' f') : OpD K (fun x y H Q => r x y H Q ∨ r' x y H Q) (fun d e => (f d e).orElse fun _ => f' d e) := by
  intro I H x y d e z s p q hz Q k
  have hz : ((f d e).orElse fun _ => f' d e) = some z := hz
  cases hf : f d e with
  | some u => rw [hf] at hz; cases hz; exact .inl (h s p q hf k)
  | none => rw [hf] at hz; exact .inr (h' s p q hz k)
theorem CallD.or {K : PySem.W.Frag} {r r' : List V → Hp → VK → Prop} {f f' : List D → Option D} (h : CallD K r f) (h' : CallD K r' f') : CallD K (fun x H Q => r x H Q ∨ r' x H Q) (fun d => (f d).orElse fun _ => f' d) := by
  intro I H x d z s p hz Q k
  have hz : ((f d).orElse fun _ => f' d) = some z := hz
  cases hf : f d with
  | some u => rw [hf] at hz; cases hz; exact .inl (h s p hf k)
  | none => rw [hf] at hz; exact .inr (h' s p hz k)

def mOp (f : D → D → Option D) (ma mb : ME G) : ME G := fun env g => bD (ma env g) fun x g1 => bD (mb env g1) fun y g2 => (f x y).map (·, g2)
def mUn (f : D → Option D) (ma : ME G) : ME G := fun env g => bD (ma env g) fun x g1 => (f x).map (·, g1)
def mCall (f : List D → Option D) (ml : ML G) : ME G := fun env g => bD (ml env g) fun xs g1 => (f xs).map (·, g1)
def mCallF (f : List D → Option (List D)) (ml : ML G) : ML G := fun env g => bD (ml env g) fun xs g1 => (f xs).map (·, g1)
theorem map_some {α β : Type} {x : Option α} {g g' : β} {z : α} (h : x.map (·, g) = some (z, g')) : x = some z ∧ g' = g := by
  cases x with
  | none => cases h
  | some y => cases h; exact ⟨rfl, rfl⟩
theorem te_op {r : R2} {f : D → D → Option D} (hf : OpD X.K r f) {σ : St} {H : Hp} {Q : VK} (h : tE X.K S (mOp f ma mb) σ H Q) : tOp r (tE X.K S ma) (tE X.K S mb) σ H Q := by
  obtain ⟨w, env, g, d, g', R, e, k⟩ := h
  obtain ⟨x, g1, e1, e⟩ := bD_some e
  obtain ⟨y, g2, e2, e⟩ := bD_some e
  obtain ⟨e3, rfl⟩ := map_some e
  refine ⟨w, env, g, x, g1, R, e1, fun v I1 H1 s1 R1 p1 => ⟨w.im I1, env, g1, y, g', R1, e2, fun u I2 H2 s2 R2 p2 => ?_⟩⟩
  exact hf R2.eI (p1.mono s2) p2 e3 fun v3 I3 H3 ps p3 => k v3 I3 H3 (s1.trans (s2.trans ps.eI)) (R2.pst ps) p3
theorem de_op {op : Operator} {r : R2} {f : D → D → Option D} (ho : OpR X (binaryOp op) r) (hf : OpD X.K r f) (ha : DE X S a ma) (hb : DE X S b mb) : DE X S (.BinOp a op b pos) (mOp f ma mb) :=
  PE.imp (pe_op ho ha hb) fun _ _ _ h => te_op hf h
theorem de_cmp {op : CmpOp} {r : R2} {f : D → D → Option D} (ho : OpR X (compareOp op) r) (hf : OpD X.K r f) (ha : DE X S a ma) (hb : DE X S b mb) (hm : behindInMarks op b = false) : DE X S (.Compare a [op] [b] pos) (mOp f ma mb) :=
  PE.imp (pe_cmpR ho ha hb hm) fun _ _ _ h => te_op hf h
theorem te_un {r : V → Hp → VK → Prop} {f : D → Option D} (hf : UnD X.K r f) {σ : St} {H : Hp} {Q : VK} (h : tE X.K S (mUn f ma) σ H Q) : tUn r (tE X.K S ma) σ H Q := by
  obtain ⟨w, env, g, d, g', R, e, k⟩ := h
  obtain ⟨x, g1, e1, e⟩ := bD_some e
  obtain ⟨e3, rfl⟩ := map_some e
  exact ⟨w, env, g, x, g', R, e1, fun v I1 H1 s1 R1 p1 => hf R1.eI p1 e3 fun v3 I3 H3 ps p3 => k v3 I3 H3 (s1.trans ps.eI) (R1.pst ps) p3⟩
theorem de_un {op : UnaryOp} {r : V → Hp → VK → Prop} {f : D → Option D} (ho : UnR X (unaryOp op) r) (hf : UnD X.K r f) (ha : DE X S a ma) : DE X S (.UnaryOp op a pos) (mUn f ma) :=
  PE.imp (pe_un ho ha) fun _ _ _ h => te_un hf h

/-! ### arguments -/
def mNil : ML G := fun _ g => some ([], g)
def mCons (ma : ME G) (ml : ML G) : ML G := fun env g => bD (ma env g) fun x g1 => bD (ml env g1) fun xs g2 => some (x :: xs, g2)
theorem da_nil : DA X S [] mNil := PA.imp pa_nil fun _ H _ ⟨w, _, _, _, _, R, e, k⟩ => by cases e; exact k [] w.I H (Same.refl _) R .nil
theorem da_cons (ha : DE X S e ma) (hr : DA X S es ml) (hs : starEach (e :: es) X.env = (false, eval e X.env) :: starEach es X.env := by rfl) : DA X S (e :: es) (mCons ma ml) := PA.imp (pa_cons ha hr hs) fun σ H Q h => by
  obtain ⟨w, env, g, d, g', R, e, k⟩ := h
  obtain ⟨x, g1, e1, e⟩ := bD_some e
  obtain ⟨y, g2, e2, e⟩ := bD_some e
  cases e
  exact ⟨w, env, g, x, g1, R, e1, fun v I1 H1 s1 R1 p1 => ⟨w.im I1, env, g1, y, g', R1, e2, fun vs I2 H2 s2 R2 p2 => k (v :: vs) I2 H2 (s1.trans s2) R2 (.cons (p1.mono s2) p2)⟩⟩
theorem te_call {r : List V → Hp → VK → Prop} {f : List D → Option D} (hf : CallD X.K r f) {σ : St} {H : Hp} {Q : VK} (h : tE X.K S (mCall f ml) σ H Q) : tCB r (tA X.K S ml) σ H Q := by
  obtain ⟨w, env, g, d, g', R, e, k⟩ := h
  obtain ⟨x, g1, e1, e⟩ := bD_some e
  obtain ⟨e3, rfl⟩ := map_some e
  exact ⟨w, env, g, x, g', R, e1, fun vs I1 H1 s1 R1 p1 => hf R1.eI p1 e3 fun v3 I3 H3 ps p3 => k v3 I3 H3 (s1.trans ps.eI) (R1.pst ps) p3⟩
theorem de_callB {x : Str} {id : String} {r : List V → Hp → VK → Prop} {f : List D → Option D} {p : Pos} (hc : CallR X (.builtin id) r) (hf : CallD X.K r f) (hg : Gl X x) (hm : X.mg x = none) (hv : bootBuiltins x = some (.builtin id)) (ha : DA X S (e :: es) ml)
    (hn : x ≠ "__name__" := by decide) (hdb : (x == ("__debug__" : Str)) = false := by decide)
    (he : starEach (e :: es) X.env = (false, eval e X.env) :: starEach es X.env := by rfl) (hpl : (backTo pos (starEach es X.env)).any (·.1) = false := by rfl) : DE X S (.Call (.Name x p) (e :: es) [] pos) (mCall f ml) :=
  PE.imp (pe_callB hc hg hm hv ha hn hdb he hpl) fun _ _ _ h => te_call hf h
theorem de_callTy {x : Str} {T : String} {r : List V → Hp → VK → Prop} {f : List D → Option D} {p : Pos} (hc : CallR X (.type T) r) (hf : CallD X.K r f) (hg : Gl X x) (hm : X.mg x = none) (hv : bootBuiltins x = some (.type T)) (ha : DA X S (e :: es) ml)
    (hn : x ≠ "__name__" := by decide) (hdb : (x == ("__debug__" : Str)) = false := by decide)
    (he : starEach (e :: es) X.env = (false, eval e X.env) :: starEach es X.env := by rfl) (hpl : (backTo pos (starEach es X.env)).any (·.1) = false := by rfl) : DE X S (.Call (.Name x p) (e :: es) [] pos) (mCall f ml) :=
  PE.imp (pe_callTy hc hg hm hv ha hn hdb he hpl) fun _ _ _ h => te_call hf h
/-- behind a fresh address nothing that is known has changed -/
theorem Rel.fresh {K : PySem.W.Frag} {w : Wd} {env : Env} {g : G} {σ : St} {H H' : Hp} {p : Addr} (R : Rel K S w env g σ H) (s : Same H H') : Rel K S w env g σ H' :=
  R.pst (I' := w.I) ⟨Same.refl _, s, R.eI.trans s, fun _ _ => rfl⟩
theorem tf_call {r : List V → Hp → VK → Prop} {f : List D → Option (List D)} (hf : CallF X.K r f) {σ : St} {H : Hp} {Q : VK} (h : tF X.K S (mCallF f ml) σ H Q) : tCB r (tA X.K S ml) σ H Q := by
  obtain ⟨w, env, g, d, g', R, e, k⟩ := h
  obtain ⟨x, g1, e1, e⟩ := bD_some e
  obtain ⟨e3, rfl⟩ := map_some e
  exact ⟨w, env, g, x, g', R, e1, fun vs I1 H1 s1 R1 p1 => hf R1.eI p1 e3 fun p us H3 h0 sm hp ra z => k p us I1 H3 s1 (Rel.fresh (p := p) R1 sm) (R1.nob h0) hp ra z⟩
theorem df_callB {x : Str} {id : String} {r : List V → Hp → VK → Prop} {f : List D → Option (List D)} {p : Pos} (hc : CallR X (.builtin id) r) (hf : CallF X.K r f) (hg : Gl X x) (hm : X.mg x = none) (hv : bootBuiltins x = some (.builtin id)) (ha : DA X S (e :: es) ml)
    (hn : x ≠ "__name__" := by decide) (hdb : (x == ("__debug__" : Str)) = false := by decide)
    (he : starEach (e :: es) X.env = (false, eval e X.env) :: starEach es X.env := by rfl) (hpl : (backTo pos (starEach es X.env)).any (·.1) = false := by rfl) : DF X S (.Call (.Name x p) (e :: es) [] pos) (mCallF f ml) :=
  PE.imp (pe_callB hc hg hm hv ha hn hdb he hpl) fun _ _ _ h => tf_call hf h
theorem df_callTy {x : Str} {T : String} {r : List V → Hp → VK → Prop} {f : List D → Option (List D)} {p : Pos} (hc : CallR X (.type T) r) (hf : CallF X.K r f) (hg : Gl X x) (hm : X.mg x = none) (hv : bootBuiltins x = some (.type T)) (ha : DA X S (e :: es) ml)
    (hn : x ≠ "__name__" := by decide) (hdb : (x == ("__debug__" : Str)) = false := by decide)
    (he : starEach (e :: es) X.env = (false, eval e X.env) :: starEach es X.env := by rfl) (hpl : (backTo pos (starEach es X.env)).any (·.1) = false := by rfl) : DF X S (.Call (.Name x p) (e :: es) [] pos) (mCallF f ml) :=
  PE.imp (pe_callTy hc hg hm hv ha hn hdb he hpl) fun _ _ _ h => tf_call hf h

/-! ### a new list as data -/
def mL (ml : ML G) : ME G := fun env g => bD (ml env g) fun ds g1 => some (.list ds, g1)
theorem te_fresh {σ : St} {H : Hp} {Q : VK} (h : tE X.K S (mL ml) σ H Q) : tF X.K S ml σ H Q := by
  obtain ⟨w, env, g, d, g', R, e, k⟩ := h
  obtain ⟨ds, g1, e1, e⟩ := bD_some e
  cases e
  exact ⟨w, env, g, ds, g', R, e1, fun p vs I' H' s' R' n hp ra z => k (.ref p) _ H' (s'.trans (same_new n.i)) (R'.freeze n hp) (.lst upd_same (ra.mono (same_new n.i)) z)⟩
theorem de_fresh (h : DF X S e ml) : DE X S e (mL ml) := PE.imp h fun _ _ _ q => te_fresh q

/-! ### displays -/
def mTup (ml : ML G) : ME G := fun env g => bD (ml env g) fun ds g1 => if ds.length ≤ sizeLine then some (.tuple ds, g1) else none
def mLst (ml : ML G) : ML G := fun env g => bD (ml env g) fun ds g1 => if ds.length ≤ sizeLine then some (ds, g1) else none
theorem de_tup {x1} (h : DA X S es ml) : DE X S (.Tuple es x1 pos) (mTup ml) := PE.imp (pe_tup h) fun σ H Q q => by
  obtain ⟨w, env, g, d, g', R, e, k⟩ := q
  obtain ⟨ds, g1, e1, e⟩ := bD_some e
  split at e
  · rename_i hz
    cases e
    refine ⟨w, env, g, ds, g', R, e1, fun vs I' H' s' R' ra => ⟨by rw [ra.len]; exact hz, fun p hp => ?_⟩⟩
    have ps := Pst.new (p := p) (o := .tup vs) R'.eI hp
    exact k (.ref p) _ _ (s'.trans ps.eI) (R'.pst ps) (.tup (SqT.of upd_same) (ra.mono ps.eI) hz)
  · cases e
theorem df_lst (h : DA X S es ml) : DF X S (.List es pos) (mLst ml) := PE.imp (pe_lst h) fun σ H Q q => by
  obtain ⟨w, env, g, d, g', R, e, k⟩ := q
  obtain ⟨ds, g1, e1, e⟩ := bD_some e
  split at e
  · rename_i hz
    cases e
    refine ⟨w, env, g, d, g', R, e1, fun vs I' H' s' R' ra => ⟨by rw [ra.len]; exact hz, fun p hp => ?_⟩⟩
    exact k p vs I' _ s' (R'.alloc hp) (R'.nob hp) upd_same ra hz
  · cases e

/-! ### subscripts, slices -/
def dIx : D → D → Option D
  | .list ds, .int i => atI ds i
  | .tuple ds, .int i => atI ds i
  | .str x, .int i => (atI x.cps.toList i).map fun c => .str ⟨#[c]⟩
  | _, _ => none
theorem atI_rp {K : PySem.W.Frag} {I : Hp} {vs : List V} {ds : List D} {i : Int} {d : D} (ra : RpA K I vs ds) (h : atI ds i = some d) : ∃ v, atI vs i = some v ∧ Rp K I v d := by
  unfold atI at h ⊢
  rw [ra.len]
  cases e : ixN ds.length i with
  | none => rw [e] at h; cases h
  | some j => rw [e] at h; exact ra.get h
theorem sok_char {x : Str} (h : SOk x) {c : Nat} (hc : c ∈ x.cps.toList) : SOk ⟨#[c]⟩ := by
  refine ⟨by show 1 ≤ sizeLine; decide, ?_⟩
  have h2 := h.2
  simp only [PyData.canLay0] at h2 ⊢
  unfold PyData.strOk at h2 ⊢
  rw [Array.all_eq_true_iff_forall_mem] at h2 ⊢
  intro b hb
  have e : b = c := by simpa using hb
  rw [e]
  exact h2 c (by simpa using hc)
theorem atI_mem {α : Type} {xs : List α} {i : Int} {v : α} (h : atI xs i = some v) : v ∈ xs := by
  unfold atI at h
  cases e : ixN xs.length i with
  | none => rw [e] at h; cases h
  | some j => rw [e] at h; exact List.mem_of_getElem? h
theorem od_ix {K : PySem.W.Frag} : OpD K (rIx K) dIx := by
  intro I H x y d e z s p q hz Q k
  cases p with
  | lst hp ra hl =>
    cases q with
    | int i =>
      obtain ⟨v, e1, r⟩ := atI_rp ra hz
      exact .inl ⟨_, _, i, v, rfl, rfl, SqL.of (s _ _ hp), e1, k v I H (Pst.refl s) r⟩
    | _ => cases hz
  | tup hp ra hl =>
    cases q with
    | int i =>
      obtain ⟨v, e1, r⟩ := atI_rp ra hz
      exact .inr (.inl ⟨_, _, i, v, rfl, rfl, same_t s hp, e1, k v I H (Pst.refl s) r⟩)
    | _ => cases hz
  | str hx =>
    cases q with
    | int i =>
      have hz : (atI _ i).map _ = some z := hz
      obtain ⟨c, e1, rfl⟩ := Option.map_eq_some_iff.mp hz
      exact .inr (.inr ⟨_, i, c, rfl, rfl, hx.1, e1, k _ I H (Pst.refl s) (.str (sok_char hx (atI_mem e1)))⟩)
    | _ => cases hz
  | _ => cases hz
theorem de_ix (ha : DE X S a ma) (hb : DE X S b mb) (hs : PlainIx b := by exact fun _ _ => rfl) : DE X S (.Subscript a b pos) (mOp dIx ma mb) := PE.imp (pe_ix ix_seq ha hb hs) fun _ _ _ h => te_op od_ix h

abbrev MO (G : Type) := Env → G → Option (Option Int × G)
def tO {G : Type} (K : PySem.W.Frag) (S : Gs G) (m : MO G) : TO := fun σ H Q => ∃ w env g b g', Rel K S w env g σ H ∧ m env g = some (b, g') ∧
  ∀ I' H', Same w.I I' → Rel K S (w.im I') env g' σ H' → Q b H'
structure DO {G : Type} (X : Cx) (S : Gs G) (e : Option Expr) (m : MO G) : Prop where
  po : PO X e (tO X.K S m)
def mNo : MO G := fun _ g => some (none, g)
def mPart (ma : ME G) : MO G := fun env g => bD (ma env g) fun x g1 => match x with
  | .int i => some (some i, g1)
  | _ => none
theorem do_none : DO X S none mNo := ⟨⟨fun pins s σ H Q I h => (po_none (X := X)).run pins s σ H Q I (by
  obtain ⟨w, env, g, d, g', R, e, k⟩ := h
  cases e
  exact k w.I H (Same.refl _) R)⟩⟩
theorem do_some (h : DE X S e ma) : DO X S (some e) (mPart ma) := ⟨⟨fun pins s σ H Q I q => (po_some h).run pins s σ H Q I (by
  obtain ⟨w, env, g, d, g', R, e, k⟩ := q
  obtain ⟨x, g1, e1, e⟩ := bD_some e
  cases x with
  | int i =>
    cases e
    exact ⟨w, env, g, _, g', R, e1, fun v I' H' s' R' p => by cases p; exact ⟨i, rfl, k I' H' s' R'⟩⟩
  | _ => cases e)⟩⟩
def cut {α : Type} (xs : List α) (lo hi : Option Int) : List α := (xs.drop (HT.sIx xs.length 0 lo)).take (HT.sIx xs.length xs.length hi - HT.sIx xs.length 0 lo)
theorem cut_rp {K : PySem.W.Frag} {I : Hp} {vs : List V} {ds : List D} (ra : RpA K I vs ds) (lo hi : Option Int) : RpA K I (cutV vs lo hi) (cut ds lo hi) := by
  unfold cutV cut
  rw [ra.len]
  exact (ra.drop _).take _
theorem cut_le {α : Type} (xs : List α) (lo hi : Option Int) : (cut xs lo hi).length ≤ xs.length := by
  unfold cut
  rw [List.length_take, List.length_drop]
  omega
/-- a list's slice -/
def mSlL (ma : ME G) (lo hi : MO G) : ML G := fun env g => bD (ma env g) fun x g1 => bD (lo env g1) fun l g2 => bD (hi env g2) fun h g3 => match x with
  | .list ds => some (cut ds l h, g3)
  | _ => none
theorem df_slice {lo hi : Option Expr} {ml mh : MO G} {p2 : Pos} (ha : DE X S a ma) (hl : DO X S lo ml) (hh : DO X S hi mh) : DF X S (.Subscript a (.Slice lo hi none p2) pos) (mSlL ma ml mh) := PE.imp (pe_slice sl_list ha hl.po hh.po) fun σ H Q q => by
  obtain ⟨w, env, g, d, g', R, e, k⟩ := q
  obtain ⟨x, g1, e1, e⟩ := bD_some e
  obtain ⟨l, g2, e2, e⟩ := bD_some e
  obtain ⟨h, g3, e3, e⟩ := bD_some e
  cases x with
  | list ds =>
    cases e
    refine ⟨w, env, g, _, g1, R, e1, fun v I1 H1 s1 R1 p1 => ⟨w.im I1, env, g1, l, g2, R1, e2, fun I2 H2 s2 R2 => ⟨w.im I2, env, g2, h, g', R2, e3, fun I3 H3 s3 R3 => ?_⟩⟩⟩
    cases p1 with
    | lst hp ra hz =>
      refine ⟨_, _, rfl, SqL.of (R3.eI _ _ (s3 _ _ (s2 _ _ hp))), fun p h0 => ?_⟩
      exact k p _ I3 _ (s1.trans (s2.trans s3)) (R3.alloc h0) (R3.nob h0) upd_same (cut_rp (ra.mono (s2.trans s3)) l h) (Nat.le_trans (cut_le ds l h) hz)
  | _ => cases e
end
end Pd

/-! Pd: tests, calls of defs, statements, loops, comprehensions. -/
namespace Pd
open PySem PySem.Spec L2
section
variable {G : Type} {X : Cx} {S : Gs G} {a b c e : Expr} {es rest : List Expr} {pos : Pos} {ma mb mc : ME G} {mt mu : MT G} {ml : ML G}

/-! ### tests -/
def asB : D → Option Bool
  | .bool b => some b
  | _ => none
def mOpT (f : D → D → Option D) (ma mb : ME G) : MT G := fun env g => bD (ma env g) fun x g1 => bD (mb env g1) fun y g2 => ((f x y).bind asB).map (·, g2)
theorem asB_some {d : Option D} {b : Bool} (h : d.bind asB = some b) : d = some (.bool b) := by
  cases d with
  | none => cases h
  | some x => cases x with
    | bool c => cases h; rfl
    | _ => cases h
theorem dt_cmp {op : CmpOp} {r : R2} {f : D → D → Option D} (ho : OpR X (compareOp op) r) (hf : OpD X.K r f) (ha : DE X S a ma) (hb : DE X S b mb) (hm : behindInMarks op b = false) : DT X S (.Compare a [op] [b] pos) (mOpT f ma mb) :=
  PT.imp (pt_cmpR ho ha hb hm) fun σ H Q h => by
    obtain ⟨w, env, g, d, g', R, e, k⟩ := h
    obtain ⟨x, g1, e1, e⟩ := bD_some e
    obtain ⟨y, g2, e2, e⟩ := bD_some e
    obtain ⟨e3, rfl⟩ := map_some e
    have e4 := asB_some e3
    refine ⟨w, env, g, x, g1, R, e1, fun v I1 H1 s1 R1 p1 => ⟨w.im I1, env, g1, y, g', R1, e2, fun u I2 H2 s2 R2 p2 => ?_⟩⟩
    exact hf R2.eI (p1.mono s2) p2 e4 fun v3 I3 H3 ps p3 => by cases p3; exact ⟨d, rfl, k I3 H3 (s1.trans (s2.trans ps.eI)) (R2.pst ps)⟩
def dTru : D → Option Bool
  | .none => some false
  | .bool b => some b
  | .int i => some (i != 0)
  | .str x => some ((x.length : Int) != 0)
  | .list ds => some (!ds.isEmpty)
  | .tuple ds => some (!ds.isEmpty)
  | .dict _ => none
def mTru (ma : ME G) : MT G := fun env g => bD (ma env g) fun x g1 => (dTru x).map (·, g1)
theorem rpa_empty {K : PySem.W.Frag} {I : Hp} {vs : List V} {ds : List D} (h : RpA K I vs ds) : vs.isEmpty = ds.isEmpty := by cases h <;> rfl
theorem dt_tru (ha : DE X S a ma) (he : ∀ whole, isTrue a X.env whole = (do let v ← whole; standAt a.pos; holding [v] (truthy v)) := by intro _; rfl) : DT X S a (mTru ma) := PT.imp (pt_truth ha he) fun σ H Q h => by
  obtain ⟨w, env, g, d, g', R, e, k⟩ := h
  obtain ⟨x, g1, e1, e⟩ := bD_some e
  obtain ⟨e3, rfl⟩ := map_some e
  refine ⟨w, env, g, x, g', R, e1, fun v I1 H1 s1 R1 p1 => ⟨d, ?_, k I1 H1 s1 R1⟩⟩
  cases p1 with
  | non => cases e3; rfl
  | bl b => cases e3; rfl
  | int i => cases e3; rfl
  | str hx => cases e3; exact ⟨hx.1, rfl⟩
  | lst hp ra hz => cases e3; exact .inl ⟨_, SqL.of (R1.eI _ _ hp), by rw [rpa_empty ra]⟩
  | tup hp ra hz => cases e3; exact .inr (.inl ⟨_, same_t R1.eI hp, by rw [rpa_empty ra]⟩)
def mNot (mt : MT G) : MT G := fun env g => bD (mt env g) fun b g1 => some (!b, g1)
theorem dt_not (h : DT X S a mt) : DT X S (.UnaryOp .Not a pos) (mNot mt) := PT.imp (pt_not h) fun σ H Q q => by
  obtain ⟨w, env, g, d, g', R, e, k⟩ := q
  obtain ⟨x, g1, e1, e⟩ := bD_some e
  cases e
  exact ⟨w, env, g, x, g', R, e1, fun I1 H1 s1 R1 => k I1 H1 s1 R1⟩
def mAnd (mt mu : MT G) : MT G := fun env g => bD (mt env g) fun b g1 => if b = true then mu env g1 else some (false, g1)
def mOr (mt mu : MT G) : MT G := fun env g => bD (mt env g) fun b g1 => if b = true then some (true, g1) else mu env g1
theorem dw_and1 (h : DT X S a mt) : DW X S (.BoolOp .And [a] pos) mt := pw_and1 h
theorem dw_or1 (h : DT X S a mt) : DW X S (.BoolOp .Or [a] pos) mt := pw_or1 h
theorem tt_and {σ : St} {H : Hp} {Q : Bool → Hp → Prop} (q : tT X.K S (mAnd mt mu) σ H Q) : tAnd (tT X.K S mt) (tT X.K S mu) σ H Q := by
  obtain ⟨w, env, g, d, g', R, e, k⟩ := q
  obtain ⟨x, g1, e1, e⟩ := bD_some e
  refine ⟨w, env, g, x, g1, R, e1, fun I1 H1 s1 R1 => ?_⟩
  cases x with
  | true => exact ⟨w.im I1, env, g1, d, g', R1, e, fun I2 H2 s2 R2 => k I2 H2 (s1.trans s2) R2⟩
  | false => cases e; exact k I1 H1 s1 R1
theorem tt_or {σ : St} {H : Hp} {Q : Bool → Hp → Prop} (q : tT X.K S (mOr mt mu) σ H Q) : tOr (tT X.K S mt) (tT X.K S mu) σ H Q := by
  obtain ⟨w, env, g, d, g', R, e, k⟩ := q
  obtain ⟨x, g1, e1, e⟩ := bD_some e
  refine ⟨w, env, g, x, g1, R, e1, fun I1 H1 s1 R1 => ?_⟩
  cases x with
  | false => exact ⟨w.im I1, env, g1, d, g', R1, e, fun I2 H2 s2 R2 => k I2 H2 (s1.trans s2) R2⟩
  | true => cases e; exact k I1 H1 s1 R1
theorem dw_and (ha : DT X S a mt) (hb : DW X S (.BoolOp .And (b :: rest) pos) mu) : DW X S (.BoolOp .And (a :: b :: rest) pos) (mAnd mt mu) := PW.imp (pw_and ha hb) fun _ _ _ => tt_and
theorem dw_or (ha : DT X S a mt) (hb : DW X S (.BoolOp .Or (b :: rest) pos) mu) : DW X S (.BoolOp .Or (a :: b :: rest) pos) (mOr mt mu) := PW.imp (pw_or ha hb) fun _ _ _ => tt_or
/-- .. as values, of bools -/
def mBAnd (ma mb : ME G) : ME G := fun env g => bD (ma env g) fun x g1 => match x with
  | .bool true => mb env g1
  | .bool false => some (.bool false, g1)
  | _ => none
def mBOr (ma mb : ME G) : ME G := fun env g => bD (ma env g) fun x g1 => match x with
  | .bool false => mb env g1
  | .bool true => some (.bool true, g1)
  | _ => none
def mBNot (ma : ME G) : ME G := fun env g => bD (ma env g) fun x g1 => match x with
  | .bool b => some (.bool (!b), g1)
  | _ => none
theorem de_and1 {op} (h : DE X S a ma) : DE X S (.BoolOp op [a] pos) ma := pe_one h
theorem de_and (ha : DE X S a ma) (hb : DE X S (.BoolOp .And (b :: rest) pos) mb) : DE X S (.BoolOp .And (a :: b :: rest) pos) (mBAnd ma mb) := PE.imp (pe_and ha hb) fun σ H Q q => by
  obtain ⟨w, env, g, d, g', R, e, k⟩ := q
  obtain ⟨x, g1, e1, e⟩ := bD_some e
  refine ⟨w, env, g, x, g1, R, e1, fun v I1 H1 s1 R1 p1 => ?_⟩
  cases x with
  | bool x =>
    cases p1
    refine ⟨x, rfl, ?_⟩
    cases x with
    | true => exact ⟨w.im I1, env, g1, d, g', R1, e, fun u I2 H2 s2 R2 p2 => k u I2 H2 (s1.trans s2) R2 p2⟩
    | false => cases e; exact k _ I1 H1 s1 R1 (.bl _)
  | _ => cases e
theorem de_or (ha : DE X S a ma) (hb : DE X S (.BoolOp .Or (b :: rest) pos) mb) : DE X S (.BoolOp .Or (a :: b :: rest) pos) (mBOr ma mb) := PE.imp (pe_or ha hb) fun σ H Q q => by
  obtain ⟨w, env, g, d, g', R, e, k⟩ := q
  obtain ⟨x, g1, e1, e⟩ := bD_some e
  refine ⟨w, env, g, x, g1, R, e1, fun v I1 H1 s1 R1 p1 => ?_⟩
  cases x with
  | bool x =>
    cases p1
    refine ⟨x, rfl, ?_⟩
    cases x with
    | false => exact ⟨w.im I1, env, g1, d, g', R1, e, fun u I2 H2 s2 R2 p2 => k u I2 H2 (s1.trans s2) R2 p2⟩
    | true => cases e; exact k _ I1 H1 s1 R1 (.bl _)
  | _ => cases e
theorem de_not (ha : DE X S a ma) : DE X S (.UnaryOp .Not a pos) (mBNot ma) := PE.imp (pe_not ha) fun σ H Q q => by
  obtain ⟨w, env, g, d, g', R, e, k⟩ := q
  obtain ⟨x, g1, e1, e⟩ := bD_some e
  cases x with
  | bool x =>
    cases e
    exact ⟨w, env, g, _, g', R, e1, fun v I1 H1 s1 R1 p1 => by cases p1; exact ⟨x, rfl, k _ I1 H1 s1 R1 (.bl _)⟩⟩
  | _ => cases e
def mIf {α : Type} (mt : MT G) (ma mb : Env → G → Option (α × G)) : Env → G → Option (α × G) := fun env g => bD (mt env g) fun b g1 => if b = true then ma env g1 else mb env g1
theorem de_if (hc : DT X S c mt) (ha : DE X S a ma) (hb : DE X S b mb) : DE X S (.IfExp c a b pos) (mIf mt ma mb) := PE.imp (pe_ifExp hc ha hb) fun σ H Q q => by
  obtain ⟨w, env, g, d, g', R, e, k⟩ := q
  obtain ⟨x, g1, e1, e⟩ := bD_some e
  refine ⟨w, env, g, x, g1, R, e1, fun I1 H1 s1 R1 => ?_⟩
  cases x with
  | true => exact ⟨w.im I1, env, g1, d, g', R1, e, fun u I2 H2 s2 R2 p2 => k u I2 H2 (s1.trans s2) R2 p2⟩
  | false => exact ⟨w.im I1, env, g1, d, g', R1, e, fun u I2 H2 s2 R2 p2 => k u I2 H2 (s1.trans s2) R2 p2⟩
/-- a < b < c -/
def mChain (f f' : D → D → Option D) (ma mb mc : ME G) : ME G := fun env g => bD (ma env g) fun x g1 => bD (mb env g1) fun y g2 => match f x y with
  | some (.bool true) => bD (mc env g2) fun z g3 => (f' y z).map (·, g3)
  | some (.bool false) => some (.bool false, g2)
  | _ => none
def mChainT (f f' : D → D → Option D) (ma mb mc : ME G) : MT G := fun env g => bD (ma env g) fun x g1 => bD (mb env g1) fun y g2 => match f x y with
  | some (.bool true) => bD (mc env g2) fun z g3 => ((f' y z).bind asB).map (·, g3)
  | some (.bool false) => some (false, g2)
  | _ => none
theorem dt_chain {op op' : CmpOp} {r r' : R2} {f f' : D → D → Option D} (ho : OpR X (compareOp op) r) (hf : OpD X.K r f) (ho' : OpR X (compareOp op') r') (hf' : OpD X.K r' f') (ha : DE X S a ma) (hb : DE X S b mb) (hc : DE X S c mc) (hm : lastMarks [op, op'] [b, c] = false := by rfl) :
    DT X S (.Compare a [op, op'] [b, c] pos) (mChainT f f' ma mb mc) := PT.imp (pt_chain ho ho' ha hb hc hm) fun σ H Q q => by
  obtain ⟨w, env, g, d, g', R, e, k⟩ := q
  obtain ⟨x, g1, e1, e⟩ := bD_some e
  obtain ⟨y, g2, e2, e⟩ := bD_some e
  refine ⟨w, env, g, x, g1, R, e1, fun v I1 H1 s1 R1 p1 => ⟨w.im I1, env, g1, y, g2, R1, e2, fun u I2 H2 s2 R2 p2 => ?_⟩⟩
  cases e3 : f x y with
  | none => rw [e3] at e; cases e
  | some z =>
    rw [e3] at e
    cases z with
    | bool z =>
      refine hf R2.eI (p1.mono s2) p2 e3 fun v3 I3 H3 ps p3 => ?_
      cases p3
      refine ⟨z, rfl, ?_⟩
      cases z with
      | true =>
        obtain ⟨z, g3, e4, e⟩ := bD_some e
        obtain ⟨e5, rfl⟩ := map_some e
        refine ⟨w.im I3, env, g2, z, g', R2.pst ps, e4, fun v4 I4 H4 s4 R4 p4 => ?_⟩
        exact hf' R4.eI ((p2.mono ps.eI).mono s4) p4 (asB_some e5) fun v5 I5 H5 ps5 p5 => by
          cases p5
          exact ⟨d, rfl, k I5 H5 (s1.trans (s2.trans (ps.eI.trans (s4.trans ps5.eI)))) (R4.pst ps5)⟩
      | false => cases e; exact ⟨false, rfl, k I3 H3 (s1.trans (s2.trans ps.eI)) (R2.pst ps)⟩
    | _ => cases e

/-! ### a def of one's own that changes nothing: its promise -/
def spP (K : PySem.W.Frag) (F : List D → Option D) : Sp := fun vs H Q _ => ∃ I ds d, Same I H ∧ RpA K I vs ds ∧ F ds = some d ∧ ∀ v I' H', Pst I H I' H' → Rp K I' v d → Q v H'
theorem de_callP {x : Str} {F : List D → Option D} {p : Pos}
    (run : PE X (.Call (.Name x p) (e :: es) [] pos) (tCall (spP X.K F) [] E0 (tA X.K S ml))) : DE X S (.Call (.Name x p) (e :: es) [] pos) (mCall F ml) := PE.imp run fun σ H Q q => by
  obtain ⟨w, env, g, d, g', R, e, k⟩ := q
  obtain ⟨xs, g1, e1, e⟩ := bD_some e
  obtain ⟨e3, rfl⟩ := map_some e
  refine ⟨w, env, g, xs, g', R, e1, fun vs I1 H1 s1 R1 p1 => ?_⟩
  exact ⟨I1, xs, d, R1.eI, by rw [List.append_nil]; exact p1, e3, fun v I' H' ps r => k v I' H' (s1.trans ps.eI) (R1.pst ps) r⟩
theorem de_callP0 {x : Str} {F : List D → Option D} {p : Pos}
    (run : PE X (.Call (.Name x p) [] [] pos) (tCall (spP X.K F) [] E0 tNil)) : DE X S (.Call (.Name x p) [] [] pos) (mCall F mNil) := PE.imp run fun σ H Q q => by
  obtain ⟨w, env, g, d, g', R, e, k⟩ := q
  have e : (F []).map (·, g) = some (d, g') := e
  obtain ⟨e3, rfl⟩ := map_some e
  exact ⟨w.I, [], d, R.eI, .nil, e3, fun v I' H' ps r => k v I' H' ps.eI (R.pst ps) r⟩
/-- .. whose answer is a new list -/
def spN (K : PySem.W.Frag) (F : List D → Option (List D)) : Sp := fun vs H Q _ => ∃ I ds d, Same I H ∧ RpA K I vs ds ∧ F ds = some d ∧ ∀ p us I' H', Pst I H I' H' → H p = none → I' p = none → H' p = some (.lst us) → RpA K I' us d → d.length ≤ sizeLine → Q (.ref p) H'
theorem df_callN {x : Str} {F : List D → Option (List D)} {p : Pos}
    (run : PE X (.Call (.Name x p) (e :: es) [] pos) (tCall (spN X.K F) [] E0 (tA X.K S ml))) : DF X S (.Call (.Name x p) (e :: es) [] pos) (mCallF F ml) := PE.imp run fun σ H Q q => by
  obtain ⟨w, env, g, d, g', R, e, k⟩ := q
  obtain ⟨xs, g1, e1, e⟩ := bD_some e
  obtain ⟨e3, rfl⟩ := map_some e
  refine ⟨w, env, g, xs, g', R, e1, fun vs I1 H1 s1 R1 p1 => ?_⟩
  exact ⟨I1, xs, d, R1.eI, by rw [List.append_nil]; exact p1, e3, fun p us I' H' ps h0 hi hp ra z => k p us I' H' (s1.trans ps.eI) (R1.pst ps) ⟨hi, (R1.nob h0).h0, (R1.nob h0).f, (R1.nob h0).o⟩ hp ra z⟩
theorem df_callN0 {x : Str} {F : List D → Option (List D)} {p : Pos}
    (run : PE X (.Call (.Name x p) [] [] pos) (tCall (spN X.K F) [] E0 tNil)) : DF X S (.Call (.Name x p) [] [] pos) (mCallF F mNil) := PE.imp run fun σ H Q q => by
  obtain ⟨w, env, g, d, g', R, e, k⟩ := q
  have e : (F []).map (·, g) = some (d, g') := e
  obtain ⟨e3, rfl⟩ := map_some e
  exact ⟨w.I, [], d, R.eI, .nil, e3, fun p us I' H' ps h0 hi hp ra z => k p us I' H' ps.eI (R.pst ps) ⟨hi, (R.nob h0).h0, (R.nob h0).f, (R.nob h0).o⟩ hp ra z⟩

/-! ### a def that is handed the ghost state -/
structure Gst {G : Type} (S : Gs G) (I H : Hp) (g : G) (I' H' : Hp) (g' : G) : Prop where
  eI : Same I I'
  eH : ∀ a o, H a = some o → ¬ S.fp g a → H' a = some o
  sub : Same I' H'
  ag : ∀ a, H a ≠ none → I' a = I a
  fp' : ∀ a, S.fp g' a ↔ S.fp g a
  rt : S.root g' = S.root g
  ok : S.ok g' H'
theorem Rel.gst {K : PySem.W.Frag} {w : Wd} {env : Env} {g g' : G} {σ : St} {H H' I' : Hp} (R : Rel K S w env g σ H) (p : Gst S w.I H g I' H' g') : Rel K S (w.im I') env g' σ H' where
  e0 := fun a o e => p.eH a o (R.e0 a o e) fun z => by
    have := R.f0 a ((R.gfp a).mp z)
    rw [e] at this; cases this
  eI := p.sub
  ag := fun a o e => (p.ag a (by rw [R.e0 a o e]; simp)).trans (R.ag a o e)
  ge := R.ge.trans p.eI
  gfp := fun a => (p.fp' a).trans (R.gfp a)
  grt := p.rt.trans R.grt
  gok := p.ok
  fI := fun a ha => (p.ag a (S.dom R.gok ((R.gfp a).mpr ha))).trans (R.fI a ha)
  f0 := R.f0
  len := R.len
  slot := fun i => by
    have q := R.slot i
    cases e : env.at i with
    | un => trivial
    | sh d => rw [e] at q; obtain ⟨v, e1, r⟩ := q; exact ⟨v, e1, r.mono p.eI⟩
    | st => rw [e] at q; exact q
    | raw v => rw [e] at q; exact q
    | ow ds =>
      rw [e] at q
      obtain ⟨a, vs, e1, hp, hi, h0, hf, r, z⟩ := q
      exact ⟨a, vs, e1, p.eH _ _ hp fun z => hf ((R.gfp a).mp z), (p.ag a (by rw [hp]; simp)).trans hi, h0, hf, r.mono p.eI, z⟩
  dis := R.dis
/-- the arguments of such a def -/
def ArgOk (K : PySem.W.Frag) (I : Hp) (rt : V) (v : V) : SV → Prop
  | .sh d => Rp K I v d
  | .st => v = rt
  | .raw u => v = u
  | _ => False
inductive ArgsOk (K : PySem.W.Frag) (I : Hp) (rt : V) : List V → List SV → Prop
  | nil : ArgsOk K I rt [] []
  | cons {v vs a as} : ArgOk K I rt v a → ArgsOk K I rt vs as → ArgsOk K I rt (v :: vs) (a :: as)
theorem ArgOk.mono {K : PySem.W.Frag} {I I' : Hp} {rt v : V} {a : SV} (e : Same I I') (h : ArgOk K I rt v a) : ArgOk K I' rt v a := by
  cases a with
  | sh d => exact Rp.mono e h
  | _ => exact h
theorem ArgsOk.len {K : PySem.W.Frag} {I : Hp} {rt : V} : ∀ {vs : List V} {as : List SV}, ArgsOk K I rt vs as → vs.length = as.length
  | _, _, .nil => rfl
  | _, _, .cons _ t => by rw [List.length_cons, List.length_cons, ArgsOk.len t]
abbrev MG (G : Type) := Env → G → Option (List SV × G)
def tG {G : Type} (K : PySem.W.Frag) (S : Gs G) (m : MG G) : TA := fun σ H Q => ∃ w env g as g', Rel K S w env g σ H ∧ m env g = some (as, g') ∧
  ∀ vs I' H', Same w.I I' → Rel K S (w.im I') env g' σ H' → ArgsOk K I' w.rt vs as → Q vs H'
abbrev DG {G : Type} (X : Cx) (S : Gs G) (es : List Expr) (m : MG G) : Prop := PA X es (tG X.K S m)
def gNil : MG G := fun _ g => some ([], g)
def gCons (ma : ME G) (ml : MG G) : MG G := fun env g => bD (ma env g) fun x g1 => bD (ml env g1) fun xs g2 => some (.sh x :: xs, g2)
def gConsS (i : Nat) (ml : MG G) : MG G := fun env g => match env.at i with
  | .st => bD (ml env g) fun xs g2 => some (.st :: xs, g2)
  | .raw v => bD (ml env g) fun xs g2 => some (.raw v :: xs, g2)
  | _ => none
theorem dg_nil : DG X S [] gNil := PA.imp pa_nil fun _ H _ ⟨w, _, _, _, _, R, e, k⟩ => by cases e; exact k [] w.I H (Same.refl _) R .nil
theorem dg_cons {mg : MG G} (ha : DE X S e ma) (hr : DG X S es mg) (hs : starEach (e :: es) X.env = (false, eval e X.env) :: starEach es X.env := by rfl) : DG X S (e :: es) (gCons ma mg) := PA.imp (pa_cons ha hr hs) fun σ H Q h => by
  obtain ⟨w, env, g, d, g', R, e, k⟩ := h
  obtain ⟨x, g1, e1, e⟩ := bD_some e
  obtain ⟨y, g2, e2, e⟩ := bD_some e
  cases e
  exact ⟨w, env, g, x, g1, R, e1, fun v I1 H1 s1 R1 p1 => ⟨w.im I1, env, g1, y, g', R1, e2, fun vs I2 H2 s2 R2 p2 => k (v :: vs) I2 H2 (s1.trans s2) R2 (.cons (p1.mono s2) p2)⟩⟩
theorem dg_st {mg : MG G} {i : Nat} {x : Str} {pos' : Pos} (hr : DG X S es mg) (hN : X.N[i]? = some x := by rfl) (hv : Vis X.env.scope x := by first | exact Or.inl rfl | exact Or.inr (Or.inl rfl) | exact Or.inr (Or.inr rfl)) (hd : (x == ("__debug__" : Str)) = false := by decide)
    (hcd : (x == ("__classdict__" : Str)) = false := by decide) (hs : starEach (.Name x pos' :: es) X.env = (false, eval (.Name x pos') X.env) :: starEach es X.env := by rfl) : DG X S (.Name x pos' :: es) (gConsS i mg) := PA.imp (pa_cons (pe_var hN hv hd hcd) hr hs) fun σ H Q h => by
  obtain ⟨w, env, g, d, g', R, e, k⟩ := h
  have q := R.slot i
  unfold gConsS at e
  cases z : env.at i with
  | st =>
    rw [z] at e q
    obtain ⟨y, g2, e2, e⟩ := bD_some e
    cases e
    exact ⟨_, q, w, env, g, y, g', R, e2, fun vs I2 H2 s2 R2 p2 => k _ I2 H2 s2 R2 (.cons rfl p2)⟩
  | raw v =>
    rw [z] at e q
    obtain ⟨y, g2, e2, e⟩ := bD_some e
    cases e
    exact ⟨_, q, w, env, g, y, g', R, e2, fun vs I2 H2 s2 R2 p2 => k _ I2 H2 s2 R2 (.cons rfl p2)⟩
  | _ => rw [z] at e; cases e
def spG {G : Type} (K : PySem.W.Frag) (S : Gs G) (F : List SV → G → Option (D × G)) : Sp := fun vs H Q _ => ∃ I g as d g', Same I H ∧ S.ok g H ∧ (∀ a, S.fp g a → I a = none) ∧ ArgsOk K I (S.root g) vs as ∧ F as g = some (d, g') ∧
  ∀ v I' H', Gst S I H g I' H' g' → Rp K I' v d → Q v H'
def mCallG (F : List SV → G → Option (D × G)) (mg : MG G) : ME G := fun env g => bD (mg env g) fun as g1 => F as g1
theorem de_callG {x : Str} {F : List SV → G → Option (D × G)} {p : Pos} {mg : MG G}
    (run : PE X (.Call (.Name x p) (e :: es) [] pos) (tCall (spG X.K S F) [] E0 (tG X.K S mg))) : DE X S (.Call (.Name x p) (e :: es) [] pos) (mCallG F mg) := PE.imp run fun σ H Q q => by
  obtain ⟨w, env, g, d, g', R, e, k⟩ := q
  obtain ⟨as, g1, e1, e⟩ := bD_some e
  refine ⟨w, env, g, as, g1, R, e1, fun vs I1 H1 s1 R1 p1 => ?_⟩
  refine ⟨I1, g1, as, d, g', R1.eI, R1.gok, fun a ha => R1.fI a ((R1.gfp a).mp ha), ?_, e, fun v I' H' ps r => k v I' H' (s1.trans ps.eI) (R1.gst ps) r⟩
  rw [List.append_nil, R1.grt]
  exact p1
end
end Pd

/-! Pd: statements, loops, comprehensions, defs. -/
namespace Pd
open PySem PySem.Spec L2

/-- how a statement ends: goes on, breaks, continues, returns data, returns a new list -/
inductive Ct where
  | nx | br | co | re (d : D) | rl (ds : List D)
abbrev MS (G : Type) := Env → G → Option (Ct × Env × G)
section
variable {G : Type} {X : Cx} {S : Gs G} {a b c e : Expr} {es rest : List Expr} {pos : Pos} {ma mb mc : ME G} {mt mu : MT G} {ml : ML G} {st : Stmt} {sts body : List Stmt} {m m1 m2 : MS G}
variable {K : PySem.W.Frag} {w : Wd} {env env' : Env} {g g' : G} {σ : St} {H H' I' : Hp}

/-! ### stores to slots -/
theorem at_set (env : Env) (i k : Nat) (sv : SV) : Env.at (env.set i sv) k = if k = i ∧ i < env.length then sv else env.at k := by
  show (env.set i sv).getD k .un = if k = i ∧ i < env.length then sv else env.getD k .un
  rw [List.getD_eq_getElem?_getD, List.getD_eq_getElem?_getD]
  by_cases h : k = i
  · subst h
    by_cases z : k < env.length
    · rw [List.getElem?_set_self z, if_pos ⟨rfl, z⟩]; rfl
    · rw [if_neg (fun q => z q.2), List.set_eq_of_length_le (by omega)]
  · rw [List.getElem?_set_ne (Ne.symm h), if_neg (fun q => h q.1)]
theorem get_set {α : Type} (σ : List (Option α)) (i k : Nat) (v : Option α) : (σ.set i v)[k]? = if k = i ∧ i < σ.length then some v else σ[k]? := by
  by_cases h : k = i
  · subst h
    by_cases z : k < σ.length
    · rw [List.getElem?_set_self z, if_pos ⟨rfl, z⟩]
    · rw [if_neg (fun q => z q.2), List.set_eq_of_length_le (by omega)]
  · rw [List.getElem?_set_ne (Ne.symm h), if_neg (fun q => h q.1)]
/-- a slot of another: the same in both -/
theorem SlotOk.of_eq {σ' : St} {i : Nat} {sv : SV} (e : σ'[i]? = σ[i]?) (h : SlotOk K w σ H i sv) : SlotOk K w σ' H i sv := by
  cases sv with
  | un => trivial
  | sh d => obtain ⟨v, e1, r⟩ := h; exact ⟨v, e.trans e1, r⟩
  | st => exact Eq.trans e h
  | raw v => exact Eq.trans e h
  | ow ds => obtain ⟨p, vs, e1, r⟩ := h; exact ⟨p, vs, e.trans e1, r⟩
theorem Rel.put {i : Nat} {v : V} {sv : SV} (R : Rel K S w env g σ H) (h1 : ∀ k, (σ.set i (some v))[k]? = some (some v) → k = i → SlotOk K w (σ.set i (some v)) H k sv)
    (h2 : ∀ p ds, sv = .ow ds → v = .ref p → ∀ j es, env.at j = .ow es → σ[j]? ≠ some (some (.ref p))) : Rel K S w (env.set i sv) g (σ.set i (some v)) H where
  e0 := R.e0
  eI := R.eI
  ag := R.ag
  ge := R.ge
  gfp := R.gfp
  grt := R.grt
  gok := R.gok
  fI := R.fI
  f0 := R.f0
  len := by rw [List.length_set, List.length_set]; exact R.len
  slot := fun k => by
    rw [at_set]
    by_cases h : k = i ∧ i < env.length
    · rw [if_pos h]
      exact h1 k (by rw [get_set, if_pos ⟨h.1, by rw [R.len]; exact h.2⟩]) h.1
    · rw [if_neg h]
      exact (R.slot k).of_eq (by rw [get_set, if_neg (by rw [R.len]; exact h)])
  dis := fun k j p ds es hkj e1 e2 q1 q2 => by
    rw [at_set] at e1 e2
    rw [get_set, R.len] at q1 q2
    by_cases hk : k = i ∧ i < env.length
    · have hj : ¬ (j = i ∧ i < env.length) := fun z => hkj (hk.1.trans z.1.symm)
      rw [if_pos hk] at e1 q1
      rw [if_neg hj] at e2 q2
      cases q1
      exact h2 p ds e1 rfl j es e2 q2
    · rw [if_neg hk] at e1 q1
      by_cases hj : j = i ∧ i < env.length
      · rw [if_pos hj] at e2 q2
        cases q2
        exact h2 p es e2 rfl k ds e1 q1
      · rw [if_neg hj] at e2 q2
        exact R.dis k j p ds es hkj e1 e2 q1 q2
theorem Rel.putD {i : Nat} {v : V} {d : D} (R : Rel K S w env g σ H) (r : Rp K w.I v d) : Rel K S w (env.set i (.sh d)) g (σ.set i (some v)) H :=
  R.put (fun k e _ => ⟨v, e, r⟩) fun p ds z => nomatch z
theorem Rel.putRaw {i : Nat} {v : V} (R : Rel K S w env g σ H) : Rel K S w (env.set i (.raw v)) g (σ.set i (some v)) H :=
  R.put (fun k e _ => e) fun p ds z => nomatch z
theorem Rel.putL {i : Nat} {p : Addr} {vs : List V} {ds : List D} (R : Rel K S w env g σ H) (n : Nob w env σ p) (hp : H p = some (.lst vs)) (ra : RpA K w.I vs ds) (hz : ds.length ≤ sizeLine) : Rel K S w (env.set i (.ow ds)) g (σ.set i (some (.ref p))) H :=
  R.put (fun k e _ => ⟨p, vs, e, hp, n.i, n.h0, n.f, ra, hz⟩) fun q es z e j fs ej => by cases e; exact n.o j fs ej
/-- a list of one's own is written -/
theorem Rel.setOw {j : Nat} {p : Addr} {vs us : List V} {ds es : List D} (R : Rel K S w env g σ H) (ej : env.at j = .ow ds) (sj : σ[j]? = some (some (.ref p))) (hp : H p = some (.lst vs)) (hi : w.I p = none) (h0 : w.H0 p = none) (hf : ¬ w.fp p)
    (ra : RpA K w.I us es) (hz : es.length ≤ sizeLine) : Rel K S w (env.set j (.ow es)) g σ (upd H p (.lst us)) where
  e0 := fun a o e => by
    have z : a ≠ p := fun z => by rw [z, h0] at e; cases e
    rw [upd_ne z]; exact R.e0 a o e
  eI := fun a o e => by
    have z : a ≠ p := fun z => by rw [z, hi] at e; cases e
    rw [upd_ne z]; exact R.eI a o e
  ag := R.ag
  ge := R.ge
  gfp := R.gfp
  grt := R.grt
  gok := S.loc (fun a ha => by
    have z : a ≠ p := fun z => hf (z ▸ (R.gfp a).mp ha)
    exact upd_ne z) R.gok
  fI := R.fI
  f0 := R.f0
  len := by rw [List.length_set]; exact R.len
  slot := fun k => by
    rw [at_set]
    by_cases h : k = j ∧ j < env.length
    · rw [if_pos h]
      refine ⟨p, us, by rw [h.1]; exact sj, upd_same, hi, h0, hf, ra, hz⟩
    · rw [if_neg h]
      have q := R.slot k
      cases e : env.at k with
      | un => trivial
      | sh d => rw [e] at q; exact q
      | st => rw [e] at q; exact q
      | raw v => rw [e] at q; exact q
      | ow fs =>
        rw [e] at q
        obtain ⟨a, ws, e1, hp', r⟩ := q
        have hkj : j ≠ k := fun z => by
          subst z
          refine h ⟨rfl, ?_⟩
          have := (List.getElem?_eq_some_iff.mp sj).1
          rw [R.len] at this; exact this
        have ne : a ≠ p := fun z => R.dis j k p ds fs hkj ej e sj (z ▸ e1)
        exact ⟨a, ws, e1, (upd_ne ne).trans hp', r⟩
  dis := fun k l q fs hs hkl e1 e2 q1 q2 => by
    have un : ∀ k fs, Env.at (env.set j (.ow es)) k = .ow fs → ∃ gs, env.at k = .ow gs := fun k fs e => by
      rw [at_set] at e
      by_cases h : k = j ∧ j < env.length
      · exact ⟨ds, by rw [h.1]; exact ej⟩
      · rw [if_neg h] at e; exact ⟨fs, e⟩
    obtain ⟨gs, f1⟩ := un k fs e1
    obtain ⟨gs', f2⟩ := un l hs e2
    exact R.dis k l q gs gs' hkl f1 f2 q1 q2
/-- a slot's own list becomes one that stands -/
def Env.frz (env : Env) (j : Nat) : Env := match env.at j with
  | .ow ds => env.set j (.sh (.list ds))
  | _ => env
theorem Rel.frz (j : Nat) (R : Rel K S w env g σ H) : ∃ I', Same w.I I' ∧ Rel K S (w.im I') (env.frz j) g σ H := by
  unfold Env.frz
  cases e : env.at j with
  | ow ds =>
    have q := R.slot j
    rw [e] at q
    obtain ⟨p, vs, e1, hp, hi, h0, hf, ra, hz⟩ := q
    refine ⟨upd w.I p (.lst vs), same_new hi, ?_⟩
    exact {
      e0 := R.e0
      eI := fun b u q => by
        have q : upd w.I p (.lst vs) b = some u := q
        by_cases z : b = p
        · subst z; rw [upd_same] at q; rw [hp]; exact q
        · rw [upd_ne z] at q; exact R.eI b u q
      ag := fun a u e => by
        have z : a ≠ p := fun z => by rw [z, h0] at e; cases e
        exact (upd_ne z).trans (R.ag a u e)
      ge := R.ge.trans (same_new hi)
      gfp := R.gfp
      grt := R.grt
      gok := R.gok
      fI := fun a ha => by
        have z : a ≠ p := fun z => hf (z ▸ ha)
        exact (upd_ne z).trans (R.fI a ha)
      f0 := R.f0
      len := by rw [List.length_set]; exact R.len
      slot := fun k => by
        rw [at_set]
        by_cases h : k = j ∧ j < env.length
        · rw [if_pos h]
          exact ⟨.ref p, by rw [h.1]; exact e1, .lst upd_same (ra.mono (same_new hi)) hz⟩
        · rw [if_neg h]
          have q := R.slot k
          cases e' : env.at k with
          | un => trivial
          | sh d => rw [e'] at q; obtain ⟨v, f1, r⟩ := q; exact ⟨v, f1, r.mono (same_new hi)⟩
          | st => rw [e'] at q; exact q
          | raw v => rw [e'] at q; exact q
          | ow fs =>
            rw [e'] at q
            obtain ⟨a, ws, f1, hp', hi', h0', hf', r, z⟩ := q
            have hkj : j ≠ k := fun z => by
              subst z
              refine h ⟨rfl, ?_⟩
              have := (List.getElem?_eq_some_iff.mp e1).1
              rw [R.len] at this; exact this
            have ne : a ≠ p := fun z => R.dis j k p ds fs hkj e e' e1 (z ▸ f1)
            exact ⟨a, ws, f1, hp', (upd_ne ne).trans hi', h0', hf', r.mono (same_new hi), z⟩
      dis := fun k l q fs hs hkl e1 e2 q1 q2 => by
        have un : ∀ k fs, Env.at (env.set j (.sh (.list ds))) k = .ow fs → env.at k = .ow fs := fun k fs e => by
          rw [at_set] at e
          by_cases h : k = j ∧ j < env.length
          · rw [if_pos h] at e; cases e
          · rw [if_neg h] at e; exact e
        exact R.dis k l q fs hs hkl (un k fs e1) (un l hs e2) q1 q2 }
  | _ => exact ⟨w.I, Same.refl _, R⟩

/-! ### a statement's reading -/
def Post {G : Type} (K : PySem.W.Frag) (S : Gs G) (w : Wd) (env' : Env) (g' : G) (D : Ends) : Ct → Prop
  | .nx => ∀ σ' I' H', Same w.I I' → Rel K S (w.im I') env' g' σ' H' → D.nx σ' H'
  | .br => ∀ σ' I' H', Same w.I I' → Rel K S (w.im I') env' g' σ' H' → D.bk σ' H'
  | .co => ∀ σ' I' H', Same w.I I' → Rel K S (w.im I') env' g' σ' H' → D.ct σ' H'
  | .re d => ∀ v σ' I' H', Same w.I I' → Rel K S (w.im I') env' g' σ' H' → Rp K I' v d → D.rt v H'
  | .rl ds => ∀ p vs σ' I' H', Same w.I I' → Rel K S (w.im I') env' g' σ' H' → Nob (w.im I') env' σ' p → H' p = some (.lst vs) → RpA K I' vs ds → ds.length ≤ sizeLine → D.rt (.ref p) H'
theorem Post.mono {D : Ends} {c : Ct} (s : Same w.I I') (h : Post K S w env' g' D c) : Post K S (w.im I') env' g' D c := by
  cases c with
  | nx => exact fun σ' I2 H2 s2 R => h σ' I2 H2 (s.trans s2) R
  | br => exact fun σ' I2 H2 s2 R => h σ' I2 H2 (s.trans s2) R
  | co => exact fun σ' I2 H2 s2 R => h σ' I2 H2 (s.trans s2) R
  | re d => exact fun v σ' I2 H2 s2 R => h v σ' I2 H2 (s.trans s2) R
  | rl ds => exact fun p vs σ' I2 H2 s2 R => h p vs σ' I2 H2 (s.trans s2) R
def tS {G : Type} (K : PySem.W.Frag) (S : Gs G) (m : MS G) : TS := fun D σ H => ∃ w env g c env' g', Rel K S w env g σ H ∧ m env g = some (c, env', g') ∧ Post K S w env' g' D c
abbrev DS {G : Type} (X : Cx) (S : Gs G) (st : Stmt) (m : MS G) : Prop := PS X st (tS X.K S m)
abbrev DB {G : Type} (X : Cx) (S : Gs G) (st : List Stmt) (m : MS G) : Prop := PSs X st (tS X.K S m)

def mSkip : MS G := fun env g => some (.nx, env, g)
def mSeq (m1 m2 : MS G) : MS G := fun env g => match m1 env g with
  | some (.nx, env1, g1) => m2 env1 g1
  | x => x
theorem db_nil : DB X S [] mSkip := PSs.imp pss_nil fun D σ H ⟨w, env, g, c, env', g', R, e, k⟩ => by
  cases e
  exact k σ w.I H (Same.refl _) R
theorem ts_seq {D : Ends} (h : tS X.K S (mSeq m1 m2) D σ H) : tSeq (tS X.K S m1) (tS X.K S m2) D σ H := by
  obtain ⟨w, env, g, c, env', g', R, e, k⟩ := h
  unfold mSeq at e
  cases e1 : m1 env g with
  | none => rw [e1] at e; cases e
  | some r =>
    obtain ⟨c1, env1, g1⟩ := r
    rw [e1] at e
    refine ⟨w, env, g, c1, env1, g1, R, e1, ?_⟩
    cases c1 with
    | nx => exact fun σ' I' H' s' R' => ⟨w.im I', env1, g1, c, env', g', R', e, k.mono s'⟩
    | _ => cases e; exact k
theorem db_cons (h1 : DS X S st m1) (h2 : DB X S sts m2) : DB X S (st :: sts) (mSeq m1 m2) := PSs.imp (pss_cons h1 h2) fun _ _ _ h => ts_seq h
theorem db_one (h : DS X S st m) : DB X S [st] m := pss_one h
def mBreak : MS G := fun env g => some (.br, env, g)
def mCont : MS G := fun env g => some (.co, env, g)
theorem ds_pass : DS X S (.Pass pos) mSkip := PS.imp ps_pass fun D σ H ⟨w, env, g, c, env', g', R, e, k⟩ => by cases e; exact k σ w.I H (Same.refl _) R
theorem ds_break : DS X S (.Break pos) mBreak := PS.imp ps_break fun D σ H ⟨w, env, g, c, env', g', R, e, k⟩ => by cases e; exact k σ w.I H (Same.refl _) R
theorem ds_continue : DS X S (.Continue pos) mCont := PS.imp ps_continue fun D σ H ⟨w, env, g, c, env', g', R, e, k⟩ => by cases e; exact k σ w.I H (Same.refl _) R
def mDrop (ma : ME G) : MS G := fun env g => bD (ma env g) fun _ g1 => some (.nx, env, g1)
theorem ds_expr (h : DE X S e ma) (hs : swapsWith e none pos.line X.env = pure false := by rfl) : DS X S (.Expr e pos) (mDrop ma) := PS.imp (ps_expr h hs) fun D σ H ⟨w, env, g, c, env', g', R, e, k⟩ => by
  obtain ⟨x, g1, e1, e⟩ := bD_some e
  cases e
  exact ⟨w, env, g, x, g', R, e1, fun v I' H' s' R' _ => k σ I' H' s' R'⟩
def mRet (ma : ME G) : MS G := fun env g => bD (ma env g) fun d g1 => some (.re d, env, g1)
theorem ds_ret (h : DE X S e ma) : DS X S (.Return (some e) pos) (mRet ma) := PS.imp (ps_ret h) fun D σ H ⟨w, env, g, c, env', g', R, e, k⟩ => by
  obtain ⟨x, g1, e1, e⟩ := bD_some e
  cases e
  exact ⟨w, env, g, x, g', R, e1, fun v I' H' s' R' p => k v σ I' H' s' R' p⟩
def mRetN : MS G := fun env g => some (.re .none, env, g)
theorem ds_retN : DS X S (.Return none pos) mRetN := PS.imp ps_retN fun D σ H ⟨w, env, g, c, env', g', R, e, k⟩ => by
  cases e
  exact k .non σ w.I H (Same.refl _) R .non
def mRetF (ml : ML G) : MS G := fun env g => bD (ml env g) fun ds g1 => some (.rl ds, env, g1)
theorem ds_retF (h : DF X S e ml) : DS X S (.Return (some e) pos) (mRetF ml) := PS.imp (ps_ret h) fun D σ H ⟨w, env, g, c, env', g', R, e, k⟩ => by
  obtain ⟨x, g1, e1, e⟩ := bD_some e
  cases e
  exact ⟨w, env, g, x, g', R, e1, fun p vs I' H' s' R' n hp ra hz => k p vs σ I' H' s' R' n hp ra hz⟩
/-- a slot that is not asked any more -/
theorem Rel.forget {i : Nat} (R : Rel K S w env g σ H) : Rel K S w (env.set i .un) g σ H where
  e0 := R.e0
  eI := R.eI
  ag := R.ag
  ge := R.ge
  gfp := R.gfp
  grt := R.grt
  gok := R.gok
  fI := R.fI
  f0 := R.f0
  len := by rw [List.length_set]; exact R.len
  slot := fun k => by
    rw [at_set]
    by_cases h : k = i ∧ i < env.length
    · rw [if_pos h]; trivial
    · rw [if_neg h]; exact R.slot k
  dis := fun k j p ds es hkj e1 e2 q1 q2 => by
    rw [at_set] at e1 e2
    by_cases hk : k = i ∧ i < env.length
    · rw [if_pos hk] at e1; cases e1
    · by_cases hj : j = i ∧ i < env.length
      · rw [if_pos hj] at e2; cases e2
      · rw [if_neg hk] at e1; rw [if_neg hj] at e2
        exact R.dis k j p ds es hkj e1 e2 q1 q2
/-- return a list of one's own -/
def mRetOw (j : Nat) : MS G := fun env g => match env.at j with
  | .ow ds => some (.rl ds, env.set j .un, g)
  | .sh d => some (.re d, env, g)
  | _ => none
theorem ds_retOw (j : Nat) {x : Str} {pos' : Pos} (hN : X.N[j]? = some x := by rfl) (hv : Vis X.env.scope x := by first | exact Or.inl rfl | exact Or.inr (Or.inl rfl) | exact Or.inr (Or.inr rfl)) (hd : (x == ("__debug__" : Str)) = false := by decide)
    (hcd : (x == ("__classdict__" : Str)) = false := by decide) : DS X S (.Return (some (.Name x pos')) pos) (mRetOw j) := PS.imp (ps_ret (pe_var hN hv hd hcd)) fun D σ H ⟨w, env, g, c, env', g', R, e, k⟩ => by
  have q := R.slot j
  unfold mRetOw at e
  cases z : env.at j with
  | ow ds =>
    rw [z] at e q
    cases e
    obtain ⟨p, vs, e1, hp, hi, h0, hf, ra, hz⟩ := q
    have jl : j < env.length := by rw [← R.len]; exact (List.getElem?_eq_some_iff.mp e1).1
    refine ⟨_, e1, k p vs σ w.I H (Same.refl _) R.forget ⟨hi, h0, hf, fun i es ei si => ?_⟩ hp ra hz⟩
    rw [at_set] at ei
    by_cases hij : i = j ∧ j < env.length
    · rw [if_pos hij] at ei; cases ei
    · rw [if_neg hij] at ei
      exact R.dis j i p ds es (fun q => hij ⟨q.symm, jl⟩) z ei e1 si
  | sh d =>
    rw [z] at e q
    cases e
    obtain ⟨v, e1, r⟩ := q
    exact ⟨v, e1, k v σ w.I H (Same.refl _) R r⟩
  | _ => rw [z] at e; cases e
def mIfS (mt : MT G) (m1 m2 : MS G) : MS G := fun env g => bD (mt env g) fun b g1 => if b = true then m1 env g1 else m2 env g1
theorem ds_if {sts2 : List Stmt} (hc : DT X S c mt) (h1 : DB X S sts m1) (h2 : DB X S sts2 m2) : DS X S (.If c sts sts2 pos) (mIfS mt m1 m2) := PS.imp (ps_if hc h1 h2) fun D σ H ⟨w, env, g, c, env', g', R, e, k⟩ => by
  obtain ⟨x, g1, e1, e⟩ := bD_some e
  refine ⟨w, env, g, x, g1, R, e1, fun I' H' s' R' => ?_⟩
  cases x with
  | true => exact ⟨w.im I', env, g1, c, env', g', R', e, k.mono s'⟩
  | false => exact ⟨w.im I', env, g1, c, env', g', R', e, k.mono s'⟩
/-- a list of one's own is handed out from here on -/
def mFrz (j : Nat) (m : MS G) : MS G := fun env g => m (env.frz j) g
theorem ds_frz (j : Nat) (h : DS X S st m) : DS X S st (mFrz j m) := PS.imp h fun D σ H ⟨w, env, g, c, env', g', R, e, k⟩ => by
  obtain ⟨I', s', R'⟩ := R.frz j
  exact ⟨w.im I', env.frz j, g, c, env', g', R', e, k.mono s'⟩

/-! ### x = e -/
def mSet (i : Nat) (ma : ME G) : MS G := fun env g => bD (ma env g) fun d g1 => some (.nx, env.set i (.sh d), g1)
def mSetF (i : Nat) (ml : ML G) : MS G := fun env g => bD (ml env g) fun ds g1 => some (.nx, env.set i (.ow ds), g1)
theorem ts_set {i : Nat} {D : Ends} (h : tS X.K S (mSet i ma) D σ H) : tAsg (tE X.K S ma) (gName i) D σ H := by
  obtain ⟨w, env, g, c, env', g', R, e, k⟩ := h
  obtain ⟨x, g1, e1, e⟩ := bD_some e
  cases e
  exact ⟨w, env, g, x, g', R, e1, fun v I' H' s' R' p => k _ I' H' s' (R'.putD p)⟩
theorem ts_setF {i : Nat} {D : Ends} (h : tS X.K S (mSetF i ml) D σ H) : tAsg (tF X.K S ml) (gName i) D σ H := by
  obtain ⟨w, env, g, c, env', g', R, e, k⟩ := h
  obtain ⟨x, g1, e1, e⟩ := bD_some e
  cases e
  exact ⟨w, env, g, x, g', R, e1, fun p vs I' H' s' R' n hp ra hz => k _ I' H' s' (R'.putL n hp ra hz)⟩
theorem ds_set {i : Nat} {x : Str} {pos' : Pos} (hN : X.N.Nodup) (hi : X.N[i]? = some x) (hx : Loc X.env.scope x) (he : DE X S e ma) (hs : swapsWith e (some (.Name x pos')) pos.line X.env = pure false := by rfl)
    (hf : X.fn x = true ∨ X.env.scope.names.lookup x = some .local := by first | exact .inl rfl | exact .inr rfl | assumption) : DS X S (.Assign [.Name x pos'] e pos) (mSet i ma) := PS.imp (ps_set hN hi hx he hs hf) fun _ _ _ h => ts_set h
theorem ds_setF {i : Nat} {x : Str} {pos' : Pos} (hN : X.N.Nodup) (hi : X.N[i]? = some x) (hx : Loc X.env.scope x) (he : DF X S e ml) (hs : swapsWith e (some (.Name x pos')) pos.line X.env = pure false := by rfl)
    (hf : X.fn x = true ∨ X.env.scope.names.lookup x = some .local := by first | exact .inl rfl | exact .inr rfl | assumption) : DS X S (.Assign [.Name x pos'] e pos) (mSetF i ml) := PS.imp (ps_set hN hi hx he hs hf) fun _ _ _ h => ts_setF h

/-! ### targets -/
abbrev MTg := D → Env → Option Env
def tTg {G : Type} (K : PySem.W.Frag) (S : Gs G) (idx : List Nat) (b : MTg) : TG := fun v σ H Q => ∃ w env g d env', Rel K S w env g σ H ∧ Rp K w.I v d ∧ b d env = some env' ∧
  ∀ σ' H', Rel K S w env' g σ' H' → σ'.length = σ.length → (∀ k, k ∉ idx → σ'[k]? = σ[k]?) → Q σ' H'
structure DTg {G : Type} (X : Cx) (S : Gs G) (tg : Expr) (idx : List Nat) (b : MTg) : Prop where
  pg : PG X tg (tTg X.K S idx b)
  ok : ∀ d env env', b d env = some env' → env'.length = env.length ∧ ∀ k, k ∉ idx → env'.at k = env.at k
def bName (i : Nat) : MTg := fun d env => some (env.set i (.sh d))
theorem PG.imp {tg : Expr} {t t' : TG} (h : PG X tg t) (i : ∀ v σ H Q, t' v σ H Q → t v σ H Q) : PG X tg t' := ⟨fun pins s σ H v u Q I r q => h.run pins s σ H v u Q I r (i _ _ _ _ q)⟩
theorem dg_name {i : Nat} {x : Str} (hN : X.N.Nodup) (hi : X.N[i]? = some x) (hx : Loc X.env.scope x) (hf : X.fn x = true ∨ X.env.scope.names.lookup x = some .local := by first | exact .inl rfl | exact .inr rfl | assumption) : DTg X S (.Name x pos) [i] (bName i) where
  pg := PG.imp (pg_name hN hi hx hf) fun v σ H Q ⟨w, env, g, d, env', R, p, e, k⟩ => by
    cases e
    exact k _ _ (R.putD p) (by rw [List.length_set]) fun j hj => by rw [get_set, if_neg (fun z => hj (by simp [z.1]))]
  ok := fun d env env' e => by
    cases e
    exact ⟨by rw [List.length_set], fun k hk => by rw [at_set, if_neg (fun z => hk (by simp [z.1]))]⟩
abbrev MTgs := List D → Env → Option Env
def tTgs {G : Type} (K : PySem.W.Frag) (S : Gs G) (idx : List Nat) (b : MTgs) : TGs := fun vs σ H Q => ∃ w env g ds env', Rel K S w env g σ H ∧ RpA K w.I vs ds ∧ b ds env = some env' ∧
  ∀ σ' H', Rel K S w env' g σ' H' → σ'.length = σ.length → (∀ k, k ∉ idx → σ'[k]? = σ[k]?) → Q σ' H'
structure DTgs {G : Type} (X : Cx) (S : Gs G) (tgs : List Expr) (idx : List Nat) (b : MTgs) : Prop where
  pg : PGs X tgs (tTgs X.K S idx b)
  ok : ∀ d env env', b d env = some env' → env'.length = env.length ∧ ∀ k, k ∉ idx → env'.at k = env.at k
theorem PGs.imp {tg : List Expr} {t t' : TGs} (h : PGs X tg t) (i : ∀ v σ H Q, t' v σ H Q → t v σ H Q) : PGs X tg t' := ⟨fun pins s σ H v u Q I r q => h.run pins s σ H v u Q I r (i _ _ _ _ q)⟩
def bNil : MTgs := fun ds env => match ds with
  | [] => some env
  | _ => none
def bCons (b : MTg) (bs : MTgs) : MTgs := fun ds env => match ds with
  | d :: r => (b d env).bind fun env1 => bs r env1
  | _ => none
theorem dgs_nil : DTgs X S [] [] bNil where
  pg := PGs.imp pgs_nil fun v σ H Q ⟨w, env, g, d, env', R, p, e, k⟩ => by
    cases p with
    | nil => cases e; exact ⟨rfl, k σ H R rfl fun _ _ => rfl⟩
    | cons _ _ => cases e
  ok := fun d env env' e => by
    cases d with
    | nil => cases e; exact ⟨rfl, fun _ _ => rfl⟩
    | cons _ _ => cases e
theorem dgs_cons {i1 i2 : List Nat} {b1 : MTg} {b2 : MTgs} (h1 : DTg X S e i1 b1) (h2 : DTgs X S es i2 b2) (hs : (assignEach (e :: es) X.env).map (·.2) = assign e X.env :: (assignEach es X.env).map (·.2) := by rfl) : DTgs X S (e :: es) (i1 ++ i2) (bCons b1 b2) where
  pg := PGs.imp (pgs_cons h1.pg h2.pg hs) fun v σ H Q ⟨w, env, g, d, env', R, p, e, k⟩ => by
    cases p with
    | nil => cases e
    | cons p ps =>
      obtain ⟨env1, e1, e⟩ := Option.bind_eq_some_iff.mp e
      refine ⟨_, _, rfl, w, env, g, _, env1, R, p, e1, fun σ1 H1 R1 l1 f1 => ⟨w, env1, g, _, env', R1, ps, e, fun σ2 H2 R2 l2 f2 => k σ2 H2 R2 (l2.trans l1) fun j hj => ?_⟩⟩
      rw [List.mem_append] at hj
      exact (f2 j fun z => hj (.inr z)).trans (f1 j fun z => hj (.inl z))
  ok := fun d env env' e => by
    cases d with
    | nil => cases e
    | cons d ds =>
      obtain ⟨env1, e1, e⟩ := Option.bind_eq_some_iff.mp e
      have h3 := h1.ok _ _ _ e1
      have h4 := h2.ok _ _ _ e
      refine ⟨h4.1.trans h3.1, fun k hk => ?_⟩
      rw [List.mem_append] at hk
      exact (h4.2 k fun z => hk (.inr z)).trans (h3.2 k fun z => hk (.inl z))
def bTup (n : Nat) (bs : MTgs) : MTg := fun d env => match d with
  | .tuple ds => if ds.length = n then bs ds env else none
  | _ => none
theorem dg_tup {k n : Nat} {idx : List Nat} {bs : MTgs} (hc : X.calm = true) (h : DTgs X S es idx bs) (hn : (assignEach es X.env).length = n := by rfl) (hst : (assignEach es X.env).findIdx? (·.1) = none := by rfl) : DTg X S (.Tuple es k pos) idx (bTup n bs) where
  pg := PG.imp (pg_tup hc h.pg hn hst) fun v σ H Q ⟨w, env, g, d, env', R, p, e, k⟩ => by
    cases p with
    | tup hp ra hz =>
      have e : (if _ = n then _ else none) = some env' := e
      split at e
      · rename_i hl
        exact ⟨_, _, rfl, same_t R.eI hp, by rw [ra.len]; exact hl, w, env, g, _, env', R, ra, e, k⟩
      · cases e
    | _ => cases e
  ok := fun d env env' e => by
    cases d with
    | tuple ds =>
      have e : (if _ = n then _ else none) = some env' := e
      split at e
      · exact h.ok _ _ _ e
      · cases e
    | _ => cases e
/-- x[i] as a target, x a list of one's own, i written -/
def bSub (j : Nat) (i : Int) : MTg := fun d env => match env.at j with
  | .ow ds => (ixN ds.length i).map fun k => env.set j (.ow (ds.set k d))
  | _ => none
def mSubI (j : Nat) (mi : ME Unit) : MTg := fun d env => match mi env (), env.at j with
  | some (.int i, _), .ow ds => (ixN ds.length i).map fun k => env.set j (.ow (ds.set k d))
  | _, _ => none
/-- a, b = c, d of plain names -/
def mPar (i j : Nat) (ml : ML G) : MS G := fun env g => bD (ml env g) fun ds g1 => match ds with
  | [x, y] => some (.nx, (env.set i (.sh x)).set j (.sh y), g1)
  | _ => none
theorem ds_par {i j : Nat} {x y : Str} {a b : Expr} {px py pt : Pos} {kt k2 pt2} (hc : X.calm = true) (hN : X.N.Nodup) (hi : X.N[i]? = some x) (hj : X.N[j]? = some y) (hij : i ≠ j)
    (hx : X.env.scope.names.lookup x = some .local) (hy : X.env.scope.names.lookup y = some .local) (ha : DA X S [a, b] ml)
    (hw : swappedStores [.Tuple [.Name x px, .Name y py] kt pt] (.Tuple [a, b] k2 pt2) X.env = pure (some [x, y]))
    (hs : swapsWithSole [.Tuple [.Name x px, .Name y py] kt pt] (.Tuple [a, b] k2 pt2) pos.line X.env = pure false := by rfl) :
    DS X S (.Assign [.Tuple [.Name x px, .Name y py] kt pt] (.Tuple [a, b] k2 pt2) pos) (mPar i j ml) := PS.imp (ps_par hc hN hi hj hij hx hy ha hw hs) fun D σ H ⟨w, env, g, c, env', g', R, e, k⟩ => by
  obtain ⟨ds, g1, e1, e⟩ := bD_some e
  split at e
  · cases e
    refine ⟨w, env, g, _, g', R, e1, fun vs I' H' s' R' ra => ?_⟩
    cases ra with
    | cons r1 ra =>
      cases ra with
      | cons r2 ra =>
        cases ra
        exact ⟨_, _, rfl, k _ I' H' s' ((R'.putD r1).putD r2)⟩
  · cases e
/-- a, b = e -/
def mAsg (b : MTg) (ma : ME G) : MS G := fun env g => bD (ma env g) fun d g1 => (b d env).map fun env1 => (.nx, env1, g1)
theorem ds_asg {tg : Expr} {idx : List Nat} {bt : MTg} (he : DE X S e ma) (hg : DTg X S tg idx bt) (hs : swapsWithSole [tg] e pos.line X.env = pure false := by rfl) (hw : swappedStores [tg] e X.env = pure none := by rfl)
    (h1 : (assignEach [tg] X.env).map (·.2) = [assign tg X.env] := by rfl) : DS X S (.Assign [tg] e pos) (mAsg bt ma) := PS.imp (ps_asg he hg.pg hs hw h1) fun D σ H ⟨w, env, g, c, env', g', R, e, k⟩ => by
  obtain ⟨x, g1, e1, e⟩ := bD_some e
  obtain ⟨env1, e2, e⟩ := Option.map_eq_some_iff.mp e
  cases e
  exact ⟨w, env, g, x, g', R, e1, fun v I' H' s' R' p => ⟨w.im I', env, g', x, env', R', p, e2, fun σ' H2 R2 _ _ => k σ' I' H2 s' R2⟩⟩
end
end Pd

/-! Pd: what is walked, loops, comprehensions. -/
namespace Pd
open PySem PySem.Spec L2
section
variable {G : Type} {X : Cx} {S : Gs G} {a b c e : Expr} {es rest : List Expr} {pos : Pos} {ma mb mc : ME G} {mt mu : MT G} {ml : ML G} {st : Stmt} {sts body : List Stmt} {m m1 m2 : MS G} {tg iter : Expr}
variable {K : PySem.W.Frag} {w : Wd} {env env' : Env} {g g' : G} {σ : St} {H H' I' : Hp}

/-! ### what is walked: it yields data, whatever stands behind -/
structure ItOk (K : PySem.W.Frag) (J : It) (I : Hp) (ds : List D) : Prop where
  go : ∀ i I' H', i < ds.length → Same I I' → Same I' H' → J.go i H'
  yl : ∀ i I' H' x H'' d, ds[i]? = some d → Same I I' → Same I' H' → J.yld i H' x H'' → ∃ I'', Pst I' H' I'' H'' ∧ Rp K I'' x d
  st : ∀ i I' H', ds.length ≤ i → Same I I' → Same I' H' → J.stop i H'
def tI {G : Type} (K : PySem.W.Frag) (S : Gs G) (m : ML G) : TI := fun σ H R => ∃ w env g ds g', Rel K S w env g σ H ∧ m env g = some (ds, g') ∧
  ∀ J I' H', Same w.I I' → Rel K S (w.im I') env g' σ H' → ItOk K J I' ds → ds.length ≤ sizeLine → R J H'
abbrev DI {G : Type} (X : Cx) (S : Gs G) (tg iter : Expr) (m : ML G) : Prop := PI X tg iter (tI X.K S m)
theorem PI.imp {t t' : TI} (h : PI X tg iter t) (i : ∀ σ H R, t' σ H R → t σ H R) : PI X tg iter t' := ⟨fun pins s σ H R I q => h.run pins s σ H R I (i _ _ _ q)⟩
def mItL (ma : ME G) : ML G := fun env g => bD (ma env g) fun x g1 => match x with
  | .list ds => some (ds, g1)
  | _ => none
def mItT (ma : ME G) : ML G := fun env g => bD (ma env g) fun x g1 => match x with
  | .tuple ds => some (ds, g1)
  | _ => none
def mItS (ma : ME G) : ML G := fun env g => bD (ma env g) fun x g1 => match x with
  | .str z => some (z.cps.toList.map fun c => .str ⟨#[c]⟩, g1)
  | _ => none
theorem lst_seq {K : PySem.W.Frag} {H : Hp} {p : Addr} {vs xs : List V} (hp : H p = some (.lst vs)) (h : Rd H p (.lst xs)) : xs = vs := by
  rcases h with h | ⟨o, h⟩
  · rw [hp] at h; cases h; rfl
  · rw [hp] at h; cases h
theorem itl_ok {p : Addr} {vs : List V} {ds : List D} {I : Hp} (hp : I p = some (.lst vs)) (ra : RpA K I vs ds) : ItOk K (Itl K p) I ds where
  go := fun i I' H' hi s1 s2 => by
    have hv : i < vs.length := by rw [ra.len]; exact hi
    exact ⟨vs, vs[i], SqL.of (s2 _ _ (s1 _ _ hp)), by simp [hv]⟩
  yl := fun i I' H' x H'' d hd s1 s2 y => by
    obtain ⟨e, y⟩ := y
    subst e
    have hx := y vs (SqL.of (s2 _ _ (s1 _ _ hp)))
    obtain ⟨d', e1, r⟩ := ra.getV hx
    rw [hd] at e1
    cases e1
    exact ⟨I', Pst.refl s2, r.mono s1⟩
  st := fun i I' H' hi s1 s2 => ⟨vs, SqL.of (s2 _ _ (s1 _ _ hp)), by rw [ra.len]; exact hi⟩
theorem itt_ok {p : Addr} {vs : List V} {ds : List D} {I : Hp} (hp : SqT K I p vs) (ra : RpA K I vs ds) : ItOk K (Itt K p) I ds where
  go := fun i I' H' hi s1 s2 => by
    have hv : i < vs.length := by rw [ra.len]; exact hi
    exact ⟨vs, vs[i], same_t s2 (same_t s1 hp), by simp [hv]⟩
  yl := fun i I' H' x H'' d hd s1 s2 y => by
    obtain ⟨e, y⟩ := y
    subst e
    have hx := y vs (same_t s2 (same_t s1 hp))
    obtain ⟨d', e1, r⟩ := ra.getV hx
    rw [hd] at e1
    cases e1
    exact ⟨I', Pst.refl s2, r.mono s1⟩
  st := fun i I' H' hi s1 s2 => ⟨vs, same_t s2 (same_t s1 hp), by rw [ra.len]; exact hi⟩
theorem di_list (ha : DE X S a ma) : DI X S tg a (mItL ma) := PI.imp (pi_list ha) fun σ H R ⟨w, env, g, ds, g', Re, e, k⟩ => by
  obtain ⟨x, g1, e1, e⟩ := bD_some e
  cases x with
  | list xs =>
    cases e
    refine ⟨w, env, g, _, g', Re, e1, fun v I' H' s' R' p => ?_⟩
    cases p with
    | lst hp ra hz => exact ⟨_, rfl, ⟨_, SqL.of (R'.eI _ _ hp)⟩, k _ I' H' s' R' (itl_ok hp ra) hz⟩
  | _ => cases e
theorem di_tup (ha : DE X S a ma) : DI X S tg a (mItT ma) := PI.imp (pi_tup ha) fun σ H R ⟨w, env, g, ds, g', Re, e, k⟩ => by
  obtain ⟨x, g1, e1, e⟩ := bD_some e
  cases x with
  | tuple xs =>
    cases e
    refine ⟨w, env, g, _, g', Re, e1, fun v I' H' s' R' p => ?_⟩
    cases p with
    | tup hp ra hz => exact ⟨_, rfl, ⟨_, same_t R'.eI hp⟩, k _ I' H' s' R' (itt_ok hp ra) hz⟩
  | _ => cases e
theorem di_str (ha : DE X S a ma) : DI X S tg a (mItS ma) := PI.imp (pi_str ha) fun σ H R ⟨w, env, g, ds, g', Re, e, k⟩ => by
  obtain ⟨x, g1, e1, e⟩ := bD_some e
  cases x with
  | str z =>
    cases e
    refine ⟨w, env, g, _, g', Re, e1, fun v I' H' s' R' p => ?_⟩
    cases p with
    | str hz =>
      have hl : (z.cps.toList.map fun c => (PyData.str ⟨#[c]⟩ : D)).length = z.cps.size := by rw [List.length_map, Array.length_toList]
      refine ⟨z, rfl, k _ I' H' s' R' ⟨fun i I2 H2 hi _ _ => ?_, fun i I2 H2 x H3 d hd _ s2 y => ?_, fun i I2 H2 hi _ _ => ?_⟩ ?_⟩
      · show i < z.cps.size
        rw [hl] at hi; exact hi
      · obtain ⟨e, c, ec, ex⟩ := y
        subst e; subst ex
        rw [List.getElem?_map, Array.getElem?_toList, ec] at hd
        cases hd
        exact ⟨I2, Pst.refl s2, .str (sok_char hz (by rw [← Array.getElem?_toList] at ec; exact List.mem_of_getElem? ec))⟩
      · show z.cps.size ≤ i
        rw [hl] at hi; exact hi
      · rw [hl]; exact hz.1
  | _ => cases e
/-- lo, lo + 1, .. -/
def rng (lo : Int) (n : Nat) : List D := (List.range n).map fun (k : Nat) => .int (lo + (k : Int))
theorem rng_get {lo : Int} {n i : Nat} (h : i < n) : (rng lo n)[i]? = some (.int (lo + (i : Int))) := by
  unfold rng
  rw [List.getElem?_map, List.getElem?_range h]; rfl
theorem rng_len (lo : Int) (n : Nat) : (rng lo n).length = n := by unfold rng; rw [List.length_map, List.length_range]
theorem itr_ok (lo : Int) (n : Nat) (I : Hp) : ItOk K (Itr lo n) I (rng lo n) where
  go := fun i I' H' hi _ _ => by rw [rng_len] at hi; exact hi
  yl := fun i I' H' x H'' d hd s1 s2 y => by
    obtain ⟨e, ex⟩ := y
    subst e; subst ex
    have hi : i < n := by
      have := (List.getElem?_eq_some_iff.mp hd).1
      rw [rng_len] at this; exact this
    rw [rng_get hi] at hd
    cases hd
    exact ⟨I', Pst.refl s2, .int _⟩
  st := fun i I' H' hi _ _ => by rw [rng_len] at hi; exact hi
def mRng1 (ml : ML G) : ML G := fun env g => bD (ml env g) fun xs g1 => match xs with
  | [.int j] => if -16777216 < j ∧ j < 16777216 then some (rng 0 j.toNat, g1) else none
  | _ => none
def mRng2 (ml : ML G) : ML G := fun env g => bD (ml env g) fun xs g1 => match xs with
  | [.int i, .int j] => if (-16777216 < i ∧ i < 16777216) ∧ -16777216 < j ∧ j < 16777216 ∧ j - i < 16777216 then some (rng i (j - i).toNat, g1) else none
  | _ => none
theorem line_val : sizeLine = 16777216 := sizeLine_eq
theorem di_range1 {p : Pos} (hg : Gl X "range") (hm : X.mg "range" = none) (ha : DA X S [a] ml) (hs : starEach [a] X.env = [(false, eval a X.env)] := by rfl) : DI X S tg (.Call (.Name "range" p) [a] [] pos) (mRng1 ml) := PI.imp (pi_range1 hg hm ha hs) fun σ H R ⟨w, env, g, ds, g', Re, e, k⟩ => by
  obtain ⟨x, g1, e1, e⟩ := bD_some e
  split at e
  · rename_i j
    split at e
    · rename_i hj
      cases e
      refine ⟨w, env, g, _, g', Re, e1, fun vs I' H' s' R' p => ?_⟩
      cases p with
      | cons p q =>
        cases p
        cases q
        exact ⟨j, rfl, by omega, by omega, k _ I' H' s' R' (itr_ok 0 j.toNat I') (by rw [rng_len, line_val]; omega)⟩
    · cases e
  · cases e
theorem di_range2 {p : Pos} (hg : Gl X "range") (hm : X.mg "range" = none) (ha : DA X S [a, b] ml) (hs : starEach [a, b] X.env = [(false, eval a X.env), (false, eval b X.env)] := by rfl) (hs2 : starEach [b] X.env = [(false, eval b X.env)] := by rfl) :
    DI X S tg (.Call (.Name "range" p) [a, b] [] pos) (mRng2 ml) := PI.imp (pi_range2 hg hm ha hs hs2) fun σ H R ⟨w, env, g, ds, g', Re, e, k⟩ => by
  obtain ⟨x, g1, e1, e⟩ := bD_some e
  split at e
  · rename_i i j
    split at e
    · rename_i hj
      cases e
      refine ⟨w, env, g, _, g', Re, e1, fun vs I' H' s' R' p => ?_⟩
      cases p with
      | cons p q =>
        cases p
        cases q with
        | cons p q =>
          cases p
          cases q
          exact ⟨i, j, rfl, ⟨by omega, by omega, by omega, by omega⟩, k _ I' H' s' R' (itr_ok i (j - i).toNat I') (by rw [rng_len, line_val]; omega)⟩
    · cases e
  · cases e
/-- pairs of the place and the item -/
def enm : Nat → List D → List D
  | _, [] => []
  | n, d :: ds => .tuple [.int (n : Int), d] :: enm (n + 1) ds
theorem enm_get : ∀ {n : Nat} {ds : List D} {i : Nat} {t : D}, (enm n ds)[i]? = some t → ∃ d, ds[i]? = some d ∧ t = .tuple [.int ((n + i : Nat) : Int), d]
  | _, [], _, _, h => by simp [enm] at h
  | n, d :: ds, 0, t, h => by
    simp only [enm, List.getElem?_cons_zero, Option.some.injEq] at h
    exact ⟨d, rfl, h.symm⟩
  | n, d :: ds, i + 1, t, h => by
    simp only [enm, List.getElem?_cons_succ] at h
    obtain ⟨x, h1, h2⟩ := enm_get h
    exact ⟨x, by simpa using h1, by rw [h2]; congr 3; omega⟩
theorem enm_len : ∀ (n : Nat) (ds : List D), (enm n ds).length = ds.length
  | _, [] => rfl
  | n, d :: ds => by simp only [enm, List.length_cons, enm_len (n + 1) ds]
theorem ite_ok {p : Addr} {vs : List V} {ds : List D} {I : Hp} (hp : I p = some (.lst vs)) (ra : RpA K I vs ds) : ItOk K (Ite K p) I (enm 0 ds) where
  go := fun i I' H' hi s1 s2 => by
    rw [enm_len] at hi
    have hv : i < vs.length := by rw [ra.len]; exact hi
    exact ⟨vs, vs[i], SqL.of (s2 _ _ (s1 _ _ hp)), by simp [hv]⟩
  yl := fun i I' H' x H'' d hd s1 s2 y => by
    obtain ⟨T, u, ex, hT, eH, y⟩ := y
    subst ex; subst eH
    obtain ⟨d0, h1, rfl⟩ := enm_get hd
    have hx := y vs (SqL.of (s2 _ _ (s1 _ _ hp)))
    obtain ⟨d', e1, r⟩ := ra.getV hx
    rw [h1] at e1
    cases e1
    have ps := Pst.new (p := T) (o := .tup [.int (i : Nat), u]) s2 hT
    refine ⟨_, ps, .tup (SqT.of upd_same) ?_ (by show 2 ≤ sizeLine; decide)⟩
    rw [Nat.zero_add]
    exact .cons (.int _) (.cons ((r.mono s1).mono ps.eI) .nil)
  st := fun i I' H' hi s1 s2 => ⟨vs, SqL.of (s2 _ _ (s1 _ _ hp)), by rw [enm_len] at hi; rw [ra.len]; exact hi⟩
def mEnum (ml : ML G) : ML G := fun env g => bD (ml env g) fun xs g1 => match xs with
  | [.list ds] => some (enm 0 ds, g1)
  | _ => none
theorem di_enum {p tpos : Pos} {elts : List Expr} {kk : Nat} (hg : Gl X "enumerate") (hm : X.mg "enumerate" = none) (ha : DA X S [a] ml) (hs : starEach [a] X.env = [(false, eval a X.env)] := by rfl) :
    DI X S (.Tuple elts kk tpos) (.Call (.Name "enumerate" p) [a] [] pos) (mEnum ml) := PI.imp (pi_enum hg hm ha hs) fun σ H R ⟨w, env, g, ds, g', Re, e, k⟩ => by
  obtain ⟨x, g1, e1, e⟩ := bD_some e
  split at e
  · cases e
    refine ⟨w, env, g, _, g', Re, e1, fun vs I' H' s' R' p => ?_⟩
    cases p with
    | cons p q =>
      cases q
      cases p with
      | lst hp ra hz => exact ⟨_, _, rfl, SqL.of (R'.eI _ _ hp), k _ I' H' s' R' (ite_ok hp ra) (by rw [enm_len]; exact hz)⟩
  · cases e
def zipD : List D → List D → List D
  | x :: xs, y :: ys => .tuple [x, y] :: zipD xs ys
  | _, _ => []
theorem zipD_get : ∀ {xs ys : List D} {i : Nat} {t : D}, (zipD xs ys)[i]? = some t → ∃ x y, xs[i]? = some x ∧ ys[i]? = some y ∧ t = .tuple [x, y]
  | [], _, _, _, h => by simp [zipD] at h
  | _ :: _, [], _, _, h => by simp [zipD] at h
  | x :: xs, y :: ys, 0, t, h => by
    simp only [zipD, List.getElem?_cons_zero, Option.some.injEq] at h
    exact ⟨x, y, rfl, rfl, h.symm⟩
  | x :: xs, y :: ys, i + 1, t, h => by
    simp only [zipD, List.getElem?_cons_succ] at h
    obtain ⟨u, v, h1, h2, h3⟩ := zipD_get h
    exact ⟨u, v, by simpa using h1, by simpa using h2, h3⟩
theorem zipD_len : ∀ (xs ys : List D), (zipD xs ys).length = min xs.length ys.length
  | [], _ => by simp [zipD]
  | _ :: _, [] => by simp [zipD]
  | x :: xs, y :: ys => by simp only [zipD, List.length_cons, zipD_len xs ys]; omega
theorem itz_ok {p q : Addr} {vs us : List V} {ds es : List D} {I : Hp} (hp : I p = some (.lst vs)) (hq : I q = some (.lst us)) (ra : RpA K I vs ds) (rb : RpA K I us es) : ItOk K (Itz K p q) I (zipD ds es) where
  go := fun i I' H' hi s1 s2 => by
    rw [zipD_len] at hi
    have hv : i < vs.length := by rw [ra.len]; omega
    have hu : i < us.length := by rw [rb.len]; omega
    exact ⟨vs, us, vs[i], us[i], SqL.of (s2 _ _ (s1 _ _ hp)), SqL.of (s2 _ _ (s1 _ _ hq)), by simp [hv], by simp [hu]⟩
  yl := fun i I' H' x H'' d hd s1 s2 y => by
    obtain ⟨T, u, v, ex, hT, eH, y1, y2⟩ := y
    subst ex; subst eH
    obtain ⟨d0, e0, h1, h2, rfl⟩ := zipD_get hd
    obtain ⟨d', f1, r1⟩ := ra.getV (y1 vs (SqL.of (s2 _ _ (s1 _ _ hp))))
    obtain ⟨e', f2, r2⟩ := rb.getV (y2 us (SqL.of (s2 _ _ (s1 _ _ hq))))
    rw [h1] at f1; cases f1
    rw [h2] at f2; cases f2
    have ps := Pst.new (p := T) (o := .tup [u, v]) s2 hT
    exact ⟨_, ps, .tup (SqT.of upd_same) (.cons ((r1.mono s1).mono ps.eI) (.cons ((r2.mono s1).mono ps.eI) .nil)) (by show 2 ≤ sizeLine; decide)⟩
  st := fun i I' H' hi s1 s2 => ⟨vs, us, SqL.of (s2 _ _ (s1 _ _ hp)), SqL.of (s2 _ _ (s1 _ _ hq)), by
    rw [zipD_len] at hi
    have h1 := ra.len
    have h2 := rb.len
    omega⟩
def mZip (ml : ML G) : ML G := fun env g => bD (ml env g) fun xs g1 => match xs with
  | [.list ds, .list es] => some (zipD ds es, g1)
  | _ => none
theorem di_zip {p tpos : Pos} {elts : List Expr} {kk : Nat} (hg : Gl X "zip") (hm : X.mg "zip" = none) (ha : DA X S [a, b] ml) (hs : starEach [a, b] X.env = (false, eval a X.env) :: starEach [b] X.env := by rfl) (hpl : (backTo pos (starEach [b] X.env)).any (·.1) = false := by rfl) :
    DI X S (.Tuple elts kk tpos) (.Call (.Name "zip" p) [a, b] [] pos) (mZip ml) := PI.imp (pi_zip hg hm ha hs hpl) fun σ H R ⟨w, env, g, ds, g', Re, e, k⟩ => by
  obtain ⟨x, g1, e1, e⟩ := bD_some e
  split at e
  · cases e
    refine ⟨w, env, g, _, g', Re, e1, fun vs I' H' s' R' p => ?_⟩
    cases p with
    | cons p q =>
      cases q with
      | cons q r =>
        cases r
        cases p with
        | lst hp ra hz =>
          cases q with
          | lst hq rb hy => exact ⟨_, _, _, _, rfl, SqL.of (R'.eI _ _ hp), SqL.of (R'.eI _ _ hq), k _ I' H' s' R' (itz_ok hp hq ra rb) (by rw [zipD_len]; omega)⟩
  · cases e

/-! ### for -/
def loopL (b : MTg) (mb : MS G) : List D → Env → G → Option (Ct × Env × G)
  | [], env, g => some (.nx, env, g)
  | d :: ds, env, g => match b d env with
    | none => none
    | some env1 => match mb env1 g with
      | none => none
      | some (.nx, e, g2) => loopL b mb ds e g2
      | some (.co, e, g2) => loopL b mb ds e g2
      | some (.br, e, g2) => some (.nx, e, g2)
      | some (.re d, e, g2) => some (.re d, e, g2)
      | some (.rl d, e, g2) => some (.rl d, e, g2)
def mFor (ml : ML G) (b : MTg) (mb : MS G) : MS G := fun env g => bD (ml env g) fun ds g1 => loopL b mb ds env g1
theorem ts_for {idx : List Nat} {bt : MTg} {mb : MS G} {D : Ends} (h : tS X.K S (mFor ml bt mb) D σ H) : tFor (tI X.K S ml) (tTg X.K S idx bt) (tS X.K S mb) D σ H := by
  obtain ⟨w, env, g, c, env', g', R, e, k⟩ := h
  obtain ⟨ds, g1, e1, e⟩ := bD_some e
  refine ⟨w, env, g, ds, g1, R, e1, fun J I1 H1 s1 R1 ok hz => ?_⟩
  refine ⟨fun i m σ2 H2 => m = ds.length - i ∧ i ≤ ds.length ∧ ∃ I2 env2 g2, Same I1 I2 ∧ Rel X.K S (w.im I2) env2 g2 σ2 H2 ∧ loopL bt mb (ds.drop i) env2 g2 = some (c, env', g'), ⟨ds.length, by omega, Nat.zero_le _, I1, env, g1, Same.refl _, R1, e⟩, ?_⟩
  rintro i m σ2 H2 ⟨rfl, hi, I2, env2, g2, s2, R2, e2⟩
  by_cases hlt : i < ds.length
  · refine .inr ⟨ok.go i I2 H2 hlt s2 R2.eI, fun σ' H' => i + 1 ≤ ds.length ∧ ∃ I2 env2 g2, Same I1 I2 ∧ Rel X.K S (w.im I2) env2 g2 σ' H' ∧ loopL bt mb (ds.drop (i + 1)) env2 g2 = some (c, env', g'), fun σ' H' ⟨q1, q⟩ => ⟨ds.length - (i + 1), by omega, rfl, q1, q⟩, fun x H' y => ?_⟩
    have hd : ds[i]? = some ds[i] := by simp [hlt]
    obtain ⟨I3, ps, r⟩ := ok.yl i I2 H2 x H' _ hd s2 R2.eI y
    rw [List.drop_eq_getElem_cons hlt] at e2
    unfold loopL at e2
    cases eb : bt ds[i] env2 with
    | none => rw [eb] at e2; cases e2
    | some env3 =>
      rw [eb] at e2
      dsimp only at e2
      refine ⟨w.im I3, env2, g2, ds[i], env3, R2.pst ps, r, eb, fun σ3 H3 R3 _ _ => ?_⟩
      cases em : mb env3 g2 with
      | none => rw [em] at e2; cases e2
      | some r4 =>
        obtain ⟨c4, env4, g4⟩ := r4
        rw [em] at e2
        have s3 : Same I1 I3 := s2.trans ps.eI
        refine ⟨w.im I3, env3, g2, c4, env4, g4, R3, em, ?_⟩
        cases c4 with
        | nx => exact fun σ' I5 H5 s5 R5 => ⟨by omega, I5, env4, g4, s3.trans s5, R5, e2⟩
        | co => exact fun σ' I5 H5 s5 R5 => ⟨by omega, I5, env4, g4, s3.trans s5, R5, e2⟩
        | br => cases e2; exact fun σ' I5 H5 s5 R5 => k σ' I5 H5 (s1.trans (s3.trans s5)) R5
        | re d => cases e2; exact fun v σ' I5 H5 s5 R5 p => k v σ' I5 H5 (s1.trans (s3.trans s5)) R5 p
        | rl d => cases e2; exact fun p vs σ' I5 H5 s5 R5 n hp ra z => k p vs σ' I5 H5 (s1.trans (s3.trans s5)) R5 n hp ra z
  · have hi' : i = ds.length := by omega
    subst hi'
    rw [List.drop_length] at e2
    cases e2
    exact .inl ⟨ok.st _ I2 H2 (Nat.le_refl _) s2 R2.eI, k σ2 I2 H2 (s1.trans s2) R2⟩
theorem ds_for {idx : List Nat} {bt : MTg} {mb : MS G} (hp : PassesOwn (model X.prog X.w) X.A X.env X.xe) (hc : X.calm = true) (hi : DI X S tg iter ml) (hg : DTg X S tg idx bt) (hb : DB X S body mb)
    (hs : ∀ x, foldedSetIterable iter X.env x = pure x := by intro _; rfl) : DS X S (.For tg iter body [] pos) (mFor ml bt mb) := PS.imp (ps_for hp hc hi hg.pg hb hs) fun _ _ _ h => ts_for h

/-! ### while -/
def whileN (mt : MT G) (mb : MS G) : Nat → Env → G → Option (Ct × Env × G)
  | 0, _, _ => none
  | n + 1, env, g => match mt env g with
    | none => none
    | some (false, g1) => some (.nx, env, g1)
    | some (true, g1) => match mb env g1 with
      | none => none
      | some (.nx, e, g2) => whileN mt mb n e g2
      | some (.co, e, g2) => whileN mt mb n e g2
      | some (.br, e, g2) => some (.nx, e, g2)
      | some (.re d, e, g2) => some (.re d, e, g2)
      | some (.rl d, e, g2) => some (.rl d, e, g2)
theorem whileN_succ {mt : MT G} {mb : MS G} : ∀ {n : Nat} {env : Env} {g : G} {r}, whileN mt mb n env g = some r → whileN mt mb (n + 1) env g = some r
  | 0, _, _, _, h => by simp [whileN] at h
  | n + 1, env, g, r, h => by
    unfold whileN at h ⊢
    cases e : mt env g with
    | none => rw [e] at h; cases h
    | some q =>
      obtain ⟨b, g1⟩ := q
      rw [e] at h
      cases b with
      | false => exact h
      | true =>
        simp only at h ⊢
        cases e2 : mb env g1 with
        | none => rw [e2] at h; cases h
        | some q =>
          obtain ⟨c, e3, g2⟩ := q
          rw [e2] at h
          cases c with
          | nx => exact whileN_succ h
          | co => exact whileN_succ h
          | _ => exact h
theorem whileN_mono {mt : MT G} {mb : MS G} {n m : Nat} {env : Env} {g : G} {r} (h : whileN mt mb n env g = some r) (hm : n ≤ m) : whileN mt mb m env g = some r := by
  induction hm with
  | refl => exact h
  | step _ ih => exact whileN_succ ih
open Classical in
noncomputable def mWhile (mt : MT G) (mb : MS G) : MS G := fun env g => if h : ∃ n r, whileN mt mb n env g = some r then some (Classical.choose (Classical.choose_spec h)) else none
theorem mWhile_eq {mt : MT G} {mb : MS G} {n : Nat} {env : Env} {g : G} {r} (h : whileN mt mb n env g = some r) : mWhile mt mb env g = some r := by
  have hex : ∃ n r, whileN mt mb n env g = some r := ⟨n, r, h⟩
  unfold mWhile
  rw [dif_pos hex]
  have q := Classical.choose_spec (Classical.choose_spec hex)
  have q1 := whileN_mono q (Nat.le_max_left _ n)
  have q2 := whileN_mono h (Nat.le_max_right (Classical.choose hex) n)
  rw [q1] at q2
  exact q2
theorem mWhile_some {mt : MT G} {mb : MS G} {env : Env} {g : G} {r} (h : mWhile mt mb env g = some r) : ∃ n, whileN mt mb n env g = some r := by
  unfold mWhile at h
  split at h
  · rename_i hex
    cases h
    exact ⟨_, Classical.choose_spec (Classical.choose_spec hex)⟩
  · cases h
theorem ts_while {mb : MS G} {D : Ends} (h : tS X.K S (mWhile mt mb) D σ H) : tWhile (tT X.K S mt) (tS X.K S mb) D σ H := by
  obtain ⟨w, env, g, c, env', g', R, e, k⟩ := h
  obtain ⟨n, e⟩ := mWhile_some e
  refine ⟨fun m σ2 H2 => ∃ I2 env2 g2, Same w.I I2 ∧ Rel X.K S (w.im I2) env2 g2 σ2 H2 ∧ whileN mt mb m env2 g2 = some (c, env', g'), ⟨n, w.I, env, g, Same.refl _, R, e⟩, ?_⟩
  rintro m σ2 H2 ⟨I2, env2, g2, s2, R2, e2⟩
  cases m with
  | zero => simp [whileN] at e2
  | succ m =>
    unfold whileN at e2
    cases et : mt env2 g2 with
    | none => rw [et] at e2; cases e2
    | some q =>
      obtain ⟨b, g3⟩ := q
      rw [et] at e2
      refine ⟨w.im I2, env2, g2, b, g3, R2, et, fun I3 H3 s3 R3 => ?_⟩
      cases b with
      | false =>
        cases e2
        rw [if_neg Bool.false_ne_true]
        exact k σ2 I3 H3 (s2.trans s3) R3
      | true =>
        rw [if_pos rfl]
        refine ⟨fun σ' H' => ∃ I2 env2 g2, Same w.I I2 ∧ Rel X.K S (w.im I2) env2 g2 σ' H' ∧ whileN mt mb m env2 g2 = some (c, env', g'), fun σ' H' q => ⟨m, Nat.lt_succ_self m, q⟩, ?_⟩
        simp only at e2
        cases em : mb env2 g3 with
        | none => rw [em] at e2; cases e2
        | some r4 =>
          obtain ⟨c4, env4, g4⟩ := r4
          rw [em] at e2
          have s4 : Same w.I I3 := s2.trans s3
          refine ⟨w.im I3, env2, g3, c4, env4, g4, R3, em, ?_⟩
          cases c4 with
          | nx => exact fun σ' I5 H5 s5 R5 => ⟨I5, env4, g4, s4.trans s5, R5, e2⟩
          | co => exact fun σ' I5 H5 s5 R5 => ⟨I5, env4, g4, s4.trans s5, R5, e2⟩
          | br => cases e2; exact fun σ' I5 H5 s5 R5 => k σ' I5 H5 (s4.trans s5) R5
          | re d => cases e2; exact fun v σ' I5 H5 s5 R5 p => k v σ' I5 H5 (s4.trans s5) R5 p
          | rl d => cases e2; exact fun p vs σ' I5 H5 s5 R5 n hp ra z => k p vs σ' I5 H5 (s4.trans s5) R5 n hp ra z
theorem ds_while {mb : MS G} (hp : PassesOwn (model X.prog X.w) X.A X.env X.xe) (hc : DT X S c mt) (hb : DB X S body mb) : DS X S (.While c body [] pos) (mWhile mt mb) := PS.imp (ps_while hp hc hb) fun _ _ _ h => ts_while h
end
end Pd

/-! Pd: comprehensions, lists of one's own, defs. -/
namespace Pd
open PySem PySem.Spec L2
section
variable {G : Type} {X : Cx} {S : Gs G} {a b c e : Expr} {es rest : List Expr} {pos : Pos} {ma mb mc : ME G} {mt mu : MT G} {ml : ML G} {st : Stmt} {sts body : List Stmt} {m m1 m2 : MS G} {tg iter : Expr}
variable {K : PySem.W.Frag} {w : Wd} {env env' : Env} {g g' : G} {σ : St} {H H' I' : Hp}

/-! ### comprehensions -/
def Env.wipe (env : Env) : List Nat → Env
  | [] => env
  | v :: vs => (Env.wipe env vs).set v .un
theorem ewipe_len (env : Env) : ∀ vs : List Nat, (env.wipe vs).length = env.length
  | [] => rfl
  | v :: vs => by unfold Env.wipe; rw [List.length_set, ewipe_len env vs]
theorem ewipe_in {env : Env} {k : Nat} : ∀ {vs : List Nat}, k ∈ vs → (env.wipe vs).at k = .un
  | v :: vs, h => by
    unfold Env.wipe
    rw [at_set]
    by_cases z : k = v
    · subst z
      by_cases q : k < (env.wipe vs).length
      · rw [if_pos ⟨rfl, q⟩]
      · rw [if_neg fun z => q z.2]
        show (env.wipe vs).getD k .un = .un
        rw [List.getD_eq_getElem?_getD, List.getElem?_eq_none (by omega)]; rfl
    · rw [if_neg fun q => z q.1]
      rcases List.mem_cons.mp h with e | e
      · exact absurd e z
      · exact ewipe_in e
theorem ewipe_out {env : Env} {k : Nat} : ∀ {vs : List Nat}, k ∉ vs → (env.wipe vs).at k = env.at k
  | [], _ => rfl
  | v :: vs, h => by
    unfold Env.wipe
    rw [at_set, if_neg fun q => h (by simp [q.1])]
    exact ewipe_out fun q => h (List.mem_cons_of_mem _ q)
/-- a state of other slots: where the environment knows something, the same -/
theorem Rel.re {env1 : Env} {σ1 : St} (R : Rel K S w env1 g σ1 H) (hl : σ.length = env.length) (h : ∀ k, env.at k = .un ∨ (env.at k = env1.at k ∧ σ[k]? = σ1[k]?)) : Rel K S w env g σ H where
  e0 := R.e0
  eI := R.eI
  ag := R.ag
  ge := R.ge
  gfp := R.gfp
  grt := R.grt
  gok := R.gok
  fI := R.fI
  f0 := R.f0
  len := hl
  slot := fun k => by
    rcases h k with e | ⟨e, q⟩
    · rw [e]; trivial
    · rw [e]; exact (R.slot k).of_eq q
  dis := fun k j p ds es hkj e1 e2 q1 q2 => by
    rcases h k with e | ⟨e, q⟩
    · rw [e] at e1; cases e1
    · rcases h j with e' | ⟨e', q'⟩
      · rw [e'] at e2; cases e2
      · exact R.dis k j p ds es hkj (e ▸ e1) (e' ▸ e2) (q ▸ q1) (q' ▸ q2)
theorem Rel.wipe (R : Rel K S w env g σ H) (vs : List Nat) : Rel K S w (env.wipe vs) g (L2.wipe σ vs) H := R.re (by rw [wipe_length, ewipe_len]; exact R.len) fun k => by
  by_cases h : k ∈ vs
  · exact .inl (ewipe_in h)
  · exact .inr ⟨ewipe_out h, wipe_out h⟩
theorem wipe_get {σ : St} {k : Nat} : ∀ {vs : List Nat}, k ∈ vs → k < σ.length → (L2.wipe σ vs)[k]? = some none
  | v :: vs, h, hl => by
    unfold L2.wipe
    by_cases z : k = v
    · subst z
      rw [List.getElem?_set_self (by rw [wipe_length]; exact hl)]
    · rw [List.getElem?_set_ne (Ne.symm z)]
      rcases List.mem_cons.mp h with e | e
      · exact absurd e z
      · exact wipe_get e hl
theorem wipe_eq {σ σ2 : St} {vs : List Nat} (hl : σ2.length = (L2.wipe σ vs).length) (h : ∀ k, k ∉ vs → σ2[k]? = (L2.wipe σ vs)[k]?) : L2.wipe σ2 vs = L2.wipe σ vs := by
  apply List.ext_getElem?
  intro k
  rw [wipe_length] at hl
  by_cases hk : k ∈ vs
  · by_cases z : k < σ.length
    · rw [wipe_get hk (by rw [hl]; exact z), wipe_get hk z]
    · rw [List.getElem?_eq_none (by rw [wipe_length]; omega), List.getElem?_eq_none (by rw [wipe_length]; omega)]
  · rw [wipe_out hk, h k hk]
/-- an object that nobody knows, kept in sight -/
abbrev Wd.hold (w : Wd) (p : Addr) (o : HO) : Wd := { w with H0 := upd w.H0 p o }
theorem Rel.hold {p : Addr} {o : HO} (R : Rel K S w env g σ H) (n : Nob w env σ p) (hp : H p = some o) : Rel K S (w.hold p o) env g σ H where
  e0 := fun a u e => by
    have e : upd w.H0 p o a = some u := e
    by_cases z : a = p
    · subst z; rw [upd_same] at e; rw [hp]; exact e
    · rw [upd_ne z] at e; exact R.e0 a u e
  eI := R.eI
  ag := fun a u e => by
    have e : upd w.H0 p o a = some u := e
    by_cases z : a = p
    · subst z
      show w.I a = w.I0 a
      rw [n.i, R.ge.free n.i]
    · rw [upd_ne z] at e; exact R.ag a u e
  ge := R.ge
  gfp := R.gfp
  grt := R.grt
  gok := R.gok
  fI := R.fI
  f0 := fun a ha => by
    have z : a ≠ p := fun z => n.f (z ▸ ha)
    show upd w.H0 p o a = none
    rw [upd_ne z]; exact R.f0 a ha
  len := R.len
  slot := fun i => by
    have q := R.slot i
    cases e : env.at i with
    | un => trivial
    | sh d => rw [e] at q; exact q
    | st => rw [e] at q; exact q
    | raw v => rw [e] at q; exact q
    | ow ds =>
      rw [e] at q
      obtain ⟨a, vs, e1, hp, hi, h0, hf, r, z⟩ := q
      have ne : a ≠ p := fun z => n.o i ds e (z ▸ e1)
      exact ⟨a, vs, e1, hp, hi, (upd_ne ne).trans h0, hf, r, z⟩
  dis := R.dis
/-- .. let go -/
theorem Rel.unhold {p : Addr} {o u : HO} (R : Rel K S (w.hold p o) env g σ H) (n0 : w.H0 p = none) (nI : w.I0 p = none) : Rel K S w env g σ (upd H p u) ∧ Nob w env σ p ∧ H p = some o := by
  have hp : H p = some o := R.e0 p o upd_same
  have nf : ¬ w.fp p := fun z => by
    have q : upd w.H0 p o p = none := R.f0 p z
    rw [upd_same] at q
    cases q
  have ni : w.I p = none := (R.ag p o upd_same).trans nI
  have own : ∀ i ds, env.at i = .ow ds → σ[i]? ≠ some (some (.ref p)) := fun i ds e q => by
    have z := R.slot i
    rw [e] at z
    obtain ⟨a, vs, e1, _, _, h0, _⟩ := z
    rw [q] at e1
    cases e1
    have h0 : upd w.H0 p o p = none := h0
    rw [upd_same] at h0
    cases h0
  refine ⟨?_, ⟨ni, n0, nf, own⟩, hp⟩
  exact {
    e0 := fun a v e => by
      have z : a ≠ p := fun z => by rw [z, n0] at e; cases e
      rw [upd_ne z]
      exact R.e0 a v ((upd_ne z).trans e)
    eI := fun a v e => by
      have z : a ≠ p := fun z => by rw [z, ni] at e; cases e
      rw [upd_ne z]
      exact R.eI a v e
    ag := fun a v e => by
      have z : a ≠ p := fun z => by rw [z, n0] at e; cases e
      exact R.ag a v ((upd_ne z).trans e)
    ge := R.ge
    gfp := R.gfp
    grt := R.grt
    gok := S.loc (fun a ha => by
      have z : a ≠ p := fun z => nf (z ▸ (R.gfp a).mp ha)
      exact upd_ne z) R.gok
    fI := R.fI
    f0 := fun a ha => by
      have z : a ≠ p := fun z => nf (z ▸ ha)
      have q : upd w.H0 p o a = none := R.f0 a ha
      rw [upd_ne z] at q
      exact q
    len := R.len
    slot := fun i => by
      have q := R.slot i
      cases e : env.at i with
      | un => trivial
      | sh d => rw [e] at q; exact q
      | st => rw [e] at q; exact q
      | raw v => rw [e] at q; exact q
      | ow ds =>
        rw [e] at q
        obtain ⟨a, vs, e1, hp', hi, h0, hf, r, z⟩ := q
        have ne : a ≠ p := fun z => own i ds e (z ▸ e1)
        have h0 : upd w.H0 p o a = none := h0
        rw [upd_ne ne] at h0
        exact ⟨a, vs, e1, (upd_ne ne).trans hp', hi, h0, hf, r, z⟩
    dis := R.dis }
def SV.notOw : SV → Bool
  | .ow _ => false
  | _ => true
/-- behind a block: the frame's own slots again -/
theorem Rel.join {I0 I6 H0 H6 : Hp} {g0 g6 : G} {vs : List Nat} (R0 : Rel K S (w.im I0) env g0 σ H0) (R6 : Rel K S (w.im I6) (env.wipe vs) g6 (L2.wipe σ vs) H6) (s : Same I0 I6) (h : ∀ k ∈ vs, (env.at k).notOw = true) : Rel K S (w.im I6) env g6 σ H6 where
  e0 := R6.e0
  eI := R6.eI
  ag := R6.ag
  ge := R6.ge
  gfp := R6.gfp
  grt := R6.grt
  gok := R6.gok
  fI := R6.fI
  f0 := R6.f0
  len := R0.len
  slot := fun k => by
    by_cases hk : k ∈ vs
    · have q := R0.slot k
      have n := h k hk
      cases e : env.at k with
      | un => trivial
      | sh d => rw [e] at q; obtain ⟨v, e1, r⟩ := q; exact ⟨v, e1, r.mono s⟩
      | st => rw [e] at q; exact q
      | raw v => rw [e] at q; exact q
      | ow ds => rw [e] at n; cases n
    · have q := R6.slot k
      rw [ewipe_out hk] at q
      exact q.of_eq (wipe_out hk).symm
  dis := fun k j p ds es hkj e1 e2 q1 q2 => by
    have nk : k ∉ vs := fun z => by have n := h k z; rw [e1] at n; cases n
    have nj : j ∉ vs := fun z => by have n := h j z; rw [e2] at n; cases n
    exact R6.dis k j p ds es hkj (by rw [ewipe_out nk]; exact e1) (by rw [ewipe_out nj]; exact e2) (by rw [wipe_out nk]; exact q1) (by rw [wipe_out nj]; exact q2)
theorem upd_id {H : Hp} {p : Addr} {o : HO} (h : H p = some o) : upd H p o = H := by
  funext b
  by_cases z : b = p
  · rw [z, upd_same, h]
  · rw [upd_ne z]
def compL (b : MTg) (mt : MT G) (me : ME G) (env : Env) : List D → G → Option (List D × G)
  | [], g => some ([], g)
  | d :: ds, g => match b d env with
    | none => none
    | some env1 => match mt env1 g with
      | none => none
      | some (false, g2) => compL b mt me env ds g2
      | some (true, g2) => match me env1 g2 with
        | none => none
        | some (x, g3) => match compL b mt me env ds g3 with
          | none => none
          | some (xs, g4) => some (x :: xs, g4)
def mComp (ml : ML G) (vs : List Nat) (b : MTg) (mt : MT G) (me : ME G) : ML G := fun env g => bD (ml env g) fun ds g1 => if (vs.all fun k => (env.at k).notOw) = true then compL b mt me (env.wipe vs) ds g1 else none
theorem compL_len {b : MTg} {mt : MT G} {me : ME G} {env : Env} : ∀ {ds : List D} {g : G} {xs : List D} {g' : G}, compL b mt me env ds g = some (xs, g') → xs.length ≤ ds.length
  | [], g, xs, g', h => by simp [compL] at h; rw [h.1]; exact Nat.le_refl 0
  | d :: ds, g, xs, g', h => by
    unfold compL at h
    cases e1 : b d env with
    | none => rw [e1] at h; cases h
    | some env1 =>
      rw [e1] at h
      dsimp only at h
      cases e2 : mt env1 g with
      | none => rw [e2] at h; cases h
      | some q =>
        obtain ⟨t, g2⟩ := q
        rw [e2] at h
        cases t with
        | false => exact Nat.le_trans (compL_len h) (by simp)
        | true =>
          dsimp only at h
          cases e3 : me env1 g2 with
          | none => rw [e3] at h; cases h
          | some q =>
            obtain ⟨x, g3⟩ := q
            rw [e3] at h
            dsimp only at h
            cases e4 : compL b mt me env ds g3 with
            | none => rw [e4] at h; cases h
            | some q =>
              obtain ⟨ys, g4⟩ := q
              rw [e4] at h
              cases h
              have := compL_len e4
              simp only [List.length_cons]
              omega
def mYes : MT G := fun _ g => some (true, g)
structure DTs {G : Type} (X : Cx) (S : Gs G) (ifs : List Expr) (mt : MT G) : Prop where
  pt : PTs X ifs (tT X.K S mt)
theorem dts_nil : DTs X S [] mYes := ⟨⟨fun pins s σ H Q I h => pts_nil.run pins s σ H Q I (by
  obtain ⟨w, env, g, d, g', R, e, k⟩ := h
  cases e
  exact k w.I H (Same.refl _) R)⟩⟩
theorem dts_one (h : DT X S c mt) : DTs X S [c] mt := ⟨pts_one h⟩
theorem tf_comp {idx vs : List Nat} {bt : MTg} {me : ME G} {Q : VK} (hok : ∀ d env env', bt d env = some env' → env'.length = env.length ∧ ∀ k, k ∉ idx → env'.at k = env.at k) (hsub : ∀ k ∈ idx, k ∈ vs)
    (h : tF K S (mComp ml vs bt mt me) σ H Q) : tLc (tI K S ml) (tTg K S idx bt) (tT K S mt) (tE K S me) vs σ H Q := by
  obtain ⟨w, env, g, xs, g', R, e, k⟩ := h
  obtain ⟨ds, g1, e1, e⟩ := bD_some e
  split at e
  case isFalse => cases e
  rename_i hown
  have hown : ∀ k ∈ vs, (env.at k).notOw = true := fun k hk => List.all_eq_true.mp hown k hk
  refine ⟨w, env, g, ds, g1, R, e1, fun J I1 H1 s1 R1 ok hz p hp => ?_⟩
  have n0 : w.H0 p = none := R1.e0.free hp
  have nI : w.I0 p = none := by
    have a1 : Same w.I0 I1 := R1.ge
    exact a1.free (R1.eI.free hp)
  -- the word: the list so far at p, the rest of the run
  refine ⟨fun i m H2 => m = ds.length - i ∧ i ≤ ds.length ∧ ∃ I2 g2 acc us as rest, Same I1 I2 ∧ Rel K S (w.im I2) env g2 σ H2 ∧ Nob (w.im I2) env σ p ∧ H2 p = some (.lst us) ∧ RpA K I2 us as ∧ acc = us ∧ as.length ≤ i ∧
    compL bt mt me (env.wipe vs) (ds.drop i) g2 = some (rest, g') ∧ xs = as ++ rest, ⟨ds.length, by omega, Nat.zero_le _, I1, g1, [], [], [], xs, Same.refl _, R1.alloc hp, R1.nob hp, upd_same, .nil, rfl, Nat.le_refl _, e, rfl⟩, ?_⟩
  rintro i m H2 ⟨rfl, hi, I2, g2, acc, us, as, rest, s2, R2, n2, hp2, ra2, rfl, hl2, e2, ex⟩
  by_cases hlt : i < ds.length
  · refine .inr ⟨ok.go i I2 H2 hlt s2 R2.eI, fun H' => i + 1 ≤ ds.length ∧ ∃ I2 g2 acc us as rest, Same I1 I2 ∧ Rel K S (w.im I2) env g2 σ H' ∧ Nob (w.im I2) env σ p ∧ H' p = some (.lst us) ∧ RpA K I2 us as ∧ acc = us ∧ as.length ≤ i + 1 ∧
      compL bt mt me (env.wipe vs) (ds.drop (i + 1)) g2 = some (rest, g') ∧ xs = as ++ rest, fun H' ⟨q1, q⟩ => ⟨ds.length - (i + 1), by omega, rfl, q1, q⟩, fun x H' y => ?_⟩
    have hd : ds[i]? = some ds[i] := by simp [hlt]
    obtain ⟨I3, ps, r⟩ := ok.yl i I2 H2 x H' _ hd s2 R2.eI y
    rw [List.drop_eq_getElem_cons hlt] at e2
    unfold compL at e2
    cases eb : bt ds[i] (env.wipe vs) with
    | none => rw [eb] at e2; cases e2
    | some env3 =>
      rw [eb] at e2
      dsimp only at e2
      have R3 := R2.pst ps
      have n3 : Nob (w.im I3) env σ p := ⟨(ps.ag p (by rw [hp2]; simp)).trans n2.i, n2.h0, n2.f, n2.o⟩
      have hp3 : H' p = some (.lst acc) := ps.eH _ _ hp2
      have R4 := (R3.hold n3 hp3).wipe vs
      have hk := hok _ _ _ eb
      refine ⟨(w.im I3).hold p (.lst acc), env.wipe vs, g2, ds[i], env3, R4, r, eb, fun σ3 H5 R5 l5 f5 => ?_⟩
      have f5' : ∀ k, k ∉ vs → σ3[k]? = (L2.wipe σ vs)[k]? := fun k hk => f5 k fun z => hk (hsub k z)
      refine ⟨wipe_eq l5 f5', ?_⟩
      -- back from the element's state to the frame's
      have back : ∀ I6 H6 g6, Same I3 I6 → Rel K S ((w.im I6).hold p (.lst acc)) env3 g6 σ3 H6 → Rel K S ((w.im I6).hold p (.lst acc)) (env.wipe vs) g6 (L2.wipe σ vs) H6 := fun I6 H6 g6 s6 R6 =>
        R6.re (by rw [wipe_length, ewipe_len]; exact R.len) fun k => by
          by_cases hk' : k ∈ vs
          · exact .inl (ewipe_in hk')
          · exact .inr ⟨(hk.2 k fun z => hk' (hsub k z)).symm, (f5' k hk').symm⟩
      -- behind the element: the list let go
      have next : ∀ I6 H6 g6 (u : List V), Same I3 I6 → Rel K S ((w.im I6).hold p (.lst acc)) env3 g6 σ3 H6 → Rel K S (w.im I6) env g6 σ (upd H6 p (.lst u)) ∧ Nob (w.im I6) env σ p ∧ H6 p = some (.lst acc) := fun I6 H6 g6 u s6 R6 => by
        obtain ⟨q1, q2, q3⟩ := (back I6 H6 g6 s6 R6).unhold (w := w.im I6) (u := .lst u) n0 nI
        exact ⟨Rel.join R3 q1 s6 hown, ⟨q2.i, q2.h0, q2.f, fun j es ej sj => by
          have nj : j ∉ vs := fun z => by have n := hown j z; rw [ej] at n; cases n
          exact q2.o j es (by rw [ewipe_out nj]; exact ej) (by rw [wipe_out nj]; exact sj)⟩, q3⟩
      cases et : mt env3 g2 with
      | none => rw [et] at e2; cases e2
      | some q =>
        obtain ⟨t, g4⟩ := q
        rw [et] at e2
        refine ⟨(w.im I3).hold p (.lst acc), env3, g2, t, g4, R5, et, fun I6 H6 s6 R6 => ?_⟩
        have s6 : Same I3 I6 := s6
        cases t with
        | false =>
          refine iteF ?_
          obtain ⟨q1, q2, q3⟩ := next I6 H6 g4 acc s6 R6
          refine ⟨by omega, I6, g4, acc, acc, as, rest, s2.trans (ps.eI.trans s6), ?_, q2, q3, ra2.mono (ps.eI.trans s6), rfl, by omega, e2, ex⟩
          rw [upd_id q3] at q1
          exact q1
        | true =>
          refine iteT ?_
          dsimp only at e2
          cases em : me env3 g4 with
          | none => rw [em] at e2; cases e2
          | some q =>
            obtain ⟨y5, g5⟩ := q
            rw [em] at e2
            dsimp only at e2
            cases ec : compL bt mt me (env.wipe vs) (ds.drop (i + 1)) g5 with
            | none => rw [ec] at e2; cases e2
            | some q =>
              obtain ⟨ys, g7⟩ := q
              rw [ec] at e2
              cases e2
              refine ⟨(w.im I6).hold p (.lst acc), env3, g4, y5, g5, R6, em, fun v I7 H7 s7 R7 p7 => ?_⟩
              have s7 : Same I6 I7 := s7
              obtain ⟨q1, q2, q3⟩ := next I7 H7 g5 (acc ++ [v]) (s6.trans s7) R7
              refine ⟨acc, q3, ?_, by omega, I7, g5, _, _, as ++ [y5], ys, s2.trans (ps.eI.trans (s6.trans s7)), q1, q2, upd_same, (ra2.mono (ps.eI.trans (s6.trans s7))).append (.one p7), rfl, ?_, ec, ?_⟩
              · rw [ra2.len]; omega
              · rw [List.length_append, List.length_singleton]; omega
              · rw [ex, List.append_assoc]; rfl
  · have hi' : i = ds.length := by omega
    subst hi'
    rw [List.drop_length] at e2
    cases e2
    rw [List.append_nil] at ex
    subst ex
    exact .inl ⟨ok.st _ I2 H2 (Nat.le_refl _) s2 R2.eI, k p acc I2 H2 (s1.trans s2) R2 n2 hp2 ra2 (Nat.le_trans hl2 hz)⟩
theorem df_comp {elt : Expr} {ifs : List Expr} {scope : Scope} {own : List (Str × Nat)} {idx : List Nat} {bt : MTg} {me : ME G} (hc : X.calm = true) (hN : X.N.Nodup) (hi : DI X S tg iter ml) (ok : BlkOk X.N X.env.scope scope own)
    (hg : ∀ (s : Shared) (H : Hp) (C : Addr) (cl : List (Str × Addr)) (fp : List Addr), DTg (X.blk s H scope (compEnvC scope cl C X.env) fp) S tg idx bt) (ht : ∀ (s : Shared) (H : Hp) (C : Addr) (cl : List (Str × Addr)) (fp : List Addr), DTs (X.blk s H scope (compEnvC scope cl C X.env) fp) S ifs mt)
    (he : ∀ (s : Shared) (H : Hp) (C : Addr) (cl : List (Str × Addr)) (fp : List Addr), DE (X.blk s H scope (compEnvC scope cl C X.env) fp) S elt me) (hsub : ∀ k ∈ idx, k ∈ own.map (·.2) := by decide) (hs : ∀ x, foldedSetIterable iter X.env x = pure x := by intro _; rfl) :
    DF X S (.ListComp elt [⟨tg, iter, ifs, 0⟩] scope pos) (mComp ml (own.map (·.2)) bt mt me) :=
  PE.imp (pe_lc hc hN hi ok (fun s H C cl fp => (hg s H C cl fp).pg) (fun s H C cl fp => (ht s H C cl fp).pt) he hs) fun _ _ _ h => tf_comp (hg X.s_0 X.H_0 0 [] []).ok hsub h
/-- x = [.. for ..] on one line -/
theorem ts_setLc {idx vs : List Nat} {bt : MTg} {me : ME G} {i : Nat} {D : Ends} (hok : ∀ d env env', bt d env = some env' → env'.length = env.length ∧ ∀ k, k ∉ idx → env'.at k = env.at k) (hsub : ∀ k ∈ idx, k ∈ vs)
    (h : tS K S (mSetF i (mComp ml vs bt mt me)) D σ H) : tAsg (tLc (tI K S ml) (tTg K S idx bt) (tT K S mt) (tE K S me) vs) (gName i) D σ H := by
  obtain ⟨w, env, g, c, env', g', R, e, k⟩ := h
  obtain ⟨x, g1, e1, e⟩ := bD_some e
  cases e
  exact tf_comp hok hsub ⟨w, env, g, x, g', R, e1, fun p vs I' H' s' R' n hp ra hz => k _ I' H' s' (R'.putL n hp ra hz)⟩
theorem ds_setLc {elt : Expr} {ifs : List Expr} {scope : Scope} {own : List (Str × Nat)} {idx : List Nat} {bt : MTg} {me : ME G} {i : Nat} {y : Str} {py spos : Pos} (hc : X.calm = true) (hN : X.N.Nodup) (hy : X.N[i]? = some y) (hyl : X.env.scope.names.lookup y = some .local)
    (hsw : swapsWith (.ListComp elt [⟨tg, iter, ifs, 0⟩] scope pos) (some (.Name y py)) spos.line X.env = pure true) (hi : DI X S tg iter ml) (ok : BlkOk X.N X.env.scope scope own)
    (hg : ∀ (s : Shared) (H : Hp) (C : Addr) (cl : List (Str × Addr)) (fp : List Addr), DTg (X.blk s H scope (compEnvC scope cl C X.env) fp) S tg idx bt) (ht : ∀ (s : Shared) (H : Hp) (C : Addr) (cl : List (Str × Addr)) (fp : List Addr), DTs (X.blk s H scope (compEnvC scope cl C X.env) fp) S ifs mt)
    (he : ∀ (s : Shared) (H : Hp) (C : Addr) (cl : List (Str × Addr)) (fp : List Addr), DE (X.blk s H scope (compEnvC scope cl C X.env) fp) S elt me) (hsub : ∀ k ∈ idx, k ∈ own.map (·.2) := by decide) (hs : ∀ x, foldedSetIterable iter X.env x = pure x := by intro _; rfl) :
    DS X S (.Assign [.Name y py] (.ListComp elt [⟨tg, iter, ifs, 0⟩] scope pos) spos) (mSetF i (mComp ml (own.map (·.2)) bt mt me)) :=
  PS.imp (ps_setLc hc hN hy hyl hsw hi ok (fun s H C cl fp => (hg s H C cl fp).pg) (fun s H C cl fp => (ht s H C cl fp).pt) he hs) fun _ _ _ h => ts_setLc (hg X.s_0 X.H_0 0 [] []).ok hsub h
/-- .. behind it handed out -/
def mThen (m : MS G) (j : Nat) : MS G := fun env g => match m env g with
  | some (.nx, e, g1) => some (.nx, e.frz j, g1)
  | r => r
theorem ds_then {st : Stmt} {m : MS G} (j : Nat) (h : DS X S st m) : DS X S st (mThen m j) := PS.imp h fun D σ H ⟨w, env, g, c, env', g', R, e, k⟩ => by
  unfold mThen at e
  split at e
  · rename_i e1 g1 em
    cases e
    refine ⟨w, env, g, .nx, e1, g', R, em, fun σ' I' H' s' R' => ?_⟩
    obtain ⟨I2, s2, R2⟩ := R'.frz j
    exact k σ' I2 H' (Same.trans s' s2) R2
  · exact ⟨w, env, g, c, env', g', R, e, k⟩
end
end Pd

/-! Pd: lists of one's own, defs. -/
namespace Pd
open PySem PySem.Spec L2
section
variable {G : Type} {X : Cx} {S : Gs G} {a b c e : Expr} {es rest : List Expr} {pos : Pos} {ma mb mc me : ME G} {mt mu : MT G} {ml : ML G} {st : Stmt} {sts body : List Stmt} {m m1 m2 : MS G} {tg iter : Expr}
variable {K : PySem.W.Frag} {w : Wd} {env env' : Env} {g g' : G} {σ : St} {H H' I' : Hp}

theorem Rel.own {j : Nat} {ds : List D} (R : Rel K S w env g σ H) (e : env.at j = .ow ds) : ∃ p vs, σ[j]? = some (some (.ref p)) ∧ H p = some (.lst vs) ∧ w.I p = none ∧ w.H0 p = none ∧ ¬ w.fp p ∧ RpA K w.I vs ds ∧ ds.length ≤ sizeLine := by
  have q := R.slot j
  rw [e] at q
  exact q
/-- x.append(e) -/
def mApp (j : Nat) (me : ME G) : MS G := fun env g => bD (me env g) fun d g1 => match env.at j with
  | .ow ds => if ds.length < sizeLine then some (.nx, env.set j (.ow (ds ++ [d])), g1) else none
  | _ => none
theorem ts_app {j : Nat} {D : Ends} (h : tS K S (mApp j me) D σ H) : tDrop (tBM K "list" rAppend (tVar j) (tA K S (mCons me mNil))) D σ H := by
  obtain ⟨w, env, g, c, env', g', R, e, k⟩ := h
  obtain ⟨d, g1, e1, e⟩ := bD_some e
  split at e
  · rename_i ds ej
    split at e
    · rename_i hz
      cases e
      obtain ⟨p, vs, sj, hp, _⟩ := R.own ej
      refine ⟨_, sj, .inl ⟨rfl, vs, SqL.of hp⟩, w, env, g, [d], g', R, ?_, fun us I' H' s' R' ra => ?_⟩
      · show bD (me env g) (fun x g1 => bD (mNil env g1) fun xs g2 => some (x :: xs, g2)) = some ([d], g')
        rw [e1]; rfl
      · cases ra with
        | cons r q =>
          cases q
          obtain ⟨p', us, sj', hp', hi, h0, hf, rb, hy⟩ := R'.own ej
          rw [sj] at sj'
          cases sj'
          refine ⟨p, us, _, rfl, rfl, hp', by rw [rb.len]; exact hz, ?_⟩
          exact k σ I' _ s' (R'.setOw ej sj hp' hi h0 hf (rb.append (.one r)) (by rw [List.length_append, List.length_singleton]; omega))
    · cases e
  · cases e
theorem ds_append (j : Nat) {x : Str} {xp ap cp : Pos} (he : DE X S e me) (hN : X.N[j]? = some x := by rfl) (hv : Vis X.env.scope x := by first | exact Or.inl rfl | exact Or.inr (Or.inl rfl) | exact Or.inr (Or.inr rfl)) (hd : (x == ("__debug__" : Str)) = false := by decide)
    (hcd : (x == ("__classdict__" : Str)) = false := by decide)
    (hbase : attributeBase (.Name x xp) "append" X.env (eval (.Name x xp) X.env) = eval (.Name x xp) X.env := by rfl)
    (hfew : ((backTo cp (starEach [e] X.env)).all (fun x => !x.1) && (backToKw cp (keywordEach [] X.env)).all (fun x => x.1.isSome)
      && decide ([e].length + ([] : List Keyword).length + (if ([] : List Keyword).isEmpty then 0 else 1) < 30)) = true := by rfl)
    (hline : (ap.endLine == cp.line) = true := by rfl) (hs : starEach [e] X.env = (false, eval e X.env) :: starEach [] X.env := by rfl) (hplain : (backTo cp (starEach [] X.env)).any (·.1) = false := by rfl)
    (hsw : swapsWith (.Call (.Attribute (.Name x xp) "append" ap) [e] [] cp) none pos.line X.env = pure false := by rfl) :
    DS X S (.Expr (.Call (.Attribute (.Name x xp) "append" ap) [e] [] cp) pos) (mApp j me) :=
  PS.imp (ps_expr (pe_bm PySem.F.plainAttrs_list PySem.F.slot_list_append PySem.F.type_list_append mt_append (pe_var hN hv hd hcd) (da_cons (S := S) he da_nil hs) hbase hfew hline hs hplain) hsw) fun _ _ _ h => ts_app h
/-- x[i] = e -/
def mSetIx (j : Nat) (mi me : ME G) : MS G := fun env g => bD (me env g) fun d g1 => bD (mi env g1) fun i g2 => match env.at j, i with
  | .ow ds, .int i => (ixN ds.length i).map fun k => (.nx, env.set j (.ow (ds.set k d)), g2)
  | _, _ => none
theorem ts_setIx {j : Nat} {mi : ME G} {D : Ends} (h : tS K S (mSetIx j mi me) D σ H) : tAsg (tE K S me) (gSub (tVar j) (tE K S mi) rSetL) D σ H := by
  obtain ⟨w, env, g, c, env', g', R, e, k⟩ := h
  obtain ⟨d, g1, e1, e⟩ := bD_some e
  obtain ⟨i, g2, e2, e⟩ := bD_some e
  split at e
  · rename_i ds i ej
    obtain ⟨n, en, e⟩ := Option.map_eq_some_iff.mp e
    cases e
    refine ⟨w, env, g, d, g1, R, e1, fun v I1 H1 s1 R1 p1 => ?_⟩
    obtain ⟨p, vs, sj, hp, _⟩ := R1.own ej
    refine ⟨_, sj, w.im I1, env, g1, _, g', R1, e2, fun u I2 H2 s2 R2 p2 => ?_⟩
    cases p2
    obtain ⟨p', us, sj', hp', hi, h0, hf, rb, hy⟩ := R2.own ej
    rw [sj] at sj'
    cases sj'
    refine ⟨p, us, i, n, rfl, rfl, hp', by rw [rb.len]; exact en, ?_⟩
    exact k σ I2 _ (s1.trans s2) (R2.setOw ej sj hp' hi h0 hf (rb.set (p1.mono s2) n) (by rw [List.length_set]; exact hy))
  · cases e
theorem ds_setIx (j : Nat) {x : Str} {xp sp : Pos} {i : Expr} {mi : ME G} (hi : DE X S i mi) (he : DE X S e me) (hN : X.N[j]? = some x := by rfl) (hv : Vis X.env.scope x := by first | exact Or.inl rfl | exact Or.inr (Or.inl rfl) | exact Or.inr (Or.inr rfl)) (hd : (x == ("__debug__" : Str)) = false := by decide)
    (hcd : (x == ("__classdict__" : Str)) = false := by decide)
    (ha : ∀ v, assign (.Subscript (.Name x xp) i sp) X.env v = (do
      let ov ← holding [v] (eval (.Name x xp) X.env)
      let iv ← holding [v, ov] (eval i X.env)
      standAt sp
      holding [v, ov, iv] (setItem ov iv v)
      release [v, ov, iv] []) := by intro _; rfl)
    (hs : swapsWithSole [.Subscript (.Name x xp) i sp] e pos.line X.env = pure false := by rfl) (hw : swappedStores [.Subscript (.Name x xp) i sp] e X.env = pure none := by rfl)
    (h1 : (assignEach [.Subscript (.Name x xp) i sp] X.env).map (·.2) = [assign (.Subscript (.Name x xp) i sp) X.env] := by rfl) :
    DS X S (.Assign [.Subscript (.Name x xp) i sp] e pos) (mSetIx j mi me) := PS.imp (ps_asg he (pg_sub (pe_var hN hv hd hcd) hi set_list ha) hs hw h1) fun _ _ _ h => ts_setIx h
/-- x.extend(e), e a list that stands -/
def mExt (j : Nat) (me : ME G) : MS G := fun env g => bD (me env g) fun d g1 => match env.at j, d with
  | .ow ds, .list es => if ds.length + es.length ≤ sizeLine then some (.nx, env.set j (.ow (ds ++ es)), g1) else none
  | _, _ => none
theorem ts_ext {j : Nat} {D : Ends} (h : tS K S (mExt j me) D σ H) : tDrop (tBM K "list" rExtend (tVar j) (tA K S (mCons me mNil))) D σ H := by
  obtain ⟨w, env, g, c, env', g', R, e, k⟩ := h
  obtain ⟨d, g1, e1, e⟩ := bD_some e
  split at e
  · rename_i ds es ej
    split at e
    · rename_i hz
      cases e
      obtain ⟨p, vs, sj, hp, _⟩ := R.own ej
      refine ⟨_, sj, .inl ⟨rfl, vs, SqL.of hp⟩, w, env, g, [.list es], g', R, ?_, fun us I' H' s' R' ra => ?_⟩
      · show bD (me env g) (fun x g1 => bD (mNil env g1) fun xs g2 => some (x :: xs, g2)) = some ([.list es], g')
        rw [e1]; rfl
      · cases ra with
        | cons r q =>
          cases q
          obtain ⟨p', us, sj', hp', hi, h0, hf, rb, hy⟩ := R'.own ej
          rw [sj] at sj'
          cases sj'
          cases r with
          | lst hq rc hx =>
            refine ⟨p, _, us, _, rfl, rfl, hp', R'.eI _ _ hq, by rw [rb.len, rc.len]; exact hz, ?_⟩
            exact k σ I' _ s' (R'.setOw ej sj hp' hi h0 hf (rb.append rc) (by rw [List.length_append]; exact hz))
    · cases e
  · cases e
theorem ds_extend (j : Nat) {x : Str} {xp ap cp : Pos} (he : DE X S e me) (hN : X.N[j]? = some x := by rfl) (hv : Vis X.env.scope x := by first | exact Or.inl rfl | exact Or.inr (Or.inl rfl) | exact Or.inr (Or.inr rfl)) (hd : (x == ("__debug__" : Str)) = false := by decide)
    (hcd : (x == ("__classdict__" : Str)) = false := by decide)
    (hbase : attributeBase (.Name x xp) "extend" X.env (eval (.Name x xp) X.env) = eval (.Name x xp) X.env := by rfl)
    (hfew : ((backTo cp (starEach [e] X.env)).all (fun x => !x.1) && (backToKw cp (keywordEach [] X.env)).all (fun x => x.1.isSome)
      && decide ([e].length + ([] : List Keyword).length + (if ([] : List Keyword).isEmpty then 0 else 1) < 30)) = true := by rfl)
    (hline : (ap.endLine == cp.line) = true := by rfl) (hs : starEach [e] X.env = (false, eval e X.env) :: starEach [] X.env := by rfl) (hplain : (backTo cp (starEach [] X.env)).any (·.1) = false := by rfl)
    (hsw : swapsWith (.Call (.Attribute (.Name x xp) "extend" ap) [e] [] cp) none pos.line X.env = pure false := by rfl) :
    DS X S (.Expr (.Call (.Attribute (.Name x xp) "extend" ap) [e] [] cp) pos) (mExt j me) :=
  PS.imp (ps_expr (pe_bm PySem.F.plainAttrs_list PySem.F.slot_list_extend PySem.F.type_list_extend mt_extend (pe_var hN hv hd hcd) (da_cons (S := S) he da_nil hs) hbase hfew hline hs hplain) hsw) fun _ _ _ h => ts_ext h

/-! ### lent for one look: the answer holds no list -/
def Env.lend (js : List Nat) (env : Env) : Env := js.foldl Env.frz env
theorem frz_at (env : Env) (j k : Nat) : (env.frz j).at k = env.at k ∨ ∃ ds, env.at k = .ow ds ∧ (env.frz j).at k = .sh (.list ds) := by
  unfold Env.frz
  split
  · rename_i ds e
    rw [at_set]
    by_cases z : k = j ∧ j < env.length
    · rw [if_pos z, z.1]
      exact .inr ⟨ds, e, rfl⟩
    · rw [if_neg z]; exact .inl rfl
  · exact .inl rfl
theorem lend_at : ∀ (js : List Nat) (env : Env) (k : Nat), (env.lend js).at k = env.at k ∨ ∃ ds, env.at k = .ow ds ∧ (env.lend js).at k = .sh (.list ds)
  | [], env, k => .inl rfl
  | j :: js, env, k => by
    show (Env.lend js (env.frz j)).at k = env.at k ∨ ∃ ds, env.at k = .ow ds ∧ (Env.lend js (env.frz j)).at k = .sh (.list ds)
    rcases lend_at js (env.frz j) k with h1 | ⟨ds, h1, h2⟩
    · rcases frz_at env j k with h | ⟨ds, h, h'⟩
      · exact .inl (h1.trans h)
      · exact .inr ⟨ds, h, h1.trans h'⟩
    · rcases frz_at env j k with h | ⟨es, h, h'⟩
      · exact .inr ⟨ds, h.symm.trans h1, h2⟩
      · rw [h'] at h1; cases h1
theorem Rel.lend : ∀ (js : List Nat) {w : Wd} {env : Env}, Rel K S w env g σ H → ∃ I', Same w.I I' ∧ Rel K S (w.im I') (env.lend js) g σ H
  | [], w, env, R => ⟨w.I, Same.refl _, R⟩
  | j :: js, w, env, R => by
    obtain ⟨I1, s1, R1⟩ := R.frz j
    obtain ⟨I2, s2, R2⟩ := Rel.lend js R1
    exact ⟨I2, s1.trans s2, R2⟩
def Env.noOw (env : Env) : Bool := (List.range env.length).all fun k => (env.at k).notOw
theorem noOw_at {env : Env} (h : env.noOw = true) (k : Nat) : (env.at k).notOw = true := by
  by_cases z : k < env.length
  · exact List.all_eq_true.mp h k (List.mem_range.mpr z)
  · show (env.getD k .un).notOw = true
    rw [List.getD_eq_getElem?_getD, List.getElem?_eq_none (by omega)]; rfl
theorem Rel.unlend {js : List Nat} {I1 I2 : Hp} (R : Rel K S w env g σ H) (RL : Rel K S (w.im I1) (env.lend js) g σ H) (R2 : Rel K S (w.im I2) (env.lend js) g' σ H') (s0 : Same w.I I1) (s : Same I1 I2) (no : (env.lend js).noOw = true) : Rel K S w env g' σ H' where
  e0 := R2.e0
  eI := s0.trans (s.trans R2.eI)
  ag := R.ag
  ge := R.ge
  gfp := R2.gfp
  grt := R2.grt
  gok := R2.gok
  fI := R.fI
  f0 := R.f0
  len := R.len
  slot := fun k => by
    have q := R.slot k
    cases e : env.at k with
    | un => trivial
    | sh d => rw [e] at q; exact q
    | st => rw [e] at q; exact q
    | raw v => rw [e] at q; exact q
    | ow ds =>
      rw [e] at q
      obtain ⟨p, vs, e1, hp, hi, h0, hf, r, z⟩ := q
      refine ⟨p, vs, e1, ?_, hi, h0, hf, r, z⟩
      rcases lend_at js env k with h | ⟨es, h, h'⟩
      · have n := noOw_at no k
        rw [h, e] at n; cases n
      · have ql := RL.slot k
        rw [h'] at ql
        obtain ⟨v, f1, rp⟩ := ql
        rw [e1] at f1
        cases f1
        cases rp with
        | lst hq _ _ =>
          have hq1 := RL.eI _ _ hq
          rw [hp] at hq1
          cases hq1
          exact R2.eI _ _ (s _ _ hq)
  dis := R.dis
def scal0 : D → Bool
  | .none | .bool _ | .int _ | .str _ => true
  | _ => false
theorem scal0_rp {I J : Hp} {v : V} {d : D} (h : Rp K I v d) (z : scal0 d = true) : Rp K J v d := by
  cases h with
  | non => exact .non
  | bl b => exact .bl b
  | int i => exact .int i
  | str h => exact .str h
  | _ => cases z
def mLend (js : List Nat) (ma : ME G) : ME G := fun env g => if (env.lend js).noOw = true then bD (ma (env.lend js) g) fun d g1 => if scal0 d = true then some (d, g1) else none else none
def mLendT (js : List Nat) (mt : MT G) : MT G := fun env g => if (env.lend js).noOw = true then mt (env.lend js) g else none
theorem de_lend (js : List Nat) (h : DE X S e ma) : DE X S e (mLend js ma) := PE.imp h fun σ H Q ⟨w, env, g, d, g', R, e, k⟩ => by
  unfold mLend at e
  split at e
  case isFalse => cases e
  rename_i no
  obtain ⟨x, g1, e1, e⟩ := bD_some e
  split at e
  case isFalse => cases e
  rename_i sc
  cases e
  obtain ⟨I1, s1, RL⟩ := R.lend js
  exact ⟨w.im I1, env.lend js, g, d, g', RL, e1, fun v I' H' s' R' p => k v w.I H' (Same.refl _) (R.unlend RL R' s1 s' no) (scal0_rp p sc)⟩
theorem dt_lend (js : List Nat) (h : DT X S e mt) : DT X S e (mLendT js mt) := PT.imp h fun σ H Q ⟨w, env, g, d, g', R, e, k⟩ => by
  unfold mLendT at e
  split at e
  case isFalse => cases e
  rename_i no
  obtain ⟨I1, s1, RL⟩ := R.lend js
  exact ⟨w.im I1, env.lend js, g, d, g', RL, e, fun I' H' s' R' => k w.I H' (Same.refl _) (R.unlend RL R' s1 s' no)⟩
/-- x[i], x a list of one's own -/
def mIxOw (j : Nat) (mi : ME G) : ME G := fun env g => bD (mi env g) fun i g1 => match env.at j, i with
  | .ow ds, .int i => (atI ds i).map (·, g1)
  | _, _ => none
theorem de_ixOw (j : Nat) {x : Str} {xp : Pos} {i : Expr} {mi : ME G} (hi : DE X S i mi) (hN : X.N[j]? = some x := by rfl) (hv : Vis X.env.scope x := by first | exact Or.inl rfl | exact Or.inr (Or.inl rfl) | exact Or.inr (Or.inr rfl)) (hd : (x == ("__debug__" : Str)) = false := by decide)
    (hcd : (x == ("__classdict__" : Str)) = false := by decide) (hs : PlainIx i := by exact fun _ _ => rfl) : DE X S (.Subscript (.Name x xp) i pos) (mIxOw j mi) := PE.imp (pe_ix ix_list (pe_var hN hv hd hcd) hi hs) fun σ H Q ⟨w, env, g, d, g', R, e, k⟩ => by
  obtain ⟨i, g1, e1, e⟩ := bD_some e
  split at e
  · rename_i ds i ej
    obtain ⟨e3, rfl⟩ := map_some e
    obtain ⟨p, vs, sj, hp, _⟩ := R.own ej
    refine ⟨_, sj, w, env, g, _, g', R, e1, fun u I2 H2 s2 R2 p2 => ?_⟩
    cases p2
    obtain ⟨p', us, sj', hp', _, _, _, rb, _⟩ := R2.own ej
    rw [sj] at sj'
    cases sj'
    obtain ⟨v, e4, r⟩ := atI_rp rb e3
    exact ⟨p, us, i, v, rfl, rfl, SqL.of hp', e4, k v I2 H2 s2 R2 r⟩
  · cases e
/-- xs + ys, a new list -/
def mCat (ma mb : ME G) : ML G := fun env g => bD (ma env g) fun x g1 => bD (mb env g1) fun y g2 => match x, y with
  | .list xs, .list ys => if xs.length + ys.length ≤ sizeLine then some (xs ++ ys, g2) else none
  | _, _ => none
theorem df_cat (ha : DE X S a ma) (hb : DE X S b mb) : DF X S (.BinOp a .Add b pos) (mCat ma mb) := PE.imp (pe_op op_cat ha hb) fun σ H Q ⟨w, env, g, d, g', R, e, k⟩ => by
  obtain ⟨x, g1, e1, e⟩ := bD_some e
  obtain ⟨y, g2, e2, e⟩ := bD_some e
  split at e
  · rename_i xs ys
    split at e
    · rename_i hz
      cases e
      refine ⟨w, env, g, _, g1, R, e1, fun v I1 H1 s1 R1 p1 => ⟨w.im I1, env, g1, _, g', R1, e2, fun u I2 H2 s2 R2 p2 => ?_⟩⟩
      have s2 : Same I1 I2 := s2
      cases p1 with
      | lst hp ra _ =>
        cases p2 with
        | lst hq rb _ =>
          exact ⟨_, _, _, _, rfl, rfl, R2.eI _ _ (s2 _ _ hp), R2.eI _ _ hq, by rw [ra.len, rb.len]; exact hz, fun p h0 => k p _ I2 _ (s1.trans s2) (R2.alloc h0) (R2.nob h0) upd_same ((ra.mono s2).append rb) (by rw [List.length_append]; exact hz)⟩
    · cases e
  · cases e
def mCatOw (j : Nat) (mb : ME G) : ML G := fun env g => bD (mb env g) fun y g2 => match env.at j, y with
  | .ow xs, .list ys => if xs.length + ys.length ≤ sizeLine then some (xs ++ ys, g2) else none
  | _, _ => none
theorem df_catOw (j : Nat) {x : Str} {xp : Pos} (hb : DE X S b mb) (hN : X.N[j]? = some x := by rfl) (hv : Vis X.env.scope x := by first | exact Or.inl rfl | exact Or.inr (Or.inl rfl) | exact Or.inr (Or.inr rfl)) (hd : (x == ("__debug__" : Str)) = false := by decide)
    (hcd : (x == ("__classdict__" : Str)) = false := by decide) : DF X S (.BinOp (.Name x xp) .Add b pos) (mCatOw j mb) := PE.imp (pe_op op_cat (pe_var hN hv hd hcd) hb) fun σ H Q ⟨w, env, g, d, g', R, e, k⟩ => by
  obtain ⟨y, g2, e2, e⟩ := bD_some e
  split at e
  · rename_i xs ys ej
    split at e
    · rename_i hz
      cases e
      obtain ⟨p, vs, sj, hp, _⟩ := R.own ej
      refine ⟨_, sj, w, env, g, _, g', R, e2, fun u I2 H2 s2 R2 p2 => ?_⟩
      obtain ⟨p', us, sj', hp', _, _, _, ra, _⟩ := R2.own ej
      rw [sj] at sj'
      cases sj'
      cases p2 with
      | lst hq rb _ =>
        exact ⟨_, _, _, _, rfl, rfl, hp', R2.eI _ _ hq, by rw [ra.len, rb.len]; exact hz, fun p h0 => k p _ I2 _ s2 (R2.alloc h0) (R2.nob h0) upd_same (ra.append rb) (by rw [List.length_append]; exact hz)⟩
    · cases e
  · cases e
/-- xs * n -/
def mRep (ma mb : ME G) : ML G := fun env g => bD (ma env g) fun x g1 => bD (mb env g1) fun y g2 => match x, y with
  | .list xs, .int k => if -(2 ^ 63) ≤ k ∧ k < 2 ^ 63 ∧ xs.length * k.toNat ≤ sizeLine then some ((List.replicate k.toNat xs).flatten, g2) else none
  | _, _ => none
theorem df_rep (ha : DE X S a ma) (hb : DE X S b mb) : DF X S (.BinOp a .Mult b pos) (mRep ma mb) := PE.imp (pe_op op_rep ha hb) fun σ H Q ⟨w, env, g, d, g', R, e, k⟩ => by
  obtain ⟨x, g1, e1, e⟩ := bD_some e
  obtain ⟨y, g2, e2, e⟩ := bD_some e
  split at e
  · rename_i xs n
    split at e
    · rename_i hz
      cases e
      refine ⟨w, env, g, _, g1, R, e1, fun v I1 H1 s1 R1 p1 => ⟨w.im I1, env, g1, _, g', R1, e2, fun u I2 H2 s2 R2 p2 => ?_⟩⟩
      have s2 : Same I1 I2 := s2
      cases p1 with
      | lst hp ra _ =>
        cases p2
        refine ⟨_, _, _, rfl, rfl, R2.eI _ _ (s2 _ _ hp), hz.1, hz.2.1, by rw [ra.len]; exact hz.2.2, fun p h0 => k p _ I2 _ (s1.trans s2) (R2.alloc h0) (R2.nob h0) upd_same ((ra.mono s2).flatRep _) ?_⟩
        rw [List.length_flatten, List.map_replicate, List.sum_replicate_nat, Nat.mul_comm]
        exact hz.2.2
    · cases e
  · cases e
end
end Pd

/-! Pd: defs. -/
namespace Pd
open PySem PySem.Spec L2
section
variable {G : Type} {X : Cx} {S : Gs G} {m : MS G}
variable {K : PySem.W.Frag} {w : Wd} {env env' : Env} {g g' : G} {σ : St} {H H' I I' : Hp}

def startE (N : Nat) (as : List SV) : Env := as ++ List.replicate (N - as.length) .un
/-- a def's run: N slots, n parameters -/
def runS (N n : Nat) (m : MS G) (as : List SV) (g : G) : Option (Ct × G) := if as.length = n ∧ n ≤ N then match m (startE N as) g with
  | some (.re d, _, g1) => some (.re d, g1)
  | some (.rl ds, _, g1) => some (.rl ds, g1)
  | some (.nx, _, g1) => some (.re .none, g1)
  | _ => none
  else none
def Ct.data : Ct → Option D
  | .re d => some d
  | .rl ds => some (.list ds)
  | _ => none
def Ct.fresh : Ct → Option (List D)
  | .rl ds => some ds
  | _ => none
def runP (N n : Nat) (m : MS Unit) (ds : List D) : Option D := (runS N n m (ds.map .sh) ()).bind fun c => c.1.data
def runN (N n : Nat) (m : MS Unit) (ds : List D) : Option (List D) := (runS N n m (ds.map .sh) ()).bind fun c => c.1.fresh
def runG (N n : Nat) (m : MS G) (as : List SV) (g : G) : Option (D × G) := (runS N n m as g).bind fun c => c.1.data.map (·, c.2)

/-- the frame at a def's entry -/
theorem start_slot {w : Wd} {rt : V} {N : List Str} {vs : List V} {as : List SV} (hrt : w.rt = rt) (ha : ArgsOk K w.I rt vs as) (hl : as.length ≤ N.length) : ∀ i, SlotOk K w (start N vs) H i ((startE N.length as).at i) ∧ ∀ ds, (startE N.length as).at i ≠ .ow ds := by
  have key : ∀ {vs : List V} {as : List SV}, ArgsOk K w.I rt vs as → ∀ (n i : Nat), SlotOk K w (vs.map some ++ List.replicate n none) H i (Env.at (as ++ List.replicate n .un) i) ∧ ∀ ds, Env.at (as ++ List.replicate n .un) i ≠ .ow ds := by
    intro vs as h
    induction h with
    | nil =>
      intro n i
      have e : Env.at ([] ++ List.replicate n SV.un) i = .un := by
        show ([] ++ List.replicate n SV.un).getD i .un = .un
        rw [List.nil_append, List.getD_eq_getElem?_getD, List.getElem?_replicate]
        split <;> rfl
      rw [e]
      exact ⟨trivial, fun ds z => nomatch z⟩
    | @cons v vs a as ha _ ih =>
      intro n i
      cases i with
      | zero =>
        show SlotOk K w (some v :: _) H 0 a ∧ ∀ ds, a ≠ .ow ds
        cases a with
        | un => exact ha.elim
        | ow ds => exact ha.elim
        | sh d => exact ⟨⟨v, rfl, ha⟩, fun ds z => nomatch z⟩
        | st => exact ⟨(show some (some v) = some (some w.rt) by rw [hrt]; exact congrArg (fun x => some (some x)) ha), fun ds z => nomatch z⟩
        | raw u => exact ⟨(show some (some v) = some (some u) from congrArg (fun x => some (some x)) ha), fun ds z => nomatch z⟩
      | succ i =>
        have q := ih n i
        have e : Env.at ((a :: as) ++ List.replicate n .un) (i + 1) = Env.at (as ++ List.replicate n .un) i := rfl
        rw [e]
        refine ⟨?_, q.2⟩
        have q1 := q.1
        cases z : Env.at (as ++ List.replicate n .un) i with
        | un => trivial
        | sh d => rw [z] at q1; exact q1
        | st => rw [z] at q1; exact q1
        | raw u => rw [z] at q1; exact q1
        | ow ds => exact absurd z (q.2 ds)
  intro i
  have hv := ha.len
  have q := key ha (N.length - as.length) i
  unfold L2.start startE
  rw [hv]
  exact q
theorem start_rel {rt : V} {N : List Str} {vs : List V} {as : List SV} (w : Wd) (hrt : w.rt = rt) (ha : ArgsOk K w.I rt vs as) (hl : as.length ≤ N.length)
    (e0 : Same w.H0 H) (eI : Same w.I H) (ag : ∀ a o, w.H0 a = some o → w.I a = w.I0 a) (ge : Same w.I0 w.I) (gfp : ∀ a, S.fp g a ↔ w.fp a) (grt : S.root g = w.rt) (gok : S.ok g H) (fI : ∀ a, w.fp a → w.I a = none) (f0 : ∀ a, w.fp a → w.H0 a = none) :
    Rel K S w (startE N.length as) g (start N vs) H where
  e0 := e0
  eI := eI
  ag := ag
  ge := ge
  gfp := gfp
  grt := grt
  gok := gok
  fI := fI
  f0 := f0
  len := by
    unfold L2.start startE
    rw [List.length_append, List.length_append, List.length_map, List.length_replicate, List.length_replicate, ha.len]
  slot := fun i => (start_slot hrt ha hl i).1
  dis := fun i j p ds es _ e1 => absurd e1 ((start_slot (H := H) hrt ha hl i).2 ds)
theorem ArgsOk.of_rp {rt : V} : ∀ {vs : List V} {ds : List D}, RpA K I vs ds → ArgsOk K I rt vs (ds.map .sh)
  | _, _, .nil => .nil
  | _, _, .cons a b => .cons a (ArgsOk.of_rp b)
theorem runS_len {N n : Nat} {as : List SV} (r) (h : runS N n m as g = some r) : as.length = n ∧ n ≤ N := by
  unfold runS at h
  split at h
  · assumption
  · cases h
/-- what a def's end tells -/
def EndR (K : PySem.W.Frag) (S : Gs G) (w : Wd) (g' : G) (Q : VK) : Ct → Prop
  | .re d => ∀ v env' σ' I' H', Same w.I I' → Rel K S (w.im I') env' g' σ' H' → Rp K I' v d → Q v H'
  | .rl ds => ∀ p vs env' σ' I' H', Same w.I I' → Rel K S (w.im I') env' g' σ' H' → Nob (w.im I') env' σ' p → H' p = some (.lst vs) → RpA K I' vs ds → ds.length ≤ sizeLine → Q (.ref p) H'
  | _ => True
theorem run_body {N : List Str} {n : Nat} {as : List SV} {vs : List V} {w : Wd} {c : Ct} {Q : VK} (R : Rel K S w (startE N.length as) g (start N vs) H) (h : runS N.length n m as g = some (c, g')) (k : EndR K S w g' Q c) :
    tS K S m { nx := fun _ H' => Q .non H', rt := Q } (start N vs) H := by
  obtain ⟨hl, hn⟩ := runS_len _ h
  unfold runS at h
  rw [if_pos ⟨hl, hn⟩] at h
  split at h
  · rename_i d e1 g1 e
    cases h
    exact ⟨w, _, g, .re d, e1, g', R, e, fun v σ' I' H' s' R' p => k v e1 σ' I' H' s' R' p⟩
  · rename_i d e1 g1 e
    cases h
    exact ⟨w, _, g, .rl d, e1, g', R, e, fun p vs σ' I' H' s' R' n hp ra z => k p vs e1 σ' I' H' s' R' n hp ra z⟩
  · rename_i e1 g1 e
    cases h
    exact ⟨w, _, g, .nx, e1, g', R, e, fun σ' I' H' s' R' => k .non e1 σ' I' H' s' R' .non⟩
  · cases h
variable {P : Program} {wd : World} {mg : Str → Option Value} {base : Heap}
/-- a def's body as a term of rules, in any frame -/
abbrev Body (P : Program) (wd : World) (K : PySem.W.Frag) (mg : Str → Option Value) (base : Heap) (N : List Str) (qual : Str) (st : Stmt) (f : Addr) (k : Nat) (S : Gs G) (m : MS G) : Prop :=
  ∀ (cdv : Value) (A : Around) (outer : List PySem.Env) (s : Shared) (H : Hp) (E : XK), Room k (A.deeper (PyProof.Rows.envOfC qual (defScope st) s.heap.objs.size f cdv)) →
    PSs (cxOf CX0 P wd K mg base N qual (defScope st) f cdv A outer s H E).nox (defBody st) (tS K S m)
theorem fn_pure {x qual : Str} {st : Stmt} {f : Addr} {fd : FuncData} {N ps : List Str} {k : Nat} {m : MS Unit} (F : Fun K x qual st f fd) (Sc : FnScope N ps (defScope st)) (hb : Body P wd K mg base N qual st f k G0 m) :
    FnOk P wd K mg base CX0 (k + 1) f fd ps (spP K (runP N.length ps.length m)) := by
  refine F.ok Sc (fun vs H Q E h => ?_) (fun cdv A outer s H vs Q E hr h => ?_)
  · obtain ⟨I, ds, d, _, ra, e, _⟩ := h
    obtain ⟨c, e1, _⟩ := Option.bind_eq_some_iff.mp e
    have q := (runS_len (c.1, c.2) e1).1
    rw [List.length_map] at q
    rw [ra.len, q]
  · obtain ⟨I, ds, d, sI, ra, e, kk⟩ := h
    obtain ⟨⟨c, u⟩, e1, e2⟩ := Option.bind_eq_some_iff.mp e
    have hl := runS_len _ e1
    refine ⟨_, hb cdv A outer s H E hr, ?_⟩
    have R : Rel K G0 ⟨H, I, I, fun _ => False, .non⟩ (startE N.length (ds.map .sh)) () (start N vs) H :=
      start_rel (rt := .non) ⟨H, I, I, fun _ => False, .non⟩ rfl (ArgsOk.of_rp ra) (by rw [hl.1]; exact hl.2) (Same.refl _) sI (fun _ _ _ => rfl) (Same.refl _) (fun _ => Iff.rfl) rfl trivial (fun _ z => z.elim) (fun _ z => z.elim)
    refine run_body (c := c) (g' := u) R e1 ?_
    have fin : ∀ (env' : Env) σ' I' H', Same I I' → Rel K G0 (Wd.im ⟨H, I, I, fun _ => False, .non⟩ I') env' u σ' H' → Pst I H I' H' := fun env' σ' I' H' s' R' => ⟨s', R'.e0, R'.eI, fun a ha => by
      cases q : H a with
      | none => exact absurd q ha
      | some o => exact R'.ag a o q⟩
    cases c with
    | re d' =>
      cases e2
      exact fun v env' σ' I' H' s' R' p => kk v I' H' (fin env' σ' I' H' s' R') p
    | rl ds' =>
      cases e2
      refine fun p us env' σ' I' H' s' R' n hp rb z => ?_
      have R2 := R'.freeze n hp
      exact kk (.ref p) _ H' (fin env' σ' _ H' (Same.trans s' (same_new n.i)) R2) (.lst upd_same (rb.mono (same_new n.i)) z)
    | _ => cases e2
theorem fn_new {x qual : Str} {st : Stmt} {f : Addr} {fd : FuncData} {N ps : List Str} {k : Nat} {m : MS Unit} (F : Fun K x qual st f fd) (Sc : FnScope N ps (defScope st)) (hb : Body P wd K mg base N qual st f k G0 m) :
    FnOk P wd K mg base CX0 (k + 1) f fd ps (spN K (runN N.length ps.length m)) := by
  refine F.ok Sc (fun vs H Q E h => ?_) (fun cdv A outer s H vs Q E hr h => ?_)
  · obtain ⟨I, ds, d, _, ra, e, _⟩ := h
    obtain ⟨c, e1, _⟩ := Option.bind_eq_some_iff.mp e
    have q := (runS_len (c.1, c.2) e1).1
    rw [List.length_map] at q
    rw [ra.len, q]
  · obtain ⟨I, ds, d, sI, ra, e, kk⟩ := h
    obtain ⟨⟨c, u⟩, e1, e2⟩ := Option.bind_eq_some_iff.mp e
    have hl := runS_len _ e1
    refine ⟨_, hb cdv A outer s H E hr, ?_⟩
    have R : Rel K G0 ⟨H, I, I, fun _ => False, .non⟩ (startE N.length (ds.map .sh)) () (start N vs) H :=
      start_rel (rt := .non) ⟨H, I, I, fun _ => False, .non⟩ rfl (ArgsOk.of_rp ra) (by rw [hl.1]; exact hl.2) (Same.refl _) sI (fun _ _ _ => rfl) (Same.refl _) (fun _ => Iff.rfl) rfl trivial (fun _ z => z.elim) (fun _ z => z.elim)
    refine run_body (c := c) (g' := u) R e1 ?_
    cases c with
    | rl ds' =>
      cases e2
      refine fun p us env' σ' I' H' s' R' n hp rb z => kk p us I' H' ⟨s', R'.e0, R'.eI, fun a ha => ?_⟩ n.h0 n.i hp rb z
      cases q : H a with
      | none => exact absurd q ha
      | some o => exact R'.ag a o q
    | _ => cases e2
open Classical in
theorem fn_ghost {x qual : Str} {st : Stmt} {f : Addr} {fd : FuncData} {N ps : List Str} {k : Nat} {m : MS G} (F : Fun K x qual st f fd) (Sc : FnScope N ps (defScope st)) (hb : Body P wd K mg base N qual st f k S m) :
    FnOk P wd K mg base CX0 (k + 1) f fd ps (spG K S (runG N.length ps.length m)) := by
  refine F.ok Sc (fun vs H Q E h => ?_) (fun cdv A outer s H vs Q E hr h => ?_)
  · obtain ⟨I, g, as, d, g', _, _, _, ra, e, _⟩ := h
    obtain ⟨c, e1, _⟩ := Option.bind_eq_some_iff.mp e
    have q := (runS_len (c.1, c.2) e1).1
    rw [ra.len, q]
  · obtain ⟨I, g, as, d, g', sI, gok, fI, ra, e, kk⟩ := h
    obtain ⟨⟨c, g1⟩, e1, e2⟩ := Option.bind_eq_some_iff.mp e
    have hl := runS_len _ e1
    refine ⟨_, hb cdv A outer s H E hr, ?_⟩
    have h0 : Same (fun a => if S.fp g a then none else H a) H := fun a o q => by
      have q : (if S.fp g a then none else H a) = some o := q
      split at q
      · cases q
      · exact q
    have R : Rel K S ⟨fun a => if S.fp g a then none else H a, I, I, S.fp g, S.root g⟩ (startE N.length as) g (start N vs) H :=
      start_rel (rt := S.root g) ⟨fun a => if S.fp g a then none else H a, I, I, S.fp g, S.root g⟩ rfl ra (by rw [hl.1]; exact hl.2) h0 sI (fun _ _ _ => rfl) (Same.refl _) (fun _ => Iff.rfl) rfl gok fI (fun a z => if_pos z)
    refine run_body (c := c) (g' := g1) R e1 ?_
    have fin : ∀ (env' : Env) σ' I' H', Same I I' → Rel K S (Wd.im ⟨fun a => if S.fp g a then none else H a, I, I, S.fp g, S.root g⟩ I') env' g1 σ' H' → Gst S I H g I' H' g1 := fun env' σ' I' H' s' R' => {
      eI := s'
      eH := fun a o q nf => R'.e0 a o (show (if S.fp g a then none else H a) = some o by rw [if_neg nf]; exact q)
      sub := R'.eI
      ag := fun a ha => by
        by_cases z : S.fp g a
        · exact (R'.fI a z).trans (fI a z).symm
        · cases q : H a with
          | none => exact absurd q ha
          | some o => exact R'.ag a o (show (if S.fp g a then none else H a) = some o by rw [if_neg z]; exact q)
      fp' := R'.gfp
      rt := R'.grt
      ok := R'.gok }
    have e2 : (c.data).map (·, g1) = some (d, g') := e2
    cases c with
    | re d' =>
      cases e2
      exact fun v env' σ' I' H' s' R' p => kk v I' H' (fin env' σ' I' H' s' R') p
    | rl ds' =>
      cases e2
      refine fun p us env' σ' I' H' s' R' n hp rb z => ?_
      have R2 := R'.freeze n hp
      exact kk (.ref p) _ H' (fin env' σ' _ H' (Same.trans s' (same_new n.i)) R2) (.lst upd_same (rb.mono (same_new n.i)) z)
    | _ => cases e2
end
end Pd

/-! Pd: operations by values. -/
namespace Pd
open PySem PySem.Spec L2
section
variable {G : Type} {X : Cx} {S : Gs G} {K : PySem.W.Frag}

/-! ### ints -/
def dI (g : Int → Int → D) : D → D → Option D
  | .int i, .int j => some (g i j)
  | _, _ => none
def dIc (C : Int → Int → Prop) [∀ i j, Decidable (C i j)] (g : Int → Int → D) : D → D → Option D
  | .int i, .int j => if C i j then some (g i j) else none
  | _, _ => none
theorem od_I {gv : Int → Int → V} {g : Int → Int → D} (h : ∀ i j I, Rp K I (gv i j) (g i j)) : OpD K (rI0 gv) (dI g) := by
  intro I H x y d e z s p q hz Q k
  cases p with
  | int i =>
    cases q with
    | int j => cases hz; exact ⟨i, j, rfl, rfl, k _ I H (Pst.refl s) (h i j I)⟩
    | _ => cases hz
  | _ => cases hz
theorem od_Ic {C : Int → Int → Prop} [∀ i j, Decidable (C i j)] {gv : Int → Int → V} {g : Int → Int → D} (h : ∀ i j I, Rp K I (gv i j) (g i j)) : OpD K (rI C gv) (dIc C g) := by
  intro I H x y d e z s p q hz Q k
  cases p with
  | int i =>
    cases q with
    | int j =>
      have hz : (if C i j then some (g i j) else none) = some z := hz
      split at hz
      · rename_i hc
        cases hz
        exact ⟨i, j, rfl, rfl, hc, k _ I H (Pst.refl s) (h i j I)⟩
      · cases hz
    | _ => cases hz
  | _ => cases hz
instance (i j : Int) : Decidable (CMul i j) := by unfold CMul; exact inferInstance
instance (i j : Int) : Decidable (CDivN i j) := by unfold CDivN; exact inferInstance
instance (i j : Int) : Decidable (CPow i j) := by unfold CPow; exact inferInstance

/-! ### + -/
theorem sok_app {x y : Str} (hx : SOk x) (hy : SOk y) (hz : x.length + y.length ≤ sizeLine) : SOk (x ++ y) := by
  refine ⟨?_, ?_⟩
  · have e : (x ++ y).length = x.length + y.length := by
      show (x.cps ++ y.cps).size = x.cps.size + y.cps.size
      rw [Array.size_append]
    rw [e]; exact hz
  · have h1 := hx.2
    have h2 := hy.2
    simp only [PyData.canLay0] at h1 h2 ⊢
    unfold PyData.strOk at h1 h2 ⊢
    show (x.cps ++ y.cps).all _ = true
    rw [Array.all_append, h1, h2]
    rfl
def dAddS : D → D → Option D
  | .str x, .str y => if x.length + y.length ≤ sizeLine then some (.str (x ++ y)) else none
  | _, _ => none
def dAddT : D → D → Option D
  | .tuple xs, .tuple ys => if xs.length + ys.length ≤ sizeLine then some (.tuple (xs ++ ys)) else none
  | _, _ => none
def dAddL : D → D → Option D
  | .list xs, .list ys => if xs.length + ys.length ≤ sizeLine then some (.list (xs ++ ys)) else none
  | _, _ => none
theorem od_addS : OpD K (fun x y H Q => ∃ i j, x = .str i ∧ y = .str j ∧ i.length + j.length ≤ sizeLine ∧ Q (.str (i ++ j)) H) dAddS := by
  intro I H x y d e z s p q hz Q k
  cases p with
  | str hx =>
    cases q with
    | str hy =>
      have hz : (if _ then _ else none) = some z := hz
      split at hz
      · rename_i hc
        cases hz
        exact ⟨_, _, rfl, rfl, hc, k _ I H (Pst.refl s) (.str (sok_app hx hy hc))⟩
      · cases hz
    | _ => cases hz
  | _ => cases hz
theorem od_addT : OpD K (rCatA K) dAddT := by
  intro I H x y d e z s p q hz Q k
  cases p with
  | tup hp ra hl =>
    cases q with
    | tup hq rb hm =>
      have hz : (if _ then _ else none) = some z := hz
      split at hz
      · rename_i hc
        cases hz
        refine ⟨_, _, _, _, rfl, rfl, same_t s hp, same_t s hq, by rw [ra.len, rb.len]; exact hc, fun e => ?_, fun _ e => ?_, fun _ _ p h0 => ?_⟩
        · subst e
          cases ra
          exact k _ I H (Pst.refl s) (.tup hq rb hm)
        · subst e
          cases rb
          rw [List.append_nil] at k
          exact k _ I H (Pst.refl s) (.tup hp ra hl)
        · exact k _ _ _ (Pst.new s h0) (.tup (SqT.of upd_same) ((ra.append rb).mono (Pst.new s h0).eI) (by rw [List.length_append]; exact hc))
      · cases hz
    | _ => cases hz
  | _ => cases hz
theorem od_addL : OpD K rCat dAddL := by
  intro I H x y d e z s p q hz Q k
  cases p with
  | lst hp ra hl =>
    cases q with
    | lst hq rb hm =>
      have hz : (if _ then _ else none) = some z := hz
      split at hz
      · rename_i hc
        cases hz
        refine ⟨_, _, _, _, rfl, rfl, s _ _ hp, s _ _ hq, by rw [ra.len, rb.len]; exact hc, fun p h0 => ?_⟩
        exact k _ _ _ (Pst.new s h0) (.lst upd_same ((ra.append rb).mono (Pst.new s h0).eI) (by rw [List.length_append]; exact hc))
      · cases hz
    | _ => cases hz
  | _ => cases hz
def dAddI : D → D → Option D := dI fun i j => .int (i + j)
/-- + of ints, texts, tuples, lists -/
def dAdd (x y : D) : Option D := match x, y with
  | .int i, .int j => some (.int (i + j))
  | .str x, .str y => if x.length + y.length ≤ sizeLine then some (.str (x ++ y)) else none
  | .tuple xs, .tuple ys => if xs.length + ys.length ≤ sizeLine then some (.tuple (xs ++ ys)) else none
  | .list xs, .list ys => if xs.length + ys.length ≤ sizeLine then some (.list (xs ++ ys)) else none
  | _, _ => none
theorem OpD.imp {r : R2} {f f' : D → D → Option D} (h : OpD K r f) (e : ∀ x y z, f' x y = some z → f x y = some z) : OpD K r f' := by
  intro I H x y d e' z s p q hz Q k
  exact h s p q (e _ _ _ hz) k
abbrev rAddD (K : PySem.W.Frag) : R2 := fun x y H Q => rI0 (fun i j => .int (i + j)) x y H Q ∨ ((∃ i j, x = .str i ∧ y = .str j ∧ i.length + j.length ≤ sizeLine ∧ Q (.str (i ++ j)) H) ∨ (rCatA K x y H Q ∨ rCat x y H Q))
theorem op_addD : OpR X (binaryOp .Add) (rAddD X.K) := op_add.or (op_add_str.or (op_catA.or op_cat))
theorem od_addD : OpD K (rAddD K) dAdd := OpD.imp (OpD.or (od_I (g := fun i j => .int (i + j)) fun i j I => .int _) (OpD.or od_addS (OpD.or od_addT od_addL))) fun x y z h => by
  unfold dAdd at h
  split at h
  · exact h
  · split at h
    · rename_i hc
      simp only [dI, dAddS, if_pos hc]; exact h
    · cases h
  · split at h
    · rename_i hc
      simp only [dI, dAddS, dAddT, if_pos hc]; exact h
    · cases h
  · split at h
    · rename_i hc
      simp only [dI, dAddS, dAddT, dAddL, if_pos hc]; exact h
    · cases h
  · cases h
abbrev dSub : D → D → Option D := dI fun i j => .int (i - j)
theorem od_sub : OpD K (rI0 fun i j => .int (i - j)) dSub := od_I fun i j I => .int _
abbrev dMul : D → D → Option D := dIc CMul fun i j => .int (i * j)
theorem od_mul : OpD K (rI CMul fun i j => .int (i * j)) dMul := od_Ic fun i j I => .int _
abbrev dDiv : D → D → Option D := dIc CDivN fun i j => .int (i.fdiv j)
theorem od_div : OpD K (rI CDivN fun i j => .int (i.fdiv j)) dDiv := od_Ic fun i j I => .int _
abbrev dMod : D → D → Option D := dIc (fun _ j => j ≠ 0) fun i j => .int (i.fmod j)
theorem od_mod : OpD K (rI (fun _ j => j ≠ 0) fun i j => .int (i.fmod j)) dMod := od_Ic fun i j I => .int _
abbrev dPow : D → D → Option D := dIc CPow fun i j => .int (i ^ j.toNat)
theorem od_pow : OpD K (rI CPow fun i j => .int (i ^ j.toNat)) dPow := od_Ic fun i j I => .int _
abbrev dShl : D → D → Option D := dIc CPow fun i j => .int (i * 2 ^ j.toNat)
theorem od_shl : OpD K (rI CPow fun i j => .int (i * 2 ^ j.toNat)) dShl := od_Ic fun i j I => .int _
def dNeg : D → Option D
  | .int i => some (.int (-i))
  | _ => none
theorem ud_neg : UnD K (rU fun i => .int (-i)) dNeg := by
  intro I H x d z s p hz Q k
  cases p with
  | int i => cases hz; exact ⟨i, rfl, k _ I H (Pst.refl s) (.int _)⟩
  | _ => cases hz

/-! ### comparisons -/
abbrev dLtI : D → D → Option D := dI fun i j => .bool (decide (i < j))
theorem od_ltI : OpD K (rI0 fun i j => .bl (decide (i < j))) dLtI := od_I fun i j I => .bl _
abbrev dLeI : D → D → Option D := dI fun i j => .bool (decide (i ≤ j))
theorem od_leI : OpD K (rI0 fun i j => .bl (decide (i ≤ j))) dLeI := od_I fun i j I => .bl _
abbrev dGtI : D → D → Option D := dI fun i j => .bool (decide (j < i))
theorem od_gtI : OpD K (rI0 fun i j => .bl (decide (j < i))) dGtI := od_I fun i j I => .bl _
abbrev dGeI : D → D → Option D := dI fun i j => .bool (decide (j ≤ i))
theorem od_geI : OpD K (rI0 fun i j => .bl (decide (j ≤ i))) dGeI := od_I fun i j I => .bl _
def dEq (x y : D) : Option D := if x.depth ≤ 64 ∧ y.depth ≤ 64 then some (.bool (PyData.eqv x y)) else none
def dNe (x y : D) : Option D := if x.depth ≤ 64 ∧ y.depth ≤ 64 then some (.bool (!PyData.eqv x y)) else none
theorem shaped_of {I : Hp} {v : V} {d : D} (h : Rp K I v d) (hd : d.depth ≤ 64) : SeqAt.shaped d = true := by
  unfold SeqAt.shaped
  rw [h.lay, decide_eq_true hd]
  rfl
theorem od_eq : OpD K (rEqD K) dEq := by
  intro I H x y d e z s p q hz Q k
  unfold dEq at hz
  split at hz
  · rename_i hc
    cases hz
    exact ⟨d, e, (p.mono s).dp, (q.mono s).dp, shaped_of p hc.1, shaped_of q hc.2, k _ I H (Pst.refl s) (.bl _)⟩
  · cases hz
theorem od_ne : OpD K (rNeD K) dNe := by
  intro I H x y d e z s p q hz Q k
  unfold dNe at hz
  split at hz
  · rename_i hc
    cases hz
    exact ⟨d, e, (p.mono s).dp, (q.mono s).dp, shaped_of p hc.1, shaped_of q hc.2, k _ I H (Pst.refl s) (.bl _)⟩
  · cases hz
def isNone : D → Bool
  | .none => true
  | _ => false
def dIs : D → D → Option D
  | x, .none => some (.bool (isNone x))
  | _, _ => none
def dIsNot : D → D → Option D
  | x, .none => some (.bool (!isNone x))
  | _, _ => none
theorem isNone_rp {I : Hp} {v : V} {d : D} (h : Rp K I v d) : decide (v = .non) = isNone d := by
  cases h <;> simp [isNone]
theorem od_is : OpD K (fun x y H Q => y = .non ∧ Q (.bl (decide (x = .non))) H) dIs := by
  intro I H x y d e z s p q hz Q k
  cases q with
  | non => cases hz; exact ⟨rfl, by rw [isNone_rp p]; exact k _ I H (Pst.refl s) (.bl _)⟩
  | _ => cases hz
theorem od_isNot : OpD K (fun x y H Q => y = .non ∧ Q (.bl (!decide (x = .non))) H) dIsNot := by
  intro I H x y d e z s p q hz Q k
  cases q with
  | non => cases hz; exact ⟨rfl, by rw [isNone_rp p]; exact k _ I H (Pst.refl s) (.bl _)⟩
  | _ => cases hz
/-- in: a list of data, a tuple of flat data, one sign in a text -/
def flatD : D → Bool
  | .none | .bool _ | .int _ | .str _ => true
  | _ => false
theorem flat_rp {I : Hp} {v : V} {d : D} (h : Rp K I v d) : flatV v = flatD d := by cases h <;> rfl
theorem eqV_rp {I : Hp} {u v : V} {d e : D} (hu : Rp K I u d) (hv : Rp K I v e) (fd : flatD d = true) (fe : flatD e = true) : eqV u v = PyData.eqv d e := by
  cases hu <;> cases hv <;> first | (cases fd; done) | (cases fe; done) | (simp only [eqV, PyData.eqv])
theorem inV_rp {I : Hp} {x : V} {d : D} (hx : Rp K I x d) (fd : flatD d = true) : ∀ {vs : List V} {ds : List D}, RpA K I vs ds → ds.all flatD = true → inV x vs = ds.any fun e => PyData.eqv e d
  | _, _, .nil, _ => rfl
  | _, _, .cons (d := e) a b, h => by
    rw [List.all_cons, Bool.and_eq_true] at h
    show (eqV _ x || inV x _) = (PyData.eqv e d || _)
    rw [eqV_rp a hx h.1 fd, inV_rp hx fd b h.2]
theorem flats_rp {I : Hp} : ∀ {vs : List V} {ds : List D}, RpA K I vs ds → vs.all flatV = ds.all flatD
  | _, _, .nil => rfl
  | _, _, .cons a b => by rw [List.all_cons, List.all_cons, flat_rp a, flats_rp b]
def dInF (neg : Bool) : D → D → Option D
  | x, .list ds => if flatD x = true ∧ ds.all flatD = true then some (.bool (if neg then !ds.any (fun e => PyData.eqv e x) else ds.any fun e => PyData.eqv e x)) else none
  | x, .tuple ds => if flatD x = true ∧ ds.all flatD = true then some (.bool (if neg then !ds.any (fun e => PyData.eqv e x) else ds.any fun e => PyData.eqv e x)) else none
  | _, _ => none
theorem od_inF (neg : Bool) : OpD K (rIn K neg) (dInF neg) := by
  intro I H x y d e z s p q hz Q k
  cases q with
  | lst hq ra hl =>
    have hz : (if _ then _ else none) = some z := hz
    split at hz
    · rename_i hc
      cases hz
      refine ⟨_, _, rfl, .inl (SqL.of (s _ _ hq)), by rw [flat_rp p]; exact hc.1, by rw [flats_rp ra]; exact hc.2, ?_⟩
      rw [inV_rp p hc.1 ra hc.2]
      exact k _ I H (Pst.refl s) (.bl _)
    · cases hz
  | tup hq ra hl =>
    have hz : (if _ then _ else none) = some z := hz
    split at hz
    · rename_i hc
      cases hz
      refine ⟨_, _, rfl, .inr (same_t s hq), by rw [flat_rp p]; exact hc.1, by rw [flats_rp ra]; exact hc.2, ?_⟩
      rw [inV_rp p hc.1 ra hc.2]
      exact k _ I H (Pst.refl s) (.bl _)
    · cases hz
  | _ => cases hz
def dInS (neg : Bool) : D → D → Option D
  | .str ⟨cs⟩, .str z => match cs.toList with
    | [c] => some (.bool (if neg then !decide (c ∈ z.cps.toList) else decide (c ∈ z.cps.toList)))
    | _ => none
  | _, _ => none
theorem dInS_some {neg : Bool} {x y z : D} (h : dInS neg x y = some z) : ∃ c u, x = .str ⟨#[c]⟩ ∧ y = .str u ∧ z = .bool (if neg then !decide (c ∈ u.cps.toList) else decide (c ∈ u.cps.toList)) := by
  cases x with
  | str s =>
    obtain ⟨cs⟩ := s
    cases y with
    | str u =>
      have h : (match cs.toList with
        | [c] => some (PyData.bool (if neg then !decide (c ∈ u.cps.toList) else decide (c ∈ u.cps.toList)))
        | _ => none) = some z := h
      split at h
      · rename_i c ec
        cases h
        have e : cs = #[c] := by
          apply Array.ext'
          rw [ec]
        exact ⟨c, u, by rw [e], rfl, rfl⟩
      · cases h
    | _ => cases h
  | _ => cases h
theorem od_inS : OpD K (fun x y H Q => ∃ (c : Nat) (z : Str), x = .str ⟨#[c]⟩ ∧ y = .str z ∧ Q (.bl (decide (c ∈ z.cps.toList))) H) (dInS false) := by
  intro I H x y d e z s p q hz Q k
  obtain ⟨c, u, rfl, rfl, rfl⟩ := dInS_some hz
  cases p
  cases q
  exact ⟨c, u, rfl, rfl, k _ I H (Pst.refl s) (.bl _)⟩
theorem od_notInS : OpD K (fun x y H Q => ∃ (c : Nat) (z : Str), x = .str ⟨#[c]⟩ ∧ y = .str z ∧ Q (.bl (!decide (c ∈ z.cps.toList))) H) (dInS true) := by
  intro I H x y d e z s p q hz Q k
  obtain ⟨c, u, rfl, rfl, rfl⟩ := dInS_some hz
  cases p
  cases q
  exact ⟨c, u, rfl, rfl, k _ I H (Pst.refl s) (.bl _)⟩

/-! ### built-in functions -/
def dLen : List D → Option D
  | [.list ds] => some (.int ds.length)
  | [.tuple ds] => some (.int ds.length)
  | [.str x] => some (.int x.length)
  | _ => none
theorem cd_len : CallD K (fun xs H Q => ∃ x n, xs = [x] ∧ LenV K x H n ∧ Q (.int n) H) dLen := by
  intro I H xs ds z s p hz Q k
  cases p with
  | nil => cases hz
  | cons a b =>
    cases b with
    | cons _ _ => cases a <;> cases hz
    | nil =>
      cases a with
      | lst hp ra hl => cases hz; exact ⟨_, _, rfl, .inl ⟨_, SqL.of (s _ _ hp), ra.len.symm⟩, k _ I H (Pst.refl s) (.int _)⟩
      | tup hp ra hl => cases hz; exact ⟨_, _, rfl, .inr ⟨_, same_t s hp, ra.len.symm⟩, k _ I H (Pst.refl s) (.int _)⟩
      | str hx => cases hz; exact ⟨_, _, rfl, ⟨hx.1, rfl⟩, k _ I H (Pst.refl s) (.int _)⟩
      | _ => cases hz
def dAbs : List D → Option D
  | [.int i] => some (.int (if i < 0 then -i else i))
  | _ => none
theorem cd_abs : CallD K (fun xs H Q => ∃ i, xs = [.int i] ∧ Q (.int (if i < 0 then -i else i)) H) dAbs := by
  intro I H xs ds z s p hz Q k
  cases p with
  | nil => cases hz
  | cons a b =>
    cases b with
    | cons _ _ => cases a <;> cases hz
    | nil =>
      cases a with
      | int i => cases hz; exact ⟨i, rfl, k _ I H (Pst.refl s) (.int _)⟩
      | _ => cases hz
def dInt : List D → Option D
  | [.int i] => some (.int i)
  | [.bool b] => some (.int (if b then 1 else 0))
  | _ => none
theorem cd_int : CallD K (fun xs H Q => (∃ i, xs = [.int i] ∧ Q (.int i) H) ∨ ∃ k, xs = [.bl k] ∧ Q (.int (if k then 1 else 0)) H) dInt := by
  intro I H xs ds z s p hz Q k
  cases p with
  | nil => cases hz
  | cons a b =>
    cases b with
    | cons _ _ => cases a <;> cases hz
    | nil =>
      cases a with
      | int i => cases hz; exact .inl ⟨i, rfl, k _ I H (Pst.refl s) (.int _)⟩
      | bl i => cases hz; exact .inr ⟨i, rfl, k _ I H (Pst.refl s) (.int _)⟩
      | _ => cases hz
def dMax2 : List D → Option D
  | [.int i, .int j] => some (.int (if j > i then j else i))
  | _ => none
def dMin2 : List D → Option D
  | [.int i, .int j] => some (.int (if j < i then j else i))
  | _ => none
theorem rpa_two {I : Hp} {xs : List V} {i j : Int} (h : RpA K I xs [.int i, .int j]) : xs = [.int i, .int j] := by
  cases h with
  | cons a b => cases a; cases b with
    | cons a b => cases a; cases b; rfl
theorem cd_max2 : CallD K (fun xs H Q => ∃ i j, xs = [.int i, .int j] ∧ Q (.int (if j > i then j else i)) H) dMax2 := by
  intro I H xs ds z s p hz Q k
  unfold dMax2 at hz
  split at hz
  · cases hz; exact ⟨_, _, rpa_two p, k _ I H (Pst.refl s) (.int _)⟩
  · cases hz
theorem cd_min2 : CallD K (fun xs H Q => ∃ i j, xs = [.int i, .int j] ∧ Q (.int (if j < i then j else i)) H) dMin2 := by
  intro I H xs ds z s p hz Q k
  unfold dMin2 at hz
  split at hz
  · cases hz; exact ⟨_, _, rpa_two p, k _ I H (Pst.refl s) (.int _)⟩
  · cases hz
/-- list(x) -/
def dListOf : List D → Option (List D)
  | [.list ds] => some ds
  | [.tuple ds] => some ds
  | _ => none
theorem cf_list : CallF K (fun xs H Q => ∃ p ys, xs = [.ref p] ∧ (SqL K H p ys ∨ SqT K H p ys) ∧ ∀ l, H l = none → Q (.ref l) (upd H l (.lst ys))) dListOf := by
  intro I H xs ds zs s p hz Q k
  cases p with
  | nil => cases hz
  | cons a b =>
    cases b with
    | cons _ _ => cases a <;> cases hz
    | nil =>
      cases a with
      | lst hp ra hl => cases hz; exact ⟨_, _, rfl, .inl (SqL.of (s _ _ hp)), fun l h0 => k l _ _ h0 (same_new h0) upd_same ra hl⟩
      | tup hp ra hl => cases hz; exact ⟨_, _, rfl, .inr (same_t s hp), fun l h0 => k l _ _ h0 (same_new h0) upd_same ra hl⟩
      | _ => cases hz
def dTupleOf : List D → Option D
  | [.list ds] => some (.tuple ds)
  | [.tuple ds] => some (.tuple ds)
  | _ => none
theorem cd_tuple : CallD K (fun xs H Q => ∃ p ys, xs = [.ref p] ∧ ((SqL K H p ys ∧ ∀ l, H l = none → Q (.ref l) (upd H l (.tup ys))) ∨ (SqT K H p ys ∧ Q (.ref p) H))) dTupleOf := by
  intro I H xs ds zs s p hz Q k
  cases p with
  | nil => cases hz
  | cons a b =>
    cases b with
    | cons _ _ => cases a <;> cases hz
    | nil =>
      cases a with
      | lst hp ra hl =>
        cases hz
        exact ⟨_, _, rfl, .inl ⟨SqL.of (s _ _ hp), fun l h0 => by
          exact k _ _ _ (Pst.new s h0) (.tup (SqT.of upd_same) (ra.mono (Pst.new s h0).eI) hl)⟩⟩
      | tup hp ra hl => cases hz; exact ⟨_, _, rfl, .inr ⟨same_t s hp, k _ I H (Pst.refl s) (.tup hp ra hl)⟩⟩
      | _ => cases hz
def intsD : List D → Option (List Int)
  | [] => some []
  | .int i :: ds => (intsD ds).map (i :: ·)
  | _ => none
theorem intsD_some : ∀ {ds : List D} {ns : List Int}, intsD ds = some ns → ds = ns.map .int
  | [], _, h => by cases h; rfl
  | d :: ds, ns, h => by
    cases d with
    | int i =>
      obtain ⟨r, h1, rfl⟩ := Option.map_eq_some_iff.mp h
      rw [intsD_some h1]; rfl
    | _ => cases h
theorem intsD_map : ∀ ns : List Int, intsD (ns.map .int) = some ns
  | [] => rfl
  | n :: ns => by show (intsD (ns.map .int)).map (n :: ·) = _; rw [intsD_map ns]; rfl
def boolsD : List D → Option (List Bool)
  | [] => some []
  | .bool i :: ds => (boolsD ds).map (i :: ·)
  | _ => none
theorem boolsD_some : ∀ {ds : List D} {ns : List Bool}, boolsD ds = some ns → ds = ns.map .bool
  | [], _, h => by cases h; rfl
  | d :: ds, ns, h => by
    cases d with
    | bool i =>
      obtain ⟨r, h1, rfl⟩ := Option.map_eq_some_iff.mp h
      rw [boolsD_some h1]; rfl
    | _ => cases h
theorem boolsD_map : ∀ ns : List Bool, boolsD (ns.map .bool) = some ns
  | [] => rfl
  | n :: ns => by show (boolsD (ns.map .bool)).map (n :: ·) = _; rw [boolsD_map ns]; rfl
theorem RpA.bools {H : Hp} : ∀ {vs : List V} {ns : List Bool}, RpA K H vs (ns.map .bool) → vs = ns.map V.bl
  | _, [], h => by cases h; rfl
  | _, n :: ns, h => by
    cases h with
    | cons a b => cases a; rw [List.map_cons, ← RpA.bools b]
def dSum : List D → Option D
  | [.list ds] => (intsD ds).map fun ns => .int ns.sum
  | _ => none
theorem one_lst {I : Hp} {xs : List V} {ds : List D} (h : RpA K I xs [.list ds]) : ∃ p vs, xs = [.ref p] ∧ I p = some (.lst vs) ∧ RpA K I vs ds ∧ ds.length ≤ sizeLine := by
  cases h with
  | cons a b => cases b; cases a with
    | lst hp ra hl => exact ⟨_, _, rfl, hp, ra, hl⟩
theorem cd_sum : CallD K (rSum K) dSum := by
  intro I H xs ds z s p hz Q k
  unfold dSum at hz
  split at hz
  · obtain ⟨ns, e, rfl⟩ := Option.map_eq_some_iff.mp hz
    obtain ⟨a, vs, rfl, hp, ra, hl⟩ := one_lst p
    rw [intsD_some e] at ra
    rw [RpA.ints ra] at hp
    exact ⟨a, ns, rfl, SqL.of (s _ _ hp), k _ I H (Pst.refl s) (.int _)⟩
  · cases hz
def dAll : List D → Option D
  | [.list ds] => (boolsD ds).map fun ns => .bool (ns.all id)
  | _ => none
theorem cd_all : CallD K (rAll K) dAll := by
  intro I H xs ds z s p hz Q k
  unfold dAll at hz
  split at hz
  · obtain ⟨ns, e, rfl⟩ := Option.map_eq_some_iff.mp hz
    obtain ⟨a, vs, rfl, hp, ra, hl⟩ := one_lst p
    rw [boolsD_some e] at ra
    rw [RpA.bools ra] at hp
    exact ⟨a, ns, rfl, SqL.of (s _ _ hp), k _ I H (Pst.refl s) (.bl _)⟩
  · cases hz
def dAny : List D → Option D
  | [.list ds] => (boolsD ds).map fun ns => .bool (ns.any id)
  | _ => none
theorem cd_any : CallD K (rAny K) dAny := by
  intro I H xs ds z s p hz Q k
  unfold dAny at hz
  split at hz
  · obtain ⟨ns, e, rfl⟩ := Option.map_eq_some_iff.mp hz
    obtain ⟨a, vs, rfl, hp, ra, hl⟩ := one_lst p
    rw [boolsD_some e] at ra
    rw [RpA.bools ra] at hp
    exact ⟨a, ns, rfl, SqL.of (s _ _ hp), k _ I H (Pst.refl s) (.bl _)⟩
  · cases hz
end
end Pd

/-! Pd: order of data, isinstance, texts. -/
namespace PdLt
open PySem PySem.SeqAt
open SeqRoads2 MeetsSeq3 MeetsSeq2 MeetsSeq
open AutoSeq1 (wpAny_loadPart')
set_option autoImplicit false
/-- two tuples whose first items are unlike: these decide -/
theorem meets_first (p q : Addr) (us ws : Array Value) (c1 c2 : Nat) (e1 e2 : Option Addr) (z1 z2 : Array (Option Value)) (k : Bool) (hu : 0 < us.size) (hw : 0 < ws.size) : Meets (Builtin.«tuple.__lt__» ⟨[.ref p, .ref q], []⟩)
    (fun A R s => s.heap.get? p = some { cls := .type "tuple", dict := e1, data := .seq us c1, slots := z1 } ∧ s.heap.get? q = some { cls := .type "tuple", dict := e2, data := .seq ws c2, slots := z2 } ∧
      EqAt A.in1 s us[0] ws[0] false ∧ RcLt A.in1 s us[0] ws[0] k ∧ R (.ok (.ret (.bool k))) s) :=
  .of_wp fun prog w A R s h => by
    obtain ⟨hp, g, d, tk, os⟩ := s
    obtain ⟨ho, hq, hne, hlt, h⟩ := h
    have sub := AutoSeq1.sub_tuple_tuple
    have first : ∃ r, us.toList.zip ws.toList = (us[0], ws[0]) :: r := by
      obtain ⟨ul⟩ := us
      obtain ⟨wl⟩ := ws
      cases ul with
      | nil => simp at hu
      | cons x xs =>
        cases wl with
        | nil => simp at hw
        | cons y ys => exact ⟨xs.zip ys, by simp⟩
    obtain ⟨rs, first⟩ := first
    wp_walk using wpAny_loadPart' ho, wpAny_loadPart' hq, wpAny_forIn_list _ (fun rest b s' => b.1 = none ∧ s' = ⟨hp, g, d, tk, os⟩ ∧ rest = us.toList.zip ws.toList) _
    case turn =>
      rintro ⟨y, x⟩ rest b s' ⟨hb, rfl, hz⟩
      rw [first] at hz
      injection hz with hyx hrest
      injection hyx with hy hx
      subst hy hx
      refine wpAny_bind (hne prog w _ _ ?_)
      rw [if_pos (by rfl)]
      refine wpAny_bind (wpAny_rule (wpAny_bind (hlt prog w _ _ ?_)))
      wp_walk
      exact ⟨_, rfl, h⟩
    case fin =>
      rintro ⟨b1, b2⟩ s' ⟨hb, rfl, hz⟩
      rw [first] at hz
      cases hz
    case h =>
      exact ⟨rfl, rfl, rfl⟩
theorem rcLt_first {A : Around} {s : Shared} {p q : Addr} {us ws : Array Value} {k : Bool} (ho : s.heap.IsTuple p us) (hq : s.heap.IsTuple q ws) (hA : A.units < cLine) (hu : 0 < us.size) (hw : 0 < ws.size)
    (hne : EqAt A.in1 s us[0] ws[0] false) (hlt : RcLt A.in1 s us[0] ws[0] k) : RcLt A s (.ref p) (.ref q) k := fun prog w E Q h => by
  obtain ⟨⟨k1, dd, t1, sl⟩, ho, hc, n, hd⟩ := id ho
  obtain ⟨⟨k2, dd2, t2, sl2⟩, ho2, hc2, n2, hd2⟩ := id hq
  dsimp only at hc hd hc2 hd2
  subst hc; subst hd; subst hc2; subst hd2
  refine richCompare_meets_room (op := .Lt) ⟨_, ho, rfl⟩ ⟨_, ho2, rfl⟩ F.slot_tuple_lt F.entry_tuple_lt (F.args_tuple_lt_2 _ _) (meets_first p q us ws n n2 dd dd2 sl sl2 k hu hw) ⟨ho, ho2, hne, hlt, ?_⟩ hA
  exact ⟨(fun z => by cases z), h⟩
end PdLt

namespace Pd
open PySem PySem.Spec L2
section
variable {G : Type} {X : Cx} {S : Gs G} {K : PySem.W.Frag}
/-! ### < of data that is alike place by place; of tuples whose first items are unlike ints -/
def dLt (x y : D) : Option D := if x.depth ≤ 64 ∧ y.depth ≤ 64 ∧ PySem.W.alike x y = true ∧ isNone x = false then some (.bool (PySem.W.dataLt x y)) else match x, y with
  | .tuple (.int i :: _), .tuple (.int j :: _) => if i = j then none else some (.bool (decide (i < j)))
  | _, _ => none
def rLtD (K : PySem.W.Frag) : R2 := fun x y H Q => ∃ d e, Dp K H x d ∧ Dp K H y e ∧ ((d.depth ≤ 64 ∧ e.depth ≤ 64 ∧ PySem.W.alike d e = true ∧ isNone d = false ∧ Q (.bl (PySem.W.dataLt d e)) H) ∨
  ∃ i j r t, d = .tuple (.int i :: r) ∧ e = .tuple (.int j :: t) ∧ i ≠ j ∧ Q (.bl (decide (i < j))) H)
theorem reads_tup {h : Heap} {u : Value} {ds : List D} {as : List Addr} (r : Reads h u (.tuple ds) as) : ∃ (l : Addr) (vs : Array Value) (bs : List Addr), u = .ref l ∧ h.IsTuple l vs ∧ ReadsAll h vs.toList ds bs := by
  cases r with
  | tuple h1 h2 h3 h4 => exact ⟨_, _, _, rfl, ⟨_, h1, h2, _, h3⟩, h4⟩
theorem op_ltD (hu : X.A.units + 65 < cLine) : OpR X (compareOp .Lt) (rLtD X.K) := by
  intro pins s σ H x y v u Q I rx ry h
  obtain ⟨d, e, hd, he, h⟩ := h
  obtain ⟨as, r1⟩ := Dp.reads I d x v hd rx
  obtain ⟨bs, r2⟩ := Dp.reads I e y u he ry
  rcases h with ⟨d1, d2, al, nn, q⟩ | ⟨i, j, r, t, rfl, rfl, ne, q⟩
  · have nn' : d ≠ .none := fun z => by rw [z] at nn; cases nn
    have hm : min d.depth e.depth ≤ d.depth := Nat.min_le_left _ _
    exact PySem.W.rcLt_alike d e X.A s v u as bs r1 r2 al nn' (by omega) X.prog X.w _ _ ⟨.bl _, H, I, rfl, q⟩
  · obtain ⟨p, us, cs, rfl, t1, ra⟩ := reads_tup r1
    obtain ⟨q', ws, es, rfl, t2, rb⟩ := reads_tup r2
    obtain ⟨ul⟩ := us
    obtain ⟨wl⟩ := ws
    cases ra with
    | cons r1 ra =>
      cases rb with
      | cons r2 rb =>
        cases r1
        cases r2
        refine PdLt.rcLt_first (k := decide (i < j)) t1 t2 (by omega) (by simp) (by simp) ?_ ?_ X.prog X.w _ _ ⟨.bl _, H, I, rfl, q⟩
        · intro prog w E Q hq
          have e : (i == j) = false := beq_eq_false_iff_ne.mpr ne
          exact wpAny_eqBool_int (by rw [e]; exact hq)
        · intro prog w E Q hq
          exact P.lt_int hq
theorem od_lt : OpD K (rLtD K) dLt := by
  intro I H x y d e z s p q hz Q k
  unfold dLt at hz
  split at hz
  · rename_i hc
    cases hz
    exact ⟨d, e, (p.mono s).dp, (q.mono s).dp, .inl ⟨hc.1, hc.2.1, hc.2.2.1, hc.2.2.2, k _ I H (Pst.refl s) (.bl _)⟩⟩
  · split at hz
    · split at hz
      · cases hz
      · rename_i ne
        cases hz
        exact ⟨_, _, (p.mono s).dp, (q.mono s).dp, .inr ⟨_, _, _, _, rfl, rfl, ne, k _ I H (Pst.refl s) (.bl _)⟩⟩
    · cases hz
end
end Pd

/-! Pd: isinstance, texts. -/
namespace Pd
open PySem PySem.Spec L2
section
variable {G : Type} {X : Cx} {S : Gs G} {K : PySem.W.Frag} {a b c e : Expr} {es : List Expr} {pos : Pos} {ma mb me : ME G}
/-! ### isinstance -/
def tyN : D → String
  | .none => "NoneType"
  | .bool _ => "bool"
  | .int _ => "int"
  | .str _ => "str"
  | .list _ => "list"
  | .tuple _ => "tuple"
  | .dict _ => "dict"
theorem tyX_rp {I H : Hp} {v : V} {d : D} (s : Same I H) (h : Rp K I v d) : TyX K H v (.type (tyN d)) := by
  cases h with
  | non => exact .base .non
  | bl b => exact .base (.bl b)
  | int i => exact .base (.int i)
  | str h => exact .base (.str _)
  | lst hp _ _ => exact .base (.lst (s _ _ hp))
  | tup hp _ _ =>
    rcases hp with (hp | ⟨o, hp⟩) | ⟨o, its, n, hk, hc, _⟩
    · exact .base (.tup (s _ _ hp))
    · exact .fTuple (s _ _ hp)
    · exact .kTuple hk hc
/-- isinstance(e, T), T a built-in class: what it is, by the name of its class -/
def isTy (T : String) (d : D) : Option Bool := kitB (tyN d) T
def mIsi (T : String) (ma : ME G) : ME G := fun env g => bD (ma env g) fun d g1 => (isTy T d).map fun b => (.bool b, g1)
theorem de_isi {T : String} {x : Str} {p q : Pos} (hg : Gl X "isinstance") (hm : X.mg "isinstance" = none) (hgT : Gl X x) (hmT : X.mg x = none) (hvT : bootBuiltins x = some (.type T)) (ha : DE X S e ma)
    (hn : x ≠ "__name__" := by decide) (hd : (x == ("__debug__" : Str)) = false := by decide)
    (he : starEach [e, .Name x q] X.env = (false, eval e X.env) :: starEach [.Name x q] X.env := by rfl) (hs : starEach [.Name x q] X.env = (false, eval (.Name x q) X.env) :: starEach [] X.env := by rfl) (hpl : (backTo pos (starEach [.Name x q] X.env)).any (·.1) = false := by rfl) :
    DE X S (.Call (.Name "isinstance" p) [e, .Name x q] [] pos) (mIsi T ma) :=
  PE.imp (pe_callB call_isi hg hm (by decide +kernel) (pa_cons ha (pa_cons (pe_bltn (v := .ty T) hgT hmT hvT rfl hn hd) pa_nil hs) he) (by decide) (by decide) he hpl) fun σ H Q ⟨w, env, g, d, g', R, e, k⟩ => by
    obtain ⟨y, g1, e1, e⟩ := bD_some e
    obtain ⟨b, e2, e⟩ := Option.map_eq_some_iff.mp e
    cases e
    refine ⟨w, env, g, y, g', R, e1, fun v I' H' s' R' p => ?_⟩
    exact ⟨v, .ty T, .type (tyN y), .type T, b, rfl, .ty T, tyX_rp R'.eI p, kit_ty e2, k _ I' H' s' R' (.bl _)⟩
/-- isinstance(e, (S, T)) -/
def isTy2 (T U : String) (d : D) : Option Bool := match isTy T d with
  | some true => some true
  | some false => isTy U d
  | none => none
def mIsi2 (T U : String) (ma : ME G) : ME G := fun env g => bD (ma env g) fun d g1 => (isTy2 T U d).map fun b => (.bool b, g1)
theorem de_isi2 {T U : String} {x y : Str} {p q r tp : Pos} {kk : Nat} (hg : Gl X "isinstance") (hm : X.mg "isinstance" = none) (hgT : Gl X x) (hmT : X.mg x = none) (hvT : bootBuiltins x = some (.type T)) (hgU : Gl X y) (hmU : X.mg y = none) (hvU : bootBuiltins y = some (.type U)) (ha : DE X S e ma)
    (hn : x ≠ "__name__" := by decide) (hd : (x == ("__debug__" : Str)) = false := by decide) (hn2 : y ≠ "__name__" := by decide) (hd2 : (y == ("__debug__" : Str)) = false := by decide)
    (he : starEach [e, .Tuple [.Name x q, .Name y r] kk tp] X.env = (false, eval e X.env) :: starEach [.Tuple [.Name x q, .Name y r] kk tp] X.env := by rfl) (hs : starEach [.Tuple [.Name x q, .Name y r] kk tp] X.env = (false, eval (.Tuple [.Name x q, .Name y r] kk tp) X.env) :: starEach [] X.env := by rfl)
    (hs1 : starEach [.Name x q, .Name y r] X.env = (false, eval (.Name x q) X.env) :: starEach [.Name y r] X.env := by rfl) (hs2 : starEach [.Name y r] X.env = (false, eval (.Name y r) X.env) :: starEach [] X.env := by rfl)
    (hpl : (backTo pos (starEach [.Tuple [.Name x q, .Name y r] kk tp] X.env)).any (·.1) = false := by rfl) :
    DE X S (.Call (.Name "isinstance" p) [e, .Tuple [.Name x q, .Name y r] kk tp] [] pos) (mIsi2 T U ma) :=
  PE.imp (pe_callB call_isiT hg hm (by decide +kernel) (pa_cons ha (pa_cons (pe_tup (pa_cons (pe_bltn (v := .ty T) hgT hmT hvT rfl hn hd) (pa_cons (pe_bltn (v := .ty U) hgU hmU hvU rfl hn2 hd2) pa_nil hs2) hs1)) pa_nil hs) he) (by decide) (by decide) he hpl) fun σ H Q ⟨w, env, g, d, g', R, e, k⟩ => by
    obtain ⟨y, g1, e1, e⟩ := bD_some e
    obtain ⟨b, e2, e⟩ := Option.map_eq_some_iff.mp e
    cases e
    refine ⟨w, env, g, y, g', R, e1, fun v I' H' s' R' p => ⟨by show 2 ≤ sizeLine; decide, fun t ht => ?_⟩⟩
    refine ⟨v, t, [.ty T, .ty U], .type (tyN y), [.type T, .type U], b, rfl, upd_same, .cons (.ty T) (.cons (.ty U) .nil), tyX_rp (R'.eI.trans (same_new ht)) p, ?_, ?_⟩
    · unfold isTy2 at e2
      cases e3 : isTy T y with
      | none => rw [e3] at e2; cases e2
      | some c =>
        rw [e3] at e2
        cases c with
        | true => cases e2; exact kitAny_cons (kit_ty e3) (fun z => by cases z) fun _ => rfl
        | false =>
          refine kitAny_cons (kit_ty e3) (fun _ => ?_) (fun z => by cases z)
          have e2 : isTy U y = some b := e2
          unfold PySem.W.kitAny
          rw [show PySem.W.kitOne X.K (.type (tyN y)) (.type U) = some b from kit_ty e2]
          cases b <;> rfl
    · have ps := Pst.new (p := t) (o := HO.tup [V.ty T, V.ty U]) R'.eI ht
      exact k _ _ _ (Same.trans s' ps.eI) (R'.pst ps) (.bl _)

/-! ### methods of texts -/
def mM1 (f : D → D → Option D) (ma mb : ME G) : ME G := fun env g => bD (ma env g) fun x g1 => match x with
  | .str z => bD (mb env g1) fun y g2 => (f (.str z) y).map (·, g2)
  | _ => none
theorem te_m1 {r : V → List V → Hp → VK → Prop} {f : D → D → Option D} (hf : OpD X.K (fun x y H Q => r x [y] H Q) f) {σ : St} {H : Hp} {Q : VK} (h : tE X.K S (mM1 f ma mb) σ H Q) : tM1 r (tE X.K S ma) (tE X.K S mb) σ H Q := by
  obtain ⟨w, env, g, d, g', R, e, k⟩ := h
  obtain ⟨x, g1, e1, e⟩ := bD_some e
  split at e
  · obtain ⟨y, g2, e2, e⟩ := bD_some e
    obtain ⟨e3, rfl⟩ := map_some e
    refine ⟨w, env, g, _, g1, R, e1, fun v I1 H1 s1 R1 p1 => ?_⟩
    cases p1 with
    | str hx =>
      refine ⟨⟨_, rfl⟩, w.im I1, env, g1, y, g', R1, e2, fun u I2 H2 s2 R2 p2 => ?_⟩
      exact hf R2.eI (.str hx) p2 e3 fun v3 I3 H3 ps p3 => k v3 I3 H3 (s1.trans (Same.trans s2 ps.eI)) (R2.pst ps) p3
  · cases e
theorem mt_indexF : MtR X "str.index" (fun x xs H Q => ∃ (a b : Str) (i : Nat) (rest : List Nat), x = .str a ∧ xs = [.str b] ∧ Builtin.Str.occurrences a b 0 a.length 1 = i :: rest ∧ Q (.int (i : Nat)) H) := by
  intro pins s σ H x xs v us Q I rx rs h
  obtain ⟨a, b, i, rest, rfl, rfl, ho, q⟩ := h
  obtain ⟨t, rfl⟩ := rx
  cases rs with
  | cons r1 rs =>
    cases rs
    obtain ⟨u, rfl⟩ := r1
    exact PySem.SC.index ho ⟨.int (i : Nat), H, I.tok _, ⟨_, rfl⟩, q⟩
def dIndex : D → D → Option D
  | .str x, .str y => match Builtin.Str.occurrences x y 0 x.length 1 with
    | i :: _ => some (.int (i : Nat))
    | [] => none
  | _, _ => none
theorem od_index : OpD K (fun x y H Q => ∃ (a b : Str) (i : Nat) (rest : List Nat), x = .str a ∧ [y] = [.str b] ∧ Builtin.Str.occurrences a b 0 a.length 1 = i :: rest ∧ Q (.int (i : Nat)) H) dIndex := by
  intro I H x y d e z s p q hz Q k
  cases p with
  | str hx =>
    cases q with
    | str hy =>
      have hz : (match Builtin.Str.occurrences _ _ 0 _ 1 with
        | i :: _ => some (PyData.int (i : Nat))
        | [] => none) = some z := hz
      split at hz
      · rename_i i rest ho
        cases hz
        exact ⟨_, _, i, rest, rfl, rfl, ho, k _ I H (Pst.refl s) (.int _)⟩
      · cases hz
    | _ => cases hz
  | _ => cases hz
def strsD : List D → Option (List Str)
  | [] => some []
  | .str i :: ds => (strsD ds).map (i :: ·)
  | _ => none
theorem strsD_map : ∀ ns : List Str, strsD (ns.map .str) = some ns
  | [] => rfl
  | n :: ns => by show (strsD (ns.map .str)).map (n :: ·) = _; rw [strsD_map ns]; rfl
theorem strsD_some : ∀ {ds : List D} {ns : List Str}, strsD ds = some ns → ds = ns.map .str
  | [], _, h => by cases h; rfl
  | d :: ds, ns, h => by
    cases d with
    | str i =>
      obtain ⟨r, h1, rfl⟩ := Option.map_eq_some_iff.mp h
      rw [strsD_some h1]; rfl
    | _ => cases h
theorem RpA.strs {H : Hp} : ∀ {vs : List V} {ns : List Str}, RpA K H vs (ns.map .str) → vs = ns.map V.str ∧ ∀ n ∈ ns, SOk n
  | _, [], h => by cases h; exact ⟨rfl, fun _ h => nomatch h⟩
  | _, n :: ns, h => by
    cases h with
    | cons a b =>
      cases a with
      | str ha =>
        obtain ⟨h1, h2⟩ := RpA.strs b
        rw [List.map_cons, ← h1]
        refine ⟨rfl, fun m hm => ?_⟩
        rcases List.mem_cons.mp hm with e | e
        · rw [e]; exact ha
        · exact h2 m e
def dJoin : D → D → Option D
  | .str x, .list ds => (strsD ds).bind fun ys => if (ys.map (·.length)).sum + ys.length * x.length ≤ 16777216 ∧ x.length = 0 then some (.str ⟨((ys.map fun y => y.cps.toList).flatten).toArray⟩) else none
  | _, _ => none
theorem join_nil : ∀ {x : Str} {ys : List Str}, x.length = 0 → Txt.join x ys = ⟨((ys.map fun y => y.cps.toList).flatten).toArray⟩ := by
  intro x ys hx
  have hx' : TL.tl x = [] := by
    show x.cps.toList = []
    have : x.cps.size = 0 := hx
    apply List.eq_nil_of_length_eq_zero
    rw [Array.length_toList]; exact this
  have key : ∀ zs : List (List Nat), TL.joinL [] zs = zs.flatten := by
    intro zs
    induction zs with
    | nil => rfl
    | cons z zs ih =>
      cases zs with
      | nil => show z = z ++ []; rw [List.append_nil]
      | cons u us => show z ++ ([] ++ TL.joinL [] (u :: us)) = z ++ (u :: us).flatten; rw [ih]; rfl
  have h2 := TL.tl_join x ys
  rw [hx', key] at h2
  have h3 : (Txt.join x ys).cps.toList = (ys.map fun y => y.cps.toList).flatten := by
    rw [show Txt.join x ys = Str.join x ys from PySem.StrLaws.glued_eq_join x ys]
    exact h2
  cases e : Txt.join x ys with
  | mk cs =>
    rw [e] at h3
    congr
    apply Array.ext'
    rw [h3]
theorem sok_join {ys : List Str} (h : ∀ y ∈ ys, SOk y) (hz : (ys.map (·.length)).sum ≤ 16777216) : SOk ⟨((ys.map fun y => y.cps.toList).flatten).toArray⟩ := by
  refine ⟨?_, ?_⟩
  · show ((ys.map fun y => y.cps.toList).flatten).toArray.size ≤ sizeLine
    rw [List.size_toArray, List.length_flatten, List.map_map, line_val]
    have e : (ys.map (List.length ∘ fun y => y.cps.toList)) = ys.map (·.length) := by
      apply List.map_congr_left
      intro y _
      show y.cps.toList.length = y.cps.size
      rw [Array.length_toList]
    rw [e]; exact hz
  · simp only [PyData.canLay0]
    unfold PyData.strOk
    rw [Array.all_eq_true_iff_forall_mem]
    intro c hc
    have hc : c ∈ (ys.map fun y => y.cps.toList).flatten := by simpa using hc
    obtain ⟨l, hl, hcl⟩ := List.mem_flatten.mp hc
    obtain ⟨y, hy, rfl⟩ := List.mem_map.mp hl
    have h2 := (h y hy).2
    simp only [PyData.canLay0] at h2
    unfold PyData.strOk at h2
    rw [Array.all_eq_true_iff_forall_mem] at h2
    exact h2 c (by simpa using hcl)
theorem od_join : OpD K (fun x y H Q => ∃ a p, ∃ ys : List Str, x = .str a ∧ [y] = [.ref p] ∧ (SqL K H p (ys.map V.str) ∨ SqT K H p (ys.map V.str)) ∧ (ys.map (·.length)).sum + ys.length * a.length ≤ 16777216 ∧ Q (.str (Txt.join a ys)) H) dJoin := by
  intro I H x y d e z s p q hz Q k
  cases p with
  | str hx =>
    cases q with
    | lst hp ra hl =>
      have hz : (strsD _).bind _ = some z := hz
      obtain ⟨ys, e1, hz⟩ := Option.bind_eq_some_iff.mp hz
      split at hz
      · rename_i hc
        cases hz
        rw [strsD_some e1] at ra
        obtain ⟨f1, f2⟩ := RpA.strs ra
        rw [f1] at hp
        refine ⟨_, _, ys, rfl, rfl, .inl (SqL.of (s _ _ hp)), hc.1, ?_⟩
        rw [join_nil hc.2]
        exact k _ I H (Pst.refl s) (.str (sok_join f2 (by have := hc.1; omega)))
      · cases hz
    | _ => cases hz
  | _ => cases hz
theorem de_join {ap : Pos} (ho : DE X S a ma) (he : DE X S e me) (hs : starEach [e] X.env = [(false, eval e X.env)] := by rfl) (hbase : attributeBase a "join" X.env (eval a X.env) = eval a X.env := by rfl) (hline : (ap.endLine == pos.line) = true := by rfl) :
    DE X S (.Call (.Attribute a "join" ap) [e] [] pos) (mM1 dJoin ma me) := PE.imp (pe_join ho he hs hbase hline) fun _ _ _ h => te_m1 od_join h
theorem de_index {ap : Pos} (ho : DE X S a ma) (he : DE X S e me) (hs : starEach [e] X.env = [(false, eval e X.env)] := by rfl) (hbase : attributeBase a "index" X.env (eval a X.env) = eval a X.env := by rfl) (hline : (ap.endLine == pos.line) = true := by rfl) :
    DE X S (.Call (.Attribute a "index" ap) [e] [] pos) (mM1 dIndex ma me) := PE.imp (pe_m1 PySem.F.slot_str_index PySem.F.type_str_index mt_indexF ho he hs hbase hline) fun _ _ _ h => te_m1 od_index h
end
end Pd

/-! Pd: defs by name, constants; the law's list of draws. -/
namespace Pd
open PySem PySem.Spec L2
section
variable {G : Type} {X : Cx} {S : Gs G} {P : Program} {wd : World} {K : PySem.W.Frag} {mg : Str → Option Value} {base : Heap} {a b c e : Expr} {es : List Expr} {pos : Pos} {ma mb me : ME G} {ml : ML G}
/-- a def of the text, by its name -/
structure Dfn (K : PySem.W.Frag) (mg : Str → Option Value) (x qual : Str) (st : Stmt) (ps : List Str) : Prop where
  ex : ∃ f fd, Fun K x qual st f fd ∧ mg x = some (.ref f) ∧ Binds K fd ps []
/-- .. with its promise -/
structure Def1 (P : Program) (wd : World) (K : PySem.W.Frag) (mg : Str → Option Value) (base : Heap) (x : Str) (ps : List Str) (k : Nat) (sp : Sp) : Prop where
  ex : ∃ f fd, FnOk P wd K mg base CX0 k f fd ps sp ∧ mg x = some (.ref f) ∧ PySem.W.keepIn K (.ref f) = true ∧ Binds K fd ps []
theorem def_pure {x qual : Str} {st : Stmt} {N ps : List Str} {k : Nat} {m : MS Unit} (h : Dfn K mg x qual st ps) (Sc : FnScope N ps (defScope st)) (hb : ∀ f, Body P wd K mg base N qual st f k G0 m) : Def1 P wd K mg base x ps (k + 1) (spP K (runP N.length ps.length m)) := by
  obtain ⟨f, fd, F, hm, hB⟩ := h.ex
  exact ⟨f, fd, fn_pure F Sc (hb f), hm, F.kp, hB⟩
theorem def_new {x qual : Str} {st : Stmt} {N ps : List Str} {k : Nat} {m : MS Unit} (h : Dfn K mg x qual st ps) (Sc : FnScope N ps (defScope st)) (hb : ∀ f, Body P wd K mg base N qual st f k G0 m) : Def1 P wd K mg base x ps (k + 1) (spN K (runN N.length ps.length m)) := by
  obtain ⟨f, fd, F, hm, hB⟩ := h.ex
  exact ⟨f, fd, fn_new F Sc (hb f), hm, F.kp, hB⟩
theorem def_ghost {x qual : Str} {st : Stmt} {N ps : List Str} {k : Nat} {m : MS G} (h : Dfn K mg x qual st ps) (Sc : FnScope N ps (defScope st)) (hb : ∀ f, Body P wd K mg base N qual st f k S m) : Def1 P wd K mg base x ps (k + 1) (spG K S (runG N.length ps.length m)) := by
  obtain ⟨f, fd, F, hm, hB⟩ := h.ex
  exact ⟨f, fd, fn_ghost F Sc (hb f), hm, F.kp, hB⟩
theorem Def1.imp {x : Str} {ps : List Str} {k : Nat} {sp sp' : Sp} (h : Def1 P wd K mg base x ps k sp) (i : ∀ vs H Q E, sp' vs H Q E → sp vs H Q E) : Def1 P wd K mg base x ps k sp' := by
  obtain ⟨f, fd, F, r⟩ := h.ex
  exact ⟨f, fd, F.imp i, r⟩
theorem Def1.mono {x : Str} {ps : List Str} {j k : Nat} {sp : Sp} (h : Def1 P wd K mg base x ps j sp) (hk : j ≤ k) : Def1 P wd K mg base x ps k sp := by
  obtain ⟨f, fd, F, r⟩ := h.ex
  exact ⟨f, fd, F.mono hk, r⟩
/-- calls -/
theorem call_P {x : Str} {ps : List Str} {k : Nat} {F : List D → Option D} {p : Pos} (h : Def1 X.prog X.w X.K X.mg X.base x ps k (spP X.K F)) (hr : Room k X.A) (hg : Gl X x) (ha : DA X S (e :: es) ml) (hdb : (x == ("__debug__" : Str)) = false := by decide)
    (he : starEach (e :: es) X.env = (false, eval e X.env) :: starEach es X.env := by rfl) (hpl : (backTo pos (starEach es X.env)).any (·.1) = false := by rfl) : DE X S (.Call (.Name x p) (e :: es) [] pos) (mCall F ml) := by
  obtain ⟨f, fd, FF, hm, hk, hB⟩ := h.ex
  exact de_callP (pe_call FF hr hg hm hk hB .nil pass0 ha hdb he hpl)
theorem call_N {x : Str} {ps : List Str} {k : Nat} {F : List D → Option (List D)} {p : Pos} (h : Def1 X.prog X.w X.K X.mg X.base x ps k (spN X.K F)) (hr : Room k X.A) (hg : Gl X x) (ha : DA X S (e :: es) ml) (hdb : (x == ("__debug__" : Str)) = false := by decide)
    (he : starEach (e :: es) X.env = (false, eval e X.env) :: starEach es X.env := by rfl) (hpl : (backTo pos (starEach es X.env)).any (·.1) = false := by rfl) : DF X S (.Call (.Name x p) (e :: es) [] pos) (mCallF F ml) := by
  obtain ⟨f, fd, FF, hm, hk, hB⟩ := h.ex
  exact df_callN (pe_call FF hr hg hm hk hB .nil pass0 ha hdb he hpl)
theorem call_G {x : Str} {ps : List Str} {k : Nat} {F : List SV → G → Option (D × G)} {p : Pos} {mg' : MG G} (h : Def1 X.prog X.w X.K X.mg X.base x ps k (spG X.K S F)) (hr : Room k X.A) (hg : Gl X x) (ha : DG X S (e :: es) mg') (hdb : (x == ("__debug__" : Str)) = false := by decide)
    (he : starEach (e :: es) X.env = (false, eval e X.env) :: starEach es X.env := by rfl) (hpl : (backTo pos (starEach es X.env)).any (·.1) = false := by rfl) : DE X S (.Call (.Name x p) (e :: es) [] pos) (mCallG F mg') := by
  obtain ⟨f, fd, FF, hm, hk, hB⟩ := h.ex
  exact de_callG (pe_call FF hr hg hm hk hB .nil pass0 ha hdb he hpl)
theorem call_P0 {x : Str} {ps : List Str} {k : Nat} {F : List D → Option D} {p : Pos} (h : Def1 X.prog X.w X.K X.mg X.base x ps k (spP X.K F)) (hr : Room k X.A) (hg : Gl X x) (hdb : (x == ("__debug__" : Str)) = false := by decide) : DE X S (.Call (.Name x p) [] [] pos) (mCall F mNil) := by
  obtain ⟨f, fd, FF, hm, hk, hB⟩ := h.ex
  exact de_callP0 (pe_call0 FF hr hg hm hk hB .nil pass0 hdb)
theorem call_N0 {x : Str} {ps : List Str} {k : Nat} {F : List D → Option (List D)} {p : Pos} (h : Def1 X.prog X.w X.K X.mg X.base x ps k (spN X.K F)) (hr : Room k X.A) (hg : Gl X x) (hdb : (x == ("__debug__" : Str)) = false := by decide) : DF X S (.Call (.Name x p) [] [] pos) (mCallF F mNil) := by
  obtain ⟨f, fd, FF, hm, hk, hB⟩ := h.ex
  exact df_callN0 (pe_call0 FF hr hg hm hk hB .nil pass0 hdb)
/-- a module's constant -/
structure Cst (K : PySem.W.Frag) (mg : Str → Option Value) (x : Str) (d : D) : Prop where
  ex : ∃ u v, mg x = some u ∧ RelV v u ∧ ∀ H, Rp K H v d
theorem de_cst {x : Str} {d : D} (h : Cst X.K X.mg x d) (hg : Gl X x := by rfl) (hdb : (x == ("__debug__" : Str)) = false := by decide) : DE X S (.Name x pos) (mC d) := by
  obtain ⟨u, v, hm, r, q⟩ := h.ex
  exact de_glob hg hm r q hdb
theorem Cst.int {x : Str} {i : Int} {t : Tok} (h : mg x = some (.int i t)) : Cst K mg x (.int i) := ⟨_, .int i, h, ⟨t, rfl⟩, fun _ => .int i⟩
theorem Cst.str {x y : Str} {t : Tok} (h : mg x = some (.str y t)) (hy : SOk y) : Cst K mg x (.str y) := ⟨_, .str y, h, ⟨t, rfl⟩, fun _ => .str hy⟩

theorem hu64 {A : Around} {k : Nat} (hr : Room k A) : A.units + 64 < cLine := by have := hr.un; omega
theorem hu65 {A : Around} {k : Nat} (hr : Room k A) : A.units + 65 < cLine := by have := hr.un; omega

/-! ### the law's draws: a list of a count and a list of cells -/
structure Dr where
  s : Addr
  c : Addr
  n : Int
  cells : List Int
def drA : Gs Dr where
  fp := fun g a => a = g.s ∨ a = g.c
  ok := fun g H => g.s ≠ g.c ∧ H g.s = some (.lst [.int g.n, .ref g.c]) ∧ H g.c = some (.lst (g.cells.map V.int)) ∧ 0 < g.cells.length ∧ g.cells.length ≤ 63
  root := fun g => .ref g.s
  loc := fun {g H H'} h ⟨h1, h2, h3, h4⟩ => ⟨h1, (h _ (.inl rfl)).trans h2, (h _ (.inr rfl)).trans h3, h4⟩
  dom := fun {g H a} ⟨h1, h2, h3, h4⟩ ha => by
    rcases ha with rfl | rfl
    · rw [h2]; simp
    · rw [h3]; simp
/-- a draw below most: what it tells, what is left -/
def Dr.take (g : Dr) (most : Int) : Int × Dr :=
  let cell := g.cells.getD (g.n.fmod g.cells.length).toNat 0
  if cell < 1000000000000000000 then
    let n := g.n + 1
    let x := (cell * 48271 + n * 69621).fmod 2147483647
    let y := (x * 16807 + n * 7919).fmod 1000000007
    ((y.fdiv 7).fmod most, { g with n := n })
  else (cell.fmod most, { g with cells := g.cells.set (g.n.fmod g.cells.length).toNat (cell.fdiv most) })
theorem Dr.take_lo (g : Dr) {most : Int} (h : 0 < most) : 0 ≤ (g.take most).1 ∧ (g.take most).1 < most := by
  unfold Dr.take
  simp only
  split
  · exact ⟨Int.fmod_nonneg_of_pos _ h, Int.fmod_lt_of_pos _ h⟩
  · exact ⟨Int.fmod_nonneg_of_pos _ h, Int.fmod_lt_of_pos _ h⟩
/-- a draw, of data -/
def drawA (as : List SV) (g : Dr) : Option (D × Dr) := match as with
  | [.st, .sh (.int most)] => if 0 < most ∧ most < 1073741824 then some (.int (g.take most).1, (g.take most).2) else none
  | _ => none
end
end Pd

/-! Pd: the law's draws, its end. -/
namespace Pd
open PySem PySem.Spec L2
section
variable {G : Type} {X : Cx} {S : Gs G} {P : Program} {wd : World} {K : PySem.W.Frag} {mg : Str → Option Value} {base : Heap}
/-- what makes the list of draws tells -/
def spState (K : PySem.W.Frag) : Sp := fun vs H Q _ => ∃ (a : Addr) (ns : List Int), vs = [.ref a] ∧ SqL K H a (ns.map V.int) ∧ ns.length ≤ 63 ∧
  ∀ (g : Dr) (H' : Hp), H g.s = none → H g.c = none → drA.ok g H' → Same H H' → Q (.ref g.s) H'
theorem drawA_some {as : List SV} {g g' : Dr} {d : D} (h : drawA as g = some (d, g')) : ∃ most, as = [.st, .sh (.int most)] ∧ 0 < most ∧ most < 1073741824 ∧ d = .int (g.take most).1 ∧ g' = (g.take most).2 := by
  unfold drawA at h
  split at h
  · split at h
    · rename_i hm
      cases h
      exact ⟨_, rfl, hm.1, hm.2, rfl, rfl⟩
    · cases h
  · cases h
/-- the state behind a draw, for the caller -/
theorem dr_gst {I H H' : Hp} {g g' : Dr} (s : Same I H) (ok : drA.ok g H) (hs : g'.s = g.s) (hc : g'.c = g.c) (ok' : drA.ok g' H') (fI : ∀ a, drA.fp g a → I a = none) (h : ∀ a, a ≠ g.s → a ≠ g.c → H' a = H a) : Gst drA I H g I H' g' where
  eI := Same.refl _
  eH := fun a o e nf => by
    rw [h a (fun z => nf (.inl z)) (fun z => nf (.inr z))]; exact e
  sub := fun a o e => by
    have nf : ¬ drA.fp g a := fun z => by rw [fI a z] at e; cases e
    rw [h a (fun z => nf (.inl z)) (fun z => nf (.inr z))]; exact s a o e
  ag := fun _ _ => rfl
  fp' := fun a => by show (a = g'.s ∨ a = g'.c) ↔ (a = g.s ∨ a = g.c); rw [hs, hc]
  rt := by show V.ref g'.s = V.ref g.s; rw [hs]
  ok := ok'
theorem fmod_ix {n : Int} {l : Nat} (h : 0 < l) : ∃ j : Nat, n.fmod (l : Int) = (j : Int) ∧ j < l := by
  have h1 := Int.fmod_nonneg_of_pos n (show (0 : Int) < (l : Int) by omega)
  have h2 := Int.fmod_lt_of_pos n (show (0 : Int) < (l : Int) by omega)
  exact ⟨(n.fmod l).toNat, by omega, by omega⟩
theorem iteT' {b : Bool} {A B : Prop} (h : b = true) (k : A) : if b = true then A else B := by rw [if_pos h]; exact k
theorem iteF' {b : Bool} {A B : Prop} (h : b = false) (k : B) : if b = true then A else B := by rw [h]; exact k
theorem cut_ints (ns : List Int) (lo hi : Option Int) : ∃ ms : List Int, cutV (ns.map V.int) lo hi = ms.map V.int ∧ ms.length ≤ ns.length := by
  refine ⟨(ns.drop (HT.sIx (ns.map V.int).length 0 lo)).take (HT.sIx (ns.map V.int).length (ns.map V.int).length hi - HT.sIx (ns.map V.int).length 0 lo), ?_, ?_⟩
  · unfold cutV
    rw [List.map_take, List.map_drop]
  · rw [List.length_take, List.length_drop]; omega
/-- the law's promise -/
def spLaw (K : PySem.W.Frag) : Sp := fun vs H Q _ => ∃ (a : Addr) (ns : List Int), vs = [.ref a] ∧ SqL K H a (ns.map V.int) ∧ ns.length ≤ 63 ∧ ∀ H', Q (.bl true) H'
/-- the frame behind the list's making: i is its slot, N slots -/
def lawE (N i : Nat) : Env := (List.replicate N SV.un).set i .st
theorem law_start {N i : Nat} {m : MS Dr} {σ : St} {H : Hp} {g : Dr} {D : Ends} (hl : σ.length = N) (hi : σ[i]? = some (some (.ref g.s))) (ok : drA.ok g H) (hm : ∃ e g', m (lawE N i) g = some (.re (.bool true), e, g')) (k : ∀ H', D.rt (.bl true) H') :
    tS K drA m D σ H := by
  obtain ⟨e, g', hm⟩ := hm
  refine ⟨⟨fun _ => none, fun _ => none, fun _ => none, drA.fp g, .ref g.s⟩, lawE N i, g, .re (.bool true), e, g', ?_, hm, fun v σ' I' H' s' R' p => by cases p; exact k H'⟩
  have at_ : ∀ k, (lawE N i).at k = .un ∨ (k = i ∧ (lawE N i).at k = .st) := fun k => by
    unfold lawE
    rw [at_set]
    by_cases z : k = i ∧ i < (List.replicate N SV.un).length
    · rw [if_pos z]; exact .inr ⟨z.1, rfl⟩
    · rw [if_neg z]
      refine .inl ?_
      show (List.replicate N SV.un).getD k .un = .un
      rw [List.getD_eq_getElem?_getD, List.getElem?_replicate]
      split <;> rfl
  exact {
    e0 := fun _ _ z => nomatch z
    eI := fun _ _ z => nomatch z
    ag := fun _ _ z => nomatch z
    ge := Same.refl _
    gfp := fun _ => Iff.rfl
    grt := rfl
    gok := ok
    fI := fun _ _ => rfl
    f0 := fun _ _ => rfl
    len := by unfold lawE; rw [List.length_set, List.length_replicate]; exact hl
    slot := fun k => by
      rcases at_ k with e | ⟨rfl, e⟩
      · rw [e]; trivial
      · rw [e]; exact hi
    dis := fun k j p ds es _ e1 => by
      rcases at_ k with e | ⟨_, e⟩ <;> rw [e] at e1 <;> cases e1 }
end
end Pd

/-! Pd: plain tools, no program in sight. -/
namespace Pd
open PySem
section
variable {G : Type} {env env1 e1 e2 : Env} {g g1 g2 g3 : G} {m1 m2 : MS G} {ma mb : ME G} {mt mu : MT G} {ml : ML G}
/-- it ends with True -/
def Tr (m : MS G) (env : Env) (g : G) : Prop := ∃ e g1, m env g = some (.re (.bool true), e, g1)
theorem tr_seq (h1 : m1 env g = some (.nx, e1, g1)) (h2 : Tr m2 e1 g1) : Tr (mSeq m1 m2) env g := by
  obtain ⟨e, g3, h⟩ := h2
  exact ⟨e, g3, by unfold mSeq; rw [h1]; exact h⟩
theorem tr_ret (h : ma env g = some (.bool true, g1)) : Tr (mRet ma) env g := ⟨env, g1, by unfold mRet; rw [h]⟩
theorem seq_nx {r} (h1 : m1 env g = some (.nx, e1, g1)) (h2 : m2 e1 g1 = r) : mSeq m1 m2 env g = r := by unfold mSeq; rw [h1]; exact h2
theorem seq_re {d : D} (h1 : m1 env g = some (.re d, e1, g1)) : mSeq m1 m2 env g = some (.re d, e1, g1) := by unfold mSeq; rw [h1]
theorem seq_rl {ds : List D} (h1 : m1 env g = some (.rl ds, e1, g1)) : mSeq m1 m2 env g = some (.rl ds, e1, g1) := by unfold mSeq; rw [h1]
theorem seq_co (h1 : m1 env g = some (.co, e1, g1)) : mSeq m1 m2 env g = some (.co, e1, g1) := by unfold mSeq; rw [h1]
theorem seq_br (h1 : m1 env g = some (.br, e1, g1)) : mSeq m1 m2 env g = some (.br, e1, g1) := by unfold mSeq; rw [h1]
theorem if_t {r} (h : mt env g = some (true, g1)) (k : m1 env g1 = r) : mIfS mt m1 m2 env g = r := by unfold mIfS; rw [h]; exact k
theorem if_f {r} (h : mt env g = some (false, g1)) (k : m2 env g1 = r) : mIfS mt m1 m2 env g = r := by unfold mIfS; rw [h]; exact k
/-- an if whose test fails, nothing else -/
theorem if_no (h : mt env g = some (false, g1)) : mIfS mt m1 mSkip env g = some (.nx, env, g1) := if_f h rfl
theorem set_e {i : Nat} {d : D} (h : ma env g = some (d, g1)) : mSet i ma env g = some (.nx, env.set i (.sh d), g1) := by unfold mSet; rw [h]
theorem setF_e {i : Nat} {ds : List D} (h : ml env g = some (ds, g1)) : mSetF i ml env g = some (.nx, env.set i (.ow ds), g1) := by unfold mSetF; rw [h]
theorem then_e {j : Nat} (h : m1 env g = some (.nx, e1, g1)) : mThen m1 j env g = some (.nx, e1.frz j, g1) := by unfold mThen; rw [h]
theorem ret_e {d : D} (h : ma env g = some (d, g1)) : mRet ma env g = some (.re d, env, g1) := by unfold mRet; rw [h]
theorem retF_e {ds : List D} (h : ml env g = some (ds, g1)) : mRetF ml env g = some (.rl ds, env, g1) := by unfold mRetF; rw [h]
theorem drop_e {d : D} (h : ma env g = some (d, g1)) : mDrop ma env g = some (.nx, env, g1) := by unfold mDrop; rw [h]
/-! expressions -/
theorem op_e {f : D → D → Option D} {x y z : D} (ha : ma env g = some (x, g1)) (hb : mb env g1 = some (y, g2)) (h : f x y = some z) : mOp f ma mb env g = some (z, g2) := by unfold mOp; rw [ha]; dsimp only [bD]; rw [hb]; dsimp only [bD]; rw [h]; rfl
theorem un_e {f : D → Option D} {x z : D} (ha : ma env g = some (x, g1)) (h : f x = some z) : mUn f ma env g = some (z, g1) := by unfold mUn; rw [ha]; dsimp only [bD]; rw [h]; rfl
theorem m1_e {f : D → D → Option D} {x y z : D} (ha : ma env g = some (x, g1)) (hb : mb env g1 = some (y, g2)) (h : f x y = some z) (hx : ∃ s, x = .str s := by exact ⟨_, rfl⟩) : mM1 f ma mb env g = some (z, g2) := by
  obtain ⟨s, rfl⟩ := hx
  unfold mM1; rw [ha]; dsimp only [bD]; rw [hb]; dsimp only [bD]; rw [h]; rfl
theorem call_e {f : List D → Option D} {xs : List D} {z : D} (ha : ml env g = some (xs, g1)) (h : f xs = some z) : mCall f ml env g = some (z, g1) := by unfold mCall; rw [ha]; dsimp only [bD]; rw [h]; rfl
theorem callF_e {f : List D → Option (List D)} {xs : List D} {z : List D} (ha : ml env g = some (xs, g1)) (h : f xs = some z) : mCallF f ml env g = some (z, g1) := by unfold mCallF; rw [ha]; dsimp only [bD]; rw [h]; rfl
theorem callG_e {F : List SV → G → Option (D × G)} {m : MG G} {as : List SV} {r} (ha : m env g = some (as, g1)) (h : F as g1 = r) : mCallG F m env g = r := by unfold mCallG; rw [ha]; exact h
theorem cons_e {x : D} {xs : List D} (ha : ma env g = some (x, g1)) (hb : ml env g1 = some (xs, g2)) : mCons ma ml env g = some (x :: xs, g2) := by unfold mCons; rw [ha]; dsimp only [bD]; rw [hb]
theorem nil_e : mNil env g = some ([], g) := rfl
theorem c_e {d : D} : mC d env g = some (d, g) := rfl
theorem L_e {xs : List D} (h : ml env g = some (xs, g1)) : mL ml env g = some (.list xs, g1) := by unfold mL; rw [h]
theorem tup_e {xs : List D} (h : ml env g = some (xs, g1)) (hl : xs.length ≤ sizeLine := by exact Nat.le_of_ble_eq_true rfl) : mTup ml env g = some (.tuple xs, g1) := by unfold mTup; rw [h]; exact if_pos hl
theorem lst_e {xs : List D} (h : ml env g = some (xs, g1)) (hl : xs.length ≤ sizeLine := by exact Nat.le_of_ble_eq_true rfl) : mLst ml env g = some (xs, g1) := by unfold mLst; rw [h]; exact if_pos hl
theorem opT_e {f : D → D → Option D} {x y : D} {b : Bool} (ha : ma env g = some (x, g1)) (hb : mb env g1 = some (y, g2)) (h : f x y = some (.bool b)) : mOpT f ma mb env g = some (b, g2) := by unfold mOpT; rw [ha]; dsimp only [bD]; rw [hb]; dsimp only [bD]; rw [h]; rfl
theorem tru_e {x : D} {b : Bool} (ha : ma env g = some (x, g1)) (h : dTru x = some b) : mTru ma env g = some (b, g1) := by unfold mTru; rw [ha]; dsimp only [bD]; rw [h]; rfl
theorem not_e {b : Bool} (h : mt env g = some (b, g1)) : mNot mt env g = some (!b, g1) := by unfold mNot; rw [h]
theorem and_t {r} (h : mt env g = some (true, g1)) (k : mu env g1 = r) : mAnd mt mu env g = r := by unfold mAnd; rw [h]; exact k
theorem and_f (h : mt env g = some (false, g1)) : mAnd mt mu env g = some (false, g1) := by unfold mAnd; rw [h]; rfl
theorem or_t (h : mt env g = some (true, g1)) : mOr mt mu env g = some (true, g1) := by unfold mOr; rw [h]; rfl
theorem or_f {r} (h : mt env g = some (false, g1)) (k : mu env g1 = r) : mOr mt mu env g = r := by unfold mOr; rw [h]; exact k
theorem mif_t {α : Type} {a b : Env → G → Option (α × G)} {r} (h : mt env g = some (true, g1)) (k : a env g1 = r) : mIf mt a b env g = r := by unfold mIf; rw [h]; exact k
theorem mif_f {α : Type} {a b : Env → G → Option (α × G)} {r} (h : mt env g = some (false, g1)) (k : b env g1 = r) : mIf mt a b env g = r := by unfold mIf; rw [h]; exact k
theorem isi_e {T : String} {x : D} {b : Bool} (ha : ma env g = some (x, g1)) (h : isTy T x = some b) : mIsi T ma env g = some (.bool b, g1) := by unfold mIsi; rw [ha]; dsimp only [bD]; rw [h]; rfl
theorem cat_e {xs ys : List D} (ha : ma env g = some (.list xs, g1)) (hb : mb env g1 = some (.list ys, g2)) (hl : xs.length + ys.length ≤ sizeLine) : mCat ma mb env g = some (xs ++ ys, g2) := by unfold mCat; rw [ha]; dsimp only [bD]; rw [hb]; exact if_pos hl
theorem part_e {i : Int} (h : ma env g = some (.int i, g1)) : mPart ma env g = some (some i, g1) := by unfold mPart; rw [h]
theorem slL_e {lo hi : MO G} {xs : List D} {l h : Option Int} (ha : ma env g = some (.list xs, g1)) (hl : lo env g1 = some (l, g2)) (hh : hi env g2 = some (h, g3)) : mSlL ma lo hi env g = some (cut xs l h, g3) := by unfold mSlL; rw [ha]; dsimp only [bD]; rw [hl]; dsimp only [bD]; rw [hh]
/-! loops -/
theorem for_e {bt : MTg} {mb : MS G} {ds : List D} {r} (h : ml env g = some (ds, g1)) (k : loopL bt mb ds env g1 = r) : mFor ml bt mb env g = r := by unfold mFor; rw [h]; exact k
theorem loop_inv {bt : MTg} {mb : MS G} (Inv : Env → G → Prop) : ∀ {ds : List D} {env : Env} {g : G}, Inv env g → (∀ d ∈ ds, ∀ env g, Inv env g → ∃ e1, bt d env = some e1 ∧ ∃ e2 g2, (mb e1 g = some (.nx, e2, g2) ∨ mb e1 g = some (.co, e2, g2)) ∧ Inv e2 g2) →
    ∃ e2 g2, loopL bt mb ds env g = some (.nx, e2, g2) ∧ Inv e2 g2
  | [], env, g, h, _ => ⟨env, g, rfl, h⟩
  | d :: ds, env, g, h, k => by
    obtain ⟨e1, q1, e2, g2, q2, q3⟩ := k d (by simp) env g h
    obtain ⟨e3, g3, q4, q5⟩ := loop_inv Inv q3 fun d' hd => k d' (List.mem_cons_of_mem _ hd)
    refine ⟨e3, g3, ?_, q5⟩
    unfold loopL
    rw [q1]
    rcases q2 with q2 | q2 <;> (dsimp only; rw [q2]; exact q4)
/-- .. by the turn -/
theorem loop_at {bt : MTg} {mb : MS G} (Inv : Nat → Env → G → Prop) : ∀ {ds : List D} {k : Nat} {env : Env} {g : G}, Inv k env g → (∀ i d, ds[i]? = some d → ∀ env g, Inv (k + i) env g → ∃ e1, bt d env = some e1 ∧ ∃ e2 g2, (mb e1 g = some (.nx, e2, g2) ∨ mb e1 g = some (.co, e2, g2)) ∧ Inv (k + i + 1) e2 g2) →
    ∃ e2 g2, loopL bt mb ds env g = some (.nx, e2, g2) ∧ Inv (k + ds.length) e2 g2
  | [], k, env, g, h, _ => ⟨env, g, rfl, h⟩
  | d :: ds, k, env, g, h, hk => by
    obtain ⟨e1, q1, e2, g2, q2, q3⟩ := hk 0 d rfl env g h
    obtain ⟨e3, g3, q4, q5⟩ := loop_at (k := k + 1) Inv q3 fun i d' hd env g hi => by
      have e : k + 1 + i = k + (i + 1) := by omega
      rw [e] at hi ⊢
      exact hk (i + 1) d' hd env g hi
    refine ⟨e3, g3, ?_, by rw [List.length_cons, show k + (ds.length + 1) = k + 1 + ds.length by omega]; exact q5⟩
    unfold loopL
    rw [q1]
    rcases q2 with q2 | q2 <;> (dsimp only; rw [q2]; exact q4)
/-- .. whose body tells nothing and returns nothing: from state to state -/
theorem comp_e {vs : List Nat} {bt : MTg} {me : ME G} {ds : List D} {r} (h : ml env g = some (ds, g1)) (hv : (vs.all fun k => (env.at k).notOw) = true) (k : compL bt mt me (env.wipe vs) ds g1 = r) : mComp ml vs bt mt me env g = r := by unfold mComp; rw [h]; exact (if_pos hv).trans k
theorem compL_map {bt : MTg} {me : ME G} (f : D → D) : ∀ {ds : List D}, (∀ d ∈ ds, ∃ e1, bt d env = some e1 ∧ me e1 g = some (f d, g)) → compL bt mYes me env ds g = some (ds.map f, g)
  | [], _ => rfl
  | d :: ds, h => by
    obtain ⟨e1, q1, q2⟩ := h d (by simp)
    unfold compL
    rw [q1]
    dsimp only [mYes]
    rw [q2]
    dsimp only
    rw [compL_map f fun d' hd => h d' (List.mem_cons_of_mem _ hd)]
    rfl
theorem compL_mm {α : Type} {bt : MTg} {me : ME G} (f h : α → D) {l : List α} (k : ∀ a ∈ l, ∃ e1, bt (f a) env = some e1 ∧ me e1 g = some (h a, g)) : compL bt mYes me env (l.map f) g = some (l.map h, g) := by
  induction l with
  | nil => rfl
  | cons a l ih =>
    obtain ⟨e1, q1, q2⟩ := k a (by simp)
    rw [List.map_cons, List.map_cons]
    unfold compL
    rw [q1]
    dsimp only [mYes]
    rw [q2]
    dsimp only
    rw [ih fun d' hd => k d' (List.mem_cons_of_mem _ hd)]
theorem compL_ex {bt : MTg} {me : ME G} (P : D → Prop) : ∀ {ds : List D} {g : G}, (∀ d ∈ ds, ∀ g, ∃ e1, bt d env = some e1 ∧ ∃ x g2, me e1 g = some (x, g2) ∧ P x) → ∃ xs g2, compL bt mYes me env ds g = some (xs, g2) ∧ xs.length = ds.length ∧ ∀ x ∈ xs, P x
  | [], g, _ => ⟨[], g, rfl, rfl, fun _ h => nomatch h⟩
  | d :: ds, g, h => by
    obtain ⟨e1, q1, x, g2, q2, q3⟩ := h d (by simp) g
    obtain ⟨xs, g4, q4, q5, q6⟩ := compL_ex P (g := g2) fun d' hd => h d' (List.mem_cons_of_mem _ hd)
    refine ⟨x :: xs, g4, ?_, by rw [List.length_cons, List.length_cons, q5], fun y hy => ?_⟩
    · unfold compL
      rw [q1]
      dsimp only [mYes]
      rw [q2]
      dsimp only
      rw [q4]
    · rcases List.mem_cons.mp hy with e | e
      · rw [e]; exact q3
      · exact q6 y e
theorem while_e {mb : MS G} (n : Nat) {r} (h : whileN mt mb n env g = some r) : mWhile mt mb env g = some r := mWhile_eq h
theorem wn_f {mb : MS G} {n : Nat} (h : mt env g = some (false, g1)) : whileN mt mb (n + 1) env g = some (.nx, env, g1) := by unfold whileN; rw [h]
theorem wn_t {mb : MS G} {n : Nat} {r} (h : mt env g = some (true, g1)) (hb : mb env g1 = some (.nx, e1, g2)) (k : whileN mt mb n e1 g2 = r) : whileN mt mb (n + 1) env g = r := by unfold whileN; rw [h]; dsimp only; rw [hb]; exact k
/-! defs -/
theorem runP_re {N n : Nat} {m : MS Unit} {ds : List D} {e : Env} {u : Unit} {d : D} (h : m (startE N (ds.map .sh)) () = some (.re d, e, u)) (hn : ds.length = n ∧ n ≤ N := by exact ⟨rfl, by decide⟩) : runP N n m ds = some d := by
  unfold runP runS
  rw [if_pos (by rw [List.length_map]; exact hn), h]
  rfl
theorem runP_rl {N n : Nat} {m : MS Unit} {ds xs : List D} {e : Env} {u : Unit} (h : m (startE N (ds.map .sh)) () = some (.rl xs, e, u)) (hn : ds.length = n ∧ n ≤ N := by exact ⟨rfl, by decide⟩) : runP N n m ds = some (.list xs) := by
  unfold runP runS
  rw [if_pos (by rw [List.length_map]; exact hn), h]
  rfl
theorem runN_rl {N n : Nat} {m : MS Unit} {ds xs : List D} {e : Env} {u : Unit} (h : m (startE N (ds.map .sh)) () = some (.rl xs, e, u)) (hn : ds.length = n ∧ n ≤ N := by exact ⟨rfl, by decide⟩) : runN N n m ds = some xs := by
  unfold runN runS
  rw [if_pos (by rw [List.length_map]; exact hn), h]
  rfl
theorem runG_re {N n : Nat} {m : MS G} {as : List SV} {e : Env} {d : D} (h : m (startE N as) g = some (.re d, e, g1)) (hn : as.length = n ∧ n ≤ N := by exact ⟨rfl, by decide⟩) : runG N n m as g = some (d, g1) := by
  unfold runG runS
  rw [if_pos hn, h]
  rfl
theorem runG_rl {N n : Nat} {m : MS G} {as : List SV} {e : Env} {xs : List D} (h : m (startE N as) g = some (.rl xs, e, g1)) (hn : as.length = n ∧ n ≤ N := by exact ⟨rfl, by decide⟩) : runG N n m as g = some (.list xs, g1) := by
  unfold runG runS
  rw [if_pos hn, h]
  rfl
/-! draws -/
theorem draw_ev {m : Int} (g : Dr) (h : 0 < m ∧ m < 1073741824) : ∃ j g1, drawA [.st, .sh (.int m)] g = some (.int j, g1) ∧ 0 ≤ j ∧ j < m := ⟨_, _, if_pos h, Dr.take_lo g h.1⟩
/-! data -/
theorem cut_to (xs : List D) (n : Nat) : cut xs none (some (n : Int)) = xs.take n := by
  unfold cut
  rw [HT.sIx_none, HT.sIx_nat, List.drop_zero, Nat.sub_zero]
  by_cases h : n ≤ xs.length
  · rw [Nat.min_eq_left h]
  · rw [Nat.min_eq_right (by omega), List.take_of_length_le (Nat.le_refl _), List.take_of_length_le (by omega)]
theorem cut_from (xs : List D) (n : Nat) : cut xs (some (n : Int)) none = xs.drop n := by
  unfold cut
  rw [HT.sIx_none, HT.sIx_nat]
  by_cases h : n ≤ xs.length
  · rw [Nat.min_eq_left h, List.take_of_length_le (by rw [List.length_drop]; exact Nat.le_refl _)]
  · rw [Nat.min_eq_right (by omega), List.drop_of_length_le (Nat.le_refl _), List.drop_of_length_le (by omega), List.take_nil]
theorem cut_mid (xs : List D) (a b : Nat) (h : b ≤ xs.length) : cut xs (some (a : Int)) (some (b : Int)) = (xs.drop a).take (b - a) := by
  unfold cut
  rw [HT.sIx_nat, HT.sIx_nat, Nat.min_eq_left h]
  by_cases q : a ≤ xs.length
  · rw [Nat.min_eq_left q]
  · rw [Nat.min_eq_right (by omega), List.drop_of_length_le (Nat.le_refl _), List.drop_of_length_le (by omega), List.take_nil, List.take_nil]
theorem cut_last (xs : List D) : cut xs none (some (-1)) = xs.dropLast := by
  unfold cut
  rw [HT.sIx_none, List.drop_zero, Nat.sub_zero, List.dropLast_eq_take]
  congr 1
  show (if (-1 : Int) < 0 then ((-1 : Int) + (xs.length : Int)).toNat else min (-1 : Int).toNat xs.length) = _
  rw [if_pos (by decide)]
  omega
abbrev iL (xs : List Int) : D := .list (xs.map .int)
theorem eqvAll_iL : ∀ xs ys : List Int, PyData.eqvAll (xs.map .int) (ys.map .int) = decide (xs = ys)
  | [], [] => by rw [List.map_nil, PyData.eqvAll]; rfl
  | [], y :: ys => by rw [List.map_nil, List.map_cons, PyData.eqvAll]; rfl
  | x :: xs, [] => by rw [List.map_nil, List.map_cons, PyData.eqvAll]; rfl
  | x :: xs, y :: ys => by
    rw [List.map_cons, List.map_cons, PyData.eqvAll, eqvAll_iL xs ys, PyData.eqv]
    by_cases h : x = y
    · subst h
      simp
    · simp [h]
theorem eqv_iL (xs ys : List Int) : PyData.eqv (iL xs) (iL ys) = decide (xs = ys) := by rw [PyData.eqv]; exact eqvAll_iL xs ys
theorem depth_iL (xs : List Int) : (iL xs).depth ≤ 64 := by
  have h : ∀ xs : List Int, PyData.depthAll (xs.map .int) = 0 := fun xs => by
    induction xs with
    | nil => rfl
    | cons x xs ih => rw [List.map_cons, PyData.depthAll, ih, PyData.depth]; rfl
  show (PyData.list _).depth ≤ 64
  rw [PyData.depth, h]
  decide
theorem eq_iL (xs ys : List Int) : dEq (iL xs) (iL ys) = some (.bool (decide (xs = ys))) := by unfold dEq; rw [if_pos ⟨depth_iL xs, depth_iL ys⟩, eqv_iL]
theorem ne_iL (xs ys : List Int) : dNe (iL xs) (iL ys) = some (.bool (!decide (xs = ys))) := by unfold dNe; rw [if_pos ⟨depth_iL xs, depth_iL ys⟩, eqv_iL]
theorem alike_iL : ∀ xs ys : List Int, PySem.W.alikeAll (xs.map .int) (ys.map .int) = true
  | [], _ => by rw [List.map_nil]; cases h : (List.map PyData.int _) <;> simp [PySem.W.alikeAll]
  | x :: xs, [] => by rw [List.map_nil, List.map_cons]; simp [PySem.W.alikeAll]
  | x :: xs, y :: ys => by rw [List.map_cons, List.map_cons, PySem.W.alikeAll, alike_iL xs ys]; simp [PySem.W.alike]
theorem ltAll_iL : ∀ xs ys : List Int, PyProof.Rows.lexLt PyProof.Rows.itemOrd (PySem.W.keyToksAll (xs.map .int)) (PySem.W.keyToksAll (ys.map .int)) = decide (xs < ys)
  | [], [] => by decide
  | [], y :: ys => by
    rw [List.map_nil, List.map_cons]
    have : ([] : List Int) < y :: ys := List.nil_lt_cons y ys
    rw [decide_eq_true this]
    rw [PySem.W.keyToksAll, PySem.W.keyToksAll]
    rfl
  | x :: xs, [] => by
    rw [List.map_nil, List.map_cons]
    have : ¬ (x :: xs) < ([] : List Int) := List.not_lt_nil _
    rw [decide_eq_false this]
    rw [PySem.W.keyToksAll, PySem.W.keyToksAll]
    rfl
  | x :: xs, y :: ys => by
    rw [List.map_cons, List.map_cons]
    have al : PySem.W.alike (.int x) (.int y) = true := by simp [PySem.W.alike]
    by_cases h : x = y
    · subst h
      rw [PySem.W.dataLt_all_yes al (by rw [PyData.eqv]; simp), ltAll_iL xs ys]
      simp [List.cons_lt_cons_iff]
    · rw [PySem.W.dataLt_all_no al (by rw [PyData.eqv]; simp [h]), PySem.W.dataLt_int]
      simp [List.cons_lt_cons_iff, h]
theorem lt_iL (xs ys : List Int) : dLt (iL xs) (iL ys) = some (.bool (decide (xs < ys))) := by
  unfold dLt
  rw [if_pos ⟨depth_iL xs, depth_iL ys, by rw [PySem.W.alike]; exact alike_iL xs ys, rfl⟩, PySem.W.dataLt_list, ltAll_iL]
theorem ix_nat {ds : List D} {j : Nat} {x : D} (h : ds[j]? = some x) : dIx (.list ds) (.int j) = some x := L2.atI_nat h
theorem len_e {ds : List D} : dLen [.list ds] = some (.int ds.length) := rfl
end
end Pd
namespace Pd
open PySem
theorem index_e {x y : Str} {i : Nat} (h : (Builtin.Str.occurrences x y 0 x.length 1).head? = some i) : dIndex (.str x) (.str y) = some (.int i) := by
  unfold dIndex
  cases e : Builtin.Str.occurrences x y 0 x.length 1 with
  | nil => rw [e] at h; cases h
  | cons j t => rw [e] at h; cases h; simp only [e]
end Pd
namespace Pd
open PySem
theorem lt_t {i j : Int} (h : i < j) : dLtI (.int i) (.int j) = some (.bool true) := by show some (PyData.bool (decide _)) = _; rw [decide_eq_true h]
theorem lt_f {i j : Int} (h : ¬ i < j) : dLtI (.int i) (.int j) = some (.bool false) := by show some (PyData.bool (decide _)) = _; rw [decide_eq_false h]
theorem le_t {i j : Int} (h : i ≤ j) : dLeI (.int i) (.int j) = some (.bool true) := by show some (PyData.bool (decide _)) = _; rw [decide_eq_true h]
theorem le_f {i j : Int} (h : ¬ i ≤ j) : dLeI (.int i) (.int j) = some (.bool false) := by show some (PyData.bool (decide _)) = _; rw [decide_eq_false h]
theorem gt_t {i j : Int} (h : j < i) : dGtI (.int i) (.int j) = some (.bool true) := by show some (PyData.bool (decide _)) = _; rw [decide_eq_true h]
theorem gt_f {i j : Int} (h : ¬ j < i) : dGtI (.int i) (.int j) = some (.bool false) := by show some (PyData.bool (decide _)) = _; rw [decide_eq_false h]
theorem ge_t {i j : Int} (h : j ≤ i) : dGeI (.int i) (.int j) = some (.bool true) := by show some (PyData.bool (decide _)) = _; rw [decide_eq_true h]
theorem ge_f {i j : Int} (h : ¬ j ≤ i) : dGeI (.int i) (.int j) = some (.bool false) := by show some (PyData.bool (decide _)) = _; rw [decide_eq_false h]
theorem eq_int (i j : Int) : dEq (.int i) (.int j) = some (.bool (i == j)) := by
  unfold dEq
  rw [if_pos ⟨by rw [PyData.depth]; decide, by rw [PyData.depth]; decide⟩, PyData.eqv]
theorem eq_it {i j : Int} (h : i = j) : dEq (.int i) (.int j) = some (.bool true) := by rw [eq_int, h]; simp
theorem eq_if {i j : Int} (h : i ≠ j) : dEq (.int i) (.int j) = some (.bool false) := by rw [eq_int, beq_false_of_ne h]
theorem mul_r {i j : Int} (h : -(2 ^ 64) < j ∧ j < 2 ^ 64) : dMul (.int i) (.int j) = some (.int (i * j)) := if_pos (Or.inr h)
theorem mul_l {i j : Int} (h : -(2 ^ 64) < i ∧ i < 2 ^ 64) : dMul (.int i) (.int j) = some (.int (i * j)) := if_pos (Or.inl h)
theorem iL_get {xs : List Int} {j : Nat} {i : Int} (h : xs[j]? = some i) : dIx (iL xs) (.int (j : Int)) = some (.int i) := ix_nat (by rw [List.getElem?_map, h]; rfl)
theorem iL_len {xs : List Int} : dLen [iL xs] = some (.int (xs.length : Int)) := by show some (PyData.int ((xs.map _).length : Int)) = _; rw [List.length_map]
theorem get_lt {xs : List Int} {j : Nat} {i : Int} (h : xs[j]? = some i) : (j : Int) < (xs.length : Int) := by
  have := (List.getElem?_eq_some_iff.mp h).1
  omega
end Pd
namespace Pd
open PySem
theorem chain_f {G : Type} {env : Env} {g g1 g2 : G} {f f' : D → D → Option D} {ma mb mc : ME G} {x y : D} (ha : ma env g = some (x, g1)) (hb : mb env g1 = some (y, g2)) (h : f x y = some (.bool false)) : mChainT f f' ma mb mc env g = some (false, g2) := by
  unfold mChainT; rw [ha]; dsimp only [bD]; rw [hb]; dsimp only [bD]; rw [h]
theorem chain_t {G : Type} {env : Env} {g g1 g2 g3 : G} {f f' : D → D → Option D} {ma mb mc : ME G} {x y z : D} {b : Bool} (ha : ma env g = some (x, g1)) (hb : mb env g1 = some (y, g2)) (h : f x y = some (.bool true)) (hc : mc env g2 = some (z, g3)) (h' : f' y z = some (.bool b)) : mChainT f f' ma mb mc env g = some (b, g3) := by
  unfold mChainT; rw [ha]; dsimp only [bD]; rw [hb]; dsimp only [bD]; rw [h]; dsimp only; rw [hc]; dsimp only [bD]; rw [h']; rfl
end Pd
namespace Pd
open PySem
theorem itL_e {G : Type} {env : Env} {g g1 : G} {ma : ME G} {xs : List D} (h : ma env g = some (.list xs, g1)) : mItL ma env g = some (xs, g1) := by unfold mItL; rw [h]
theorem itT_e {G : Type} {env : Env} {g g1 : G} {ma : ME G} {xs : List D} (h : ma env g = some (.tuple xs, g1)) : mItT ma env g = some (xs, g1) := by unfold mItT; rw [h]
theorem rng1_e {G : Type} {env : Env} {g g1 : G} {ml : ML G} {j : Int} (h : ml env g = some ([.int j], g1)) (hj : -16777216 < j ∧ j < 16777216) : mRng1 ml env g = some (rng 0 j.toNat, g1) := by unfold mRng1; rw [h]; exact if_pos hj
theorem rng2_e {G : Type} {env : Env} {g g1 : G} {ml : ML G} {i j : Int} (h : ml env g = some ([.int i, .int j], g1)) (hi : (-16777216 < i ∧ i < 16777216) ∧ -16777216 < j ∧ j < 16777216 ∧ j - i < 16777216) : mRng2 ml env g = some (rng i (j - i).toNat, g1) := by unfold mRng2; rw [h]; exact if_pos hi
theorem rng_mem {n : Nat} {d : D} (h : d ∈ rng 0 n) : ∃ k : Nat, k < n ∧ d = .int (k : Int) := by
  unfold rng at h
  obtain ⟨k, hk, rfl⟩ := List.mem_map.mp h
  exact ⟨k, List.mem_range.mp hk, by rw [Int.zero_add]⟩
end Pd
namespace Pd
open PySem
theorem lt_first {i j : Int} {xs ys : List D} (h : i ≠ j) : dLt (.tuple (.int i :: xs)) (.tuple (.int j :: ys)) = some (.bool (decide (i < j))) := by
  unfold dLt
  split
  · rw [PySem.W.dataLt_tuple, PySem.W.dataLt_all_no (by rw [PySem.W.alike]) (by rw [PyData.eqv]; exact beq_false_of_ne h), PySem.W.dataLt_int]
  · show (if i = j then none else some (PyData.bool (decide (i < j)))) = _
    rw [if_neg h]
theorem ltAll_one {x y : D} (al : PySem.W.alike x y = true) : PyProof.Rows.lexLt PyProof.Rows.itemOrd (PySem.W.keyToksAll [x]) (PySem.W.keyToksAll [y]) = PySem.W.dataLt x y := by
  cases e : PyData.eqv x y with
  | false => exact PySem.W.dataLt_all_no al e
  | true =>
    rw [PySem.W.dataLt_all_yes al e]
    unfold PySem.W.dataLt
    rw [(PySem.W.toks_eqv x y al).1 e]
    have h : ∀ l : List (Int ⊕ List Nat), PyProof.Rows.lexLt PyProof.Rows.itemOrd l l = false := fun l => by
      have := PySem.W.lex_pre l [] []
      rw [List.append_nil] at this
      rw [this]; rfl
    rw [h, h]
theorem lt_second {i : Int} {x y : D} (al : PySem.W.alike x y = true) (hx : x.depth ≤ 60) (hy : y.depth ≤ 60) : dLt (.tuple [.int i, x]) (.tuple [.int i, y]) = some (.bool (PySem.W.dataLt x y)) := by
  unfold dLt
  have d1 : ∀ {z : D}, z.depth ≤ 60 → (PyData.tuple [.int i, z]).depth ≤ 64 := fun {z} hz => by
    rw [PyData.depth, PyData.depthAll, PyData.depthAll, PyData.depthAll, PyData.depth]; omega
  rw [if_pos ⟨d1 hx, d1 hy, by rw [PySem.W.alike, PySem.W.alikeAll, PySem.W.alikeAll, PySem.W.alikeAll, al, PySem.W.alike]; rfl, rfl⟩]
  · rw [PySem.W.dataLt_tuple, PySem.W.dataLt_all_yes (by rw [PySem.W.alike]) (by rw [PyData.eqv]; simp), ltAll_one al]
theorem eq_flat {x y : D} (hx : x.depth ≤ 64) (hy : y.depth ≤ 64) : dEq x y = some (.bool (PyData.eqv x y)) := if_pos ⟨hx, hy⟩
theorem ne_flat {x y : D} (hx : x.depth ≤ 64) (hy : y.depth ≤ 64) : dNe x y = some (.bool (!PyData.eqv x y)) := if_pos ⟨hx, hy⟩
end Pd
namespace Pd
open PySem
theorem compL_cons {G : Type} {env e1 : Env} {g g2 g3 : G} {bt : MTg} {me : ME G} {d x : D} {ds xs : List D} (h1 : bt d env = some e1) (h2 : me e1 g = some (x, g2)) (h3 : compL bt mYes me env ds g2 = some (xs, g3)) : compL bt mYes me env (d :: ds) g = some (x :: xs, g3) := by
  unfold compL
  rw [h1]
  dsimp only [mYes]
  rw [h2]
  dsimp only
  rw [h3]
theorem compL_nil {G : Type} {env : Env} {g : G} {bt : MTg} {me : ME G} {mt : MT G} : compL bt mt me env [] g = some ([], g) := rfl
end Pd
namespace Pd
open PySem
theorem div_e {i j : Int} (h : j ≠ 0 ∧ j.natAbs < 1073741824) : dDiv (.int i) (.int j) = some (.int (i.fdiv j)) := if_pos h
theorem mod_e {i j : Int} (h : j ≠ 0) : dMod (.int i) (.int j) = some (.int (i.fmod j)) := if_pos h
theorem var_e {G : Type} {env : Env} {g : G} {i : Nat} {d : D} (h : env.at i = .sh d) : mVar i env g = some (d, g) := by unfold mVar; rw [h]
end Pd
namespace Pd
open PySem
theorem map_of {α : Type} {f : α → D} {P : α → Prop} : ∀ {xs : List D}, (∀ x ∈ xs, ∃ a, x = f a ∧ P a) → ∃ l : List α, xs = l.map f ∧ ∀ a ∈ l, P a
  | [], _ => ⟨[], rfl, fun _ h => nomatch h⟩
  | x :: xs, h => by
    obtain ⟨a, e, p⟩ := h x (by simp)
    obtain ⟨l, e', p'⟩ := map_of (xs := xs) fun y hy => h y (List.mem_cons_of_mem _ hy)
    refine ⟨a :: l, by rw [e, e']; rfl, fun b hb => ?_⟩
    rcases List.mem_cons.mp hb with z | z
    · rw [z]; exact p
    · exact p' b z
theorem depth_iL1 (xs : List Int) : (iL xs).depth ≤ 1 := by
  have h : ∀ xs : List Int, PyData.depthAll (xs.map .int) = 0 := fun xs => by
    induction xs with
    | nil => rfl
    | cons x xs ih => rw [List.map_cons, PyData.depthAll, ih, PyData.depth]; rfl
  show (PyData.list _).depth ≤ 1
  rw [PyData.depth, h]
  decide
theorem depthAll_le {n : Nat} : ∀ {xs : List D}, (∀ x ∈ xs, x.depth ≤ n) → PyData.depthAll xs ≤ n
  | [], _ => Nat.zero_le _
  | x :: xs, h => by
    rw [PyData.depthAll]
    exact Nat.max_le.mpr ⟨h x (by simp), depthAll_le fun y hy => h y (List.mem_cons_of_mem _ hy)⟩
theorem depth_list {n : Nat} {xs : List D} (h : ∀ x ∈ xs, x.depth ≤ n) : (PyData.list xs).depth ≤ n + 1 := by
  rw [PyData.depth]
  have := depthAll_le h
  omega
theorem depth_tup {n : Nat} {xs : List D} (h : ∀ x ∈ xs, x.depth ≤ n) : (PyData.tuple xs).depth ≤ n + 1 := by
  rw [PyData.depth]
  have := depthAll_le h
  omega
mutual
/-- data without dicts -/
def noDict : D → Bool
  | .none => true
  | .bool _ => true
  | .int _ => true
  | .str _ => true
  | .list xs => noDictA xs
  | .tuple xs => noDictA xs
  | .dict _ => false
def noDictA : List D → Bool
  | [] => true
  | x :: xs => noDict x && noDictA xs
end
mutual
theorem alike_self : ∀ {x : D}, noDict x = true → PySem.W.alike x x = true
  | .none, _ => by rw [PySem.W.alike]
  | .bool _, _ => by rw [PySem.W.alike]
  | .int _, _ => by rw [PySem.W.alike]
  | .str _, _ => by rw [PySem.W.alike]
  | .list xs, h => by rw [noDict] at h; rw [PySem.W.alike]; exact alikeAll_self h
  | .tuple xs, h => by rw [noDict] at h; rw [PySem.W.alike]; exact alikeAll_self h
  | .dict _, h => by rw [noDict] at h; cases h
theorem alikeAll_self : ∀ {xs : List D}, noDictA xs = true → PySem.W.alikeAll xs xs = true
  | [], _ => by rw [PySem.W.alikeAll]
  | x :: xs, h => by
    rw [noDictA, Bool.and_eq_true] at h
    rw [PySem.W.alikeAll, alike_self h.1, alikeAll_self h.2]
    rfl
end
theorem eqv_self {x : D} (h : noDict x = true) : PyData.eqv x x = true := PySem.W.eqv_refl_alike x (alike_self h)
theorem noDictA_of : ∀ {xs : List D}, (∀ x ∈ xs, noDict x = true) → noDictA xs = true
  | [], _ => by rw [noDictA]
  | x :: xs, h => by rw [noDictA, h x (by simp), noDictA_of fun y hy => h y (List.mem_cons_of_mem _ hy)]; rfl
theorem noDict_iL (xs : List Int) : noDict (iL xs) = true := by
  rw [noDict]
  refine noDictA_of fun x hx => ?_
  obtain ⟨i, _, rfl⟩ := List.mem_map.mp hx
  rw [noDict]
theorem eq_self {x : D} (h : noDict x = true) (hd : x.depth ≤ 64) : dEq x x = some (.bool true) := by rw [eq_flat hd hd, eqv_self h]
theorem ne_self {x : D} (h : noDict x = true) (hd : x.depth ≤ 64) : dNe x x = some (.bool false) := by rw [ne_flat hd hd, eqv_self h]; rfl
theorem ne_bb (a b : Bool) : dNe (.bool a) (.bool b) = some (.bool (a != b)) := by
  rw [ne_flat (by rw [PyData.depth]; decide) (by rw [PyData.depth]; decide), PyData.eqv]; rfl
theorem ne_int (a b : Int) : dNe (.int a) (.int b) = some (.bool (!(a == b))) := by
  rw [ne_flat (by rw [PyData.depth]; decide) (by rw [PyData.depth]; decide), PyData.eqv]
end Pd
namespace Pd
open PySem
theorem band_t {G : Type} {env : Env} {g g1 : G} {ma mb : ME G} {r} (h : ma env g = some (.bool true, g1)) (k : mb env g1 = r) : mBAnd ma mb env g = r := by unfold mBAnd; rw [h]; exact k
end Pd

namespace K51
open PySem PySem.Spec L2 Pd
/-! ### the text by places -/
def top (i : Nat) : Stmt := PySem.Challenge.pw_plainserial_k51_whole_keys_in_order.main.body.getD i (.Pass ⟨0, 0, 0, 0⟩)
abbrev s_value_key : Stmt := top 2
abbrev s_four_bytes : Stmt := top 6
abbrev s_of_four : Stmt := top 7
abbrev s_key_bytes : Stmt := top 8
abbrev s_read_key : Stmt := top 9
abbrev s__law_state : Stmt := top 11
abbrev s__law_take : Stmt := top 12
abbrev s__law_value : Stmt := top 13
abbrev s__law_key : Stmt := top 14
abbrev s_law : Stmt := top 15
structure Txt (K : PySem.W.Frag) (mg : Str → Option Value) : Prop where
  d_value_key : Dfn K mg "value_key" "value_key" s_value_key ["value"]
  d_four_bytes : Dfn K mg "four_bytes" "four_bytes" s_four_bytes ["number"]
  d_of_four : Dfn K mg "of_four" "of_four" s_of_four ["content"]
  d_key_bytes : Dfn K mg "key_bytes" "key_bytes" s_key_bytes ["value"]
  d_read_key : Dfn K mg "read_key" "read_key" s_read_key ["content", "at"]
  d__law_state : Dfn K mg "_law_state" "_law_state" s__law_state ["script"]
  d__law_take : Dfn K mg "_law_take" "_law_take" s__law_take ["state", "most"]
  d__law_value : Dfn K mg "_law_value" "_law_value" s__law_value ["state", "kind"]
  d__law_key : Dfn K mg "_law_key" "_law_key" s__law_key ["value"]
  c_KEY_SIGNS : Cst K mg "KEY_SIGNS" (.int 38)
  c_MOST_NUMBER : Cst K mg "MOST_NUMBER" (.int 1000000000)
  c_SIGNS : Cst K mg "SIGNS" (.str " 0123456789_abcdefghijklmnopqrstuvwxyz'(),.*+-=<>\x0a!\"#$&/:;?@ABCDEFGHIJKLMNOPQRSTUVWXYZ[\\]^`{|}~")
  z_abs : mg "abs" = none
  z_bool : mg "bool" = none
  z_int : mg "int" = none
  z_isinstance : mg "isinstance" = none
  z_len : mg "len" = none
  z_range : mg "range" = none
section
variable {P : Program} {wd : World} {K : PySem.W.Frag} {mg : Str → Option Value} {base : Heap}
/-! #### value_key -/
abbrev n_value_key : List Str := ["value"]
theorem sc_value_key : FnScope n_value_key ["value"] (defScope s_value_key) := ⟨rfl, rfl, rfl, by decide +kernel, rfl, by decide +kernel, by decide +kernel⟩
def m_value_key : MS Unit := (mRet (mIf (mOpT dIs (mVar 0) (mC .none)) (mTup (mCons (mC (.int 0)) (mCons (mC (.int 0)) mNil))) (mTup (mCons (mC (.int 1)) (mCons (mVar 0) mNil)))))
def F_value_key : List D → Option D := runP 1 1 m_value_key
theorem ok_value_key (T : Txt K mg) : Def1 P wd K mg base "value_key" ["value"] 1 (spP K F_value_key) := def_pure T.d_value_key sc_value_key fun f cdv A outer s H E hr =>
    (db_one (ds_ret (de_if (dt_cmp op_isN od_is (de_var 0) de_non (nomark _)) (de_tup (da_cons de_int (da_cons de_int da_nil))) (de_tup (da_cons de_int (da_cons (de_var 0) da_nil))))))
/-! #### four_bytes -/
abbrev n_four_bytes : List Str := ["number"]
theorem sc_four_bytes : FnScope n_four_bytes ["number"] (defScope s_four_bytes) := ⟨rfl, rfl, rfl, by decide +kernel, rfl, by decide +kernel, by decide +kernel⟩
def m_four_bytes : MS Unit := (mRetF (mLst (mCons (mOp dMod (mOp dDiv (mVar 0) (mC (.int 16777216))) (mC (.int 256))) (mCons (mOp dMod (mOp dDiv (mVar 0) (mC (.int 65536))) (mC (.int 256))) (mCons (mOp dMod (mOp dDiv (mVar 0) (mC (.int 256))) (mC (.int 256))) (mCons (mOp dMod (mVar 0) (mC (.int 256))) mNil))))))
def F_four_bytes : List D → Option D := runP 1 1 m_four_bytes
theorem ok_four_bytes (T : Txt K mg) : Def1 P wd K mg base "four_bytes" ["number"] 1 (spP K F_four_bytes) := def_pure T.d_four_bytes sc_four_bytes fun f cdv A outer s H E hr =>
    (db_one (ds_retF (df_lst (da_cons (de_op op_modN od_mod (de_op op_fdivN od_div (de_var 0) de_int) de_int) (da_cons (de_op op_modN od_mod (de_op op_fdivN od_div (de_var 0) de_int) de_int) (da_cons (de_op op_modN od_mod (de_op op_fdivN od_div (de_var 0) de_int) de_int) (da_cons (de_op op_modN od_mod (de_var 0) de_int) da_nil)))))))
/-! #### of_four -/
abbrev n_of_four : List Str := ["content"]
theorem sc_of_four : FnScope n_of_four ["content"] (defScope s_of_four) := ⟨rfl, rfl, rfl, by decide +kernel, rfl, by decide +kernel, by decide +kernel⟩
def m_of_four : MS Unit := (mRet (mOp dAdd (mOp dMul (mOp dAdd (mOp dMul (mOp dAdd (mOp dMul (mOp dIx (mVar 0) (mC (.int 0))) (mC (.int 256))) (mOp dIx (mVar 0) (mC (.int 1)))) (mC (.int 256))) (mOp dIx (mVar 0) (mC (.int 2)))) (mC (.int 256))) (mOp dIx (mVar 0) (mC (.int 3)))))
def F_of_four : List D → Option D := runP 1 1 m_of_four
theorem ok_of_four (T : Txt K mg) : Def1 P wd K mg base "of_four" ["content"] 1 (spP K F_of_four) := def_pure T.d_of_four sc_of_four fun f cdv A outer s H E hr =>
    (db_one (ds_ret (de_op op_addD od_addD (de_op op_mul od_mul (de_op op_addD od_addD (de_op op_mul od_mul (de_op op_addD od_addD (de_op op_mul od_mul (de_ix (de_var 0) de_int) de_int) (de_ix (de_var 0) de_int)) de_int) (de_ix (de_var 0) de_int)) de_int) (de_ix (de_var 0) de_int))))
/-! #### key_bytes -/
abbrev n_key_bytes : List Str := ["value", "sign"]
theorem sc_key_bytes : FnScope n_key_bytes ["value"] (defScope s_key_bytes) := ⟨rfl, rfl, rfl, by decide +kernel, rfl, by decide +kernel, by decide +kernel⟩
def m_key_bytes : MS Unit := (mSeq (mIfS (mOpT dIs (mVar 0) (mC .none))
    (mRetF (mLst (mCons (mC (.int 0)) mNil)))
    mSkip)
    (mSeq (mIfS (mTru (mIsi "bool" (mVar 0)))
    (mRetF (mLst (mCons (mC (.int 1)) (mCons (mCall dInt (mCons (mVar 0) mNil)) mNil))))
    mSkip)
    (mSeq (mIfS (mTru (mIsi "int" (mVar 0)))
    (mRetF (mCat (mL (mLst (mCons (mC (.int 2)) mNil))) (mCall F_four_bytes (mCons (mOp dAdd (mVar 0) (mC (.int 1000000000))) mNil))))
    mSkip)
    (mRetF (mCat (mL (mCat (mL (mLst (mCons (mC (.int 3)) mNil))) (mL (mComp (mItS (mVar 0)) [1] (bName 1) mYes (mOp dAdd (mM1 dIndex (mC (.str " 0123456789_abcdefghijklmnopqrstuvwxyz'(),.*+-=<>\x0a!\"#$&/:;?@ABCDEFGHIJKLMNOPQRSTUVWXYZ[\\]^`{|}~")) (mVar 1)) (mC (.int 1))))))) (mL (mLst (mCons (mC (.int 0)) mNil))))))))
def F_key_bytes : List D → Option D := runP 2 1 m_key_bytes
theorem ok_key_bytes (T : Txt K mg) : Def1 P wd K mg base "key_bytes" ["value"] 2 (spP K F_key_bytes) := def_pure T.d_key_bytes sc_key_bytes fun f cdv A outer s H E hr =>
    (db_cons (ds_if (dt_cmp op_isN od_is (de_var 0) de_non (nomark _))
    (db_one (ds_retF (df_lst (da_cons de_int da_nil))))
    db_nil)
    (db_cons (ds_if (dt_tru (de_isi (T := "bool") rfl T.z_isinstance rfl T.z_bool (by decide +kernel) (de_var 0)))
    (db_one (ds_retF (df_lst (da_cons de_int (da_cons (de_callTy call_int1 cd_int rfl T.z_int (by decide +kernel) (da_cons (de_var 0) da_nil)) da_nil)))))
    db_nil)
    (db_cons (ds_if (dt_tru (de_isi (T := "int") rfl T.z_isinstance rfl T.z_int (by decide +kernel) (de_var 0)))
    (db_one (ds_retF (df_cat (de_fresh (df_lst (da_cons de_int da_nil))) (call_P (ok_four_bytes T) (hr.mono (by decide)) rfl (da_cons (de_op op_addD od_addD (de_var 0) (de_cst T.c_MOST_NUMBER)) da_nil)))))
    db_nil)
    (db_one (ds_retF (df_cat (de_fresh (df_cat (de_fresh (df_lst (da_cons de_int da_nil))) (de_fresh (df_comp (own := [("sign", 1)]) rfl sc_key_bytes.nd (di_str (de_var 0)) (blkOk_by (N := n_key_bytes) (sc := defScope s_key_bytes) (by decide +kernel)) (fun _ _ _ _ _ => (dg_name (i := 1) sc_key_bytes.nd rfl (by first | exact Or.inl rfl | exact Or.inr rfl))) (fun _ _ _ _ _ => dts_nil) (fun _ _ _ _ _ => (de_op op_addD od_addD (de_index (de_cst T.c_SIGNS) (de_var 1)) de_int)))))) (de_fresh (df_lst (da_cons de_int da_nil)))))))))
/-! #### read_key -/
abbrev n_read_key : List Str := ["content", "at", "kind", "number", "end", "byte"]
theorem sc_read_key : FnScope n_read_key ["content", "at"] (defScope s_read_key) := ⟨rfl, rfl, rfl, by decide +kernel, rfl, by decide +kernel, by decide +kernel⟩
def wt_read_key_1 : MT Unit := (mAnd (mOpT dLtI (mVar 4) (mCall dLen (mCons (mVar 0) mNil))) (mChainT dLtI dLeI (mC (.int 0)) (mOp dIx (mVar 0) (mVar 4)) (mC (.int 38))))
def wb_read_key_2 : MS Unit := (mSet 4 (mOp dAdd (mVar 4) (mC (.int 1))))
noncomputable def m_read_key : MS Unit := (mSeq (mSet 2 (mIf (mOpT dLtI (mVar 1) (mCall dLen (mCons (mVar 0) mNil))) (mOp dIx (mVar 0) (mVar 1)) (mC (.int 9))))
    (mSeq (mIfS (mOpT dEq (mVar 2) (mC (.int 0)))
    (mRet (mTup (mCons (mC .none) (mCons (mOp dAdd (mVar 1) (mC (.int 1))) mNil))))
    mSkip)
    (mSeq (mIfS (mAnd (mOpT dEq (mVar 2) (mC (.int 1))) (mAnd (mOpT dLtI (mOp dAdd (mVar 1) (mC (.int 1))) (mCall dLen (mCons (mVar 0) mNil))) (mOpT dLtI (mOp dIx (mVar 0) (mOp dAdd (mVar 1) (mC (.int 1)))) (mC (.int 2)))))
    (mRet (mTup (mCons (mOp dEq (mOp dIx (mVar 0) (mOp dAdd (mVar 1) (mC (.int 1)))) (mC (.int 1))) (mCons (mOp dAdd (mVar 1) (mC (.int 2))) mNil))))
    mSkip)
    (mSeq (mIfS (mAnd (mOpT dEq (mVar 2) (mC (.int 2))) (mOpT dLtI (mOp dAdd (mVar 1) (mC (.int 4))) (mCall dLen (mCons (mVar 0) mNil))))
    (mSeq (mSet 3 (mOp dSub (mCall F_of_four (mCons (mL (mSlL (mVar 0) (mPart (mOp dAdd (mVar 1) (mC (.int 1)))) (mPart (mOp dAdd (mVar 1) (mC (.int 5)))))) mNil)) (mC (.int 1000000000))))
    (mRet (mIf (mOpT dLeI (mVar 3) (mC (.int 1000000000))) (mTup (mCons (mVar 3) (mCons (mOp dAdd (mVar 1) (mC (.int 5))) mNil))) (mC .none))))
    mSkip)
    (mSeq (mIfS (mOpT dEq (mVar 2) (mC (.int 3)))
    (mSeq (mSet 4 (mOp dAdd (mVar 1) (mC (.int 1))))
    (mSeq (mWhile wt_read_key_1 wb_read_key_2)
    (mIfS (mAnd (mOpT dLtI (mVar 4) (mCall dLen (mCons (mVar 0) mNil))) (mOpT dEq (mOp dIx (mVar 0) (mVar 4)) (mC (.int 0))))
    (mRet (mTup (mCons (mM1 dJoin (mC (.str "")) (mL (mComp (mItL (mL (mSlL (mVar 0) (mPart (mOp dAdd (mVar 1) (mC (.int 1)))) (mPart (mVar 4))))) [5] (bName 5) mYes (mOp dIx (mC (.str " 0123456789_abcdefghijklmnopqrstuvwxyz'(),.*+-=<>\x0a!\"#$&/:;?@ABCDEFGHIJKLMNOPQRSTUVWXYZ[\\]^`{|}~")) (mOp dSub (mVar 5) (mC (.int 1))))))) (mCons (mOp dAdd (mVar 4) (mC (.int 1))) mNil))))
    mSkip)))
    mSkip)
    (mRet (mC .none)))))))
noncomputable def F_read_key : List D → Option D := runP 6 2 m_read_key
theorem ok_read_key (T : Txt K mg) : Def1 P wd K mg base "read_key" ["content", "at"] 2 (spP K F_read_key) := def_pure T.d_read_key sc_read_key fun f cdv A outer s H E hr =>
    (db_cons (ds_set (i := 2) sc_read_key.nd rfl (by first | exact Or.inl rfl | exact Or.inr rfl) (de_if (dt_cmp op_lt od_ltI (de_var 1) (de_callB call_len cd_len rfl T.z_len (by decide +kernel) (da_cons (de_var 0) da_nil)) (nomark _)) (de_ix (de_var 0) (de_var 1)) de_int))
    (db_cons (ds_if (dt_cmp (op_eqD (hu64 hr)) od_eq (de_var 2) de_int (nomark _))
    (db_one (ds_ret (de_tup (da_cons de_non (da_cons (de_op op_addD od_addD (de_var 1) de_int) da_nil)))))
    db_nil)
    (db_cons (ds_if (PW.pt (dw_and (dt_cmp (op_eqD (hu64 hr)) od_eq (de_var 2) de_int (nomark _)) (dw_and (dt_cmp op_lt od_ltI (de_op op_addD od_addD (de_var 1) de_int) (de_callB call_len cd_len rfl T.z_len (by decide +kernel) (da_cons (de_var 0) da_nil)) (nomark _)) (dw_and1 (dt_cmp op_lt od_ltI (de_ix (de_var 0) (de_op op_addD od_addD (de_var 1) de_int)) de_int (nomark _))))))
    (db_one (ds_ret (de_tup (da_cons (de_cmp (op_eqD (hu64 hr)) od_eq (de_ix (de_var 0) (de_op op_addD od_addD (de_var 1) de_int)) de_int (nomark _)) (da_cons (de_op op_addD od_addD (de_var 1) de_int) da_nil)))))
    db_nil)
    (db_cons (ds_if (PW.pt (dw_and (dt_cmp (op_eqD (hu64 hr)) od_eq (de_var 2) de_int (nomark _)) (dw_and1 (dt_cmp op_lt od_ltI (de_op op_addD od_addD (de_var 1) de_int) (de_callB call_len cd_len rfl T.z_len (by decide +kernel) (da_cons (de_var 0) da_nil)) (nomark _)))))
    (db_cons (ds_set (i := 3) sc_read_key.nd rfl (by first | exact Or.inl rfl | exact Or.inr rfl) (de_op op_sub od_sub (call_P (ok_of_four T) (hr.mono (by decide)) rfl (da_cons (de_fresh (df_slice (de_var 0) (do_some (de_op op_addD od_addD (de_var 1) de_int)) (do_some (de_op op_addD od_addD (de_var 1) de_int)))) da_nil)) (de_cst T.c_MOST_NUMBER)))
    (db_one (ds_ret (de_if (dt_cmp op_le od_leI (de_var 3) (de_cst T.c_MOST_NUMBER) (nomark _)) (de_tup (da_cons (de_var 3) (da_cons (de_op op_addD od_addD (de_var 1) de_int) da_nil))) de_non))))
    db_nil)
    (db_cons (ds_if (dt_cmp (op_eqD (hu64 hr)) od_eq (de_var 2) de_int (nomark _))
    (db_cons (ds_set (i := 4) sc_read_key.nd rfl (by first | exact Or.inl rfl | exact Or.inr rfl) (de_op op_addD od_addD (de_var 1) de_int))
    (db_cons (ds_while PassesOwn.never (PW.pt (dw_and (dt_cmp op_lt od_ltI (de_var 4) (de_callB call_len cd_len rfl T.z_len (by decide +kernel) (da_cons (de_var 0) da_nil)) (nomark _)) (dw_and1 (dt_chain op_lt od_ltI op_le od_leI de_int (de_ix (de_var 0) (de_var 4)) (de_cst T.c_KEY_SIGNS)))))
    (db_one (ds_set (i := 4) sc_read_key.nd rfl (by first | exact Or.inl rfl | exact Or.inr rfl) (de_op op_addD od_addD (de_var 4) de_int))))
    (db_one (ds_if (PW.pt (dw_and (dt_cmp op_lt od_ltI (de_var 4) (de_callB call_len cd_len rfl T.z_len (by decide +kernel) (da_cons (de_var 0) da_nil)) (nomark _)) (dw_and1 (dt_cmp (op_eqD (hu64 hr)) od_eq (de_ix (de_var 0) (de_var 4)) de_int (nomark _)))))
    (db_one (ds_ret (de_tup (da_cons (de_join de_str (de_fresh (df_comp (own := [("byte", 5)]) rfl sc_read_key.nd (di_list (de_fresh (df_slice (de_var 0) (do_some (de_op op_addD od_addD (de_var 1) de_int)) (do_some (de_var 4))))) (blkOk_by (N := n_read_key) (sc := defScope s_read_key) (by decide +kernel)) (fun _ _ _ _ _ => (dg_name (i := 5) sc_read_key.nd rfl (by first | exact Or.inl rfl | exact Or.inr rfl))) (fun _ _ _ _ _ => dts_nil) (fun _ _ _ _ _ => (de_ix (de_cst T.c_SIGNS) (de_op op_sub od_sub (de_var 5) de_int)))))) (da_cons (de_op op_addD od_addD (de_var 4) de_int) da_nil)))))
    db_nil))))
    db_nil)
    (db_one (ds_ret de_non)))))))
/-! #### the list of draws -/
abbrev n__law_state : List Str := ["script", "cells", "cell"]
theorem sc__law_state : FnScope n__law_state ["script"] (defScope s__law_state) := ⟨rfl, rfl, rfl, by decide +kernel, rfl, by decide +kernel, by decide +kernel⟩
theorem ok__law_state (T : Txt K mg) : Def1 P wd K mg base "_law_state" ["script"] 1 (spState K) := by
  obtain ⟨f, fd, F, hm, hB⟩ := T.d__law_state.ex
  refine ⟨f, fd, F.ok sc__law_state (fun vs H Q E h => ?_) (fun cdv A outer s H vs Q E hr h => ?_), hm, F.kp, hB⟩
  · obtain ⟨a, ns, rfl, _⟩ := h
    rfl
  · obtain ⟨a, ns, rfl, hS, hl, kk⟩ := h
    refine ⟨_, pss_cons (ps_setLc (i := 1) (own := [("cell", 2)]) rfl sc__law_state.nd rfl rfl (sw_true rfl rfl rfl (by decide +kernel)) (pi_list (pe_slice sl_list (pv 0) po_none (po_some pe_int))) (blkOk_by (N := n__law_state) (sc := defScope s__law_state) (by decide +kernel))
        (fun _ _ _ _ _ => pg_name (i := 2) sc__law_state.nd rfl (by first | exact Or.inl rfl | exact Or.inr rfl)) (fun _ _ _ _ _ => pts_nil) (fun _ _ _ _ _ => pe_callB call_abs (by rfl) T.z_abs (by decide +kernel) (pa_cons (pv 2) pa_nil)))
      (pss_cons (ps_if (pt_cmpR op_eq (pe_callB call_len_seq (by rfl) T.z_len PySem.boot_len (pa_cons (pv 1) pa_nil)) pe_int (nomark _))
        (pss_one (ps_set (i := 1) sc__law_state.nd rfl (.inl rfl) (pe_lst (pa_cons pe_int pa_nil)))) pss_nil)
      (pss_one (ps_ret (pe_lst (pa_cons pe_int (pa_cons (pv 1) pa_nil)))))), ?_⟩
    obtain ⟨ms, em, hml⟩ := cut_ints ns none (some 63)
    refine ⟨_, rfl, _, rfl, a, _, rfl, hS, fun p hp => ?_⟩
    rw [em]
    refine ⟨p, rfl, ⟨_, SqL.of upd_same⟩, fun D hD => ?_⟩
    have npD : p ≠ D := fun z => by rw [← z, upd_same] at hD; cases hD
    have hD0 : H D = none := by rw [upd_ne npD.symm] at hD; exact hD
    refine lc_list (K := K) (a := p) (xs := ms.map V.int) (fun i H2 => ∃ cs : List Int, cs.length = i ∧ H2 D = some (.lst (cs.map V.int)) ∧ H2 p = some (.lst (ms.map V.int)) ∧ ∀ b, b ≠ p → b ≠ D → H2 b = H b)
      ⟨[], rfl, upd_same, by rw [upd_ne npD, upd_same], fun b h1 h2 => by rw [upd_ne h2, upd_ne h1]⟩ (fun i H2 _ ⟨cs, _, _, h2, _⟩ => SqL.of h2) ?_ ?_
    · rintro i x H2 hx ⟨cs, hc, h1, h2, h3⟩
      have hil : i < (ms.map V.int).length := (List.getElem?_eq_some_iff.mp hx).1
      rw [List.length_map] at hil
      rw [List.getElem?_map, List.getElem?_eq_getElem hil] at hx
      cases hx
      refine ⟨rfl, _, rfl, _, rfl, _, h1, ?_, cs ++ [if ms[i] < 0 then -ms[i] else ms[i]], ?_, ?_, ?_, fun b g1 g2 => ?_⟩
      · rw [List.length_map]; have : (63 : Nat) < sizeLine := by decide
        omega
      · rw [List.length_append, hc]; rfl
      · rw [upd_same, List.map_append]; rfl
      · rw [upd_ne npD]; exact h2
      · rw [upd_ne g2]; exact h3 b g1 g2
    · rintro H2 ⟨cs, hc, h1, h2, h3⟩
      rw [List.length_map] at hc
      have nD : H2 D ≠ none := by rw [h1]; simp
      have fin : ∀ (c : Addr) (cs : List Int) (H3 : Hp) (q : Addr), H c = none → 0 < cs.length → cs.length ≤ 63 → H3 c = some (.lst (cs.map V.int)) → H3 q = none → (∀ b, b ≠ p → b ≠ D → b ≠ c → H3 b = H b) → H3 p ≠ none → H3 D ≠ none →
          Q (.ref q) (upd H3 q (.lst [.int 0, .ref c])) := fun c cs H3 q hc0 k1 k2 k3 k4 k5 k6 k7 => by
        have q1 : q ≠ p := fun z => k6 (z ▸ k4)
        have q2 : q ≠ D := fun z => k7 (z ▸ k4)
        have q3 : q ≠ c := fun z => by rw [z, k3] at k4; cases k4
        refine kk ⟨q, c, 0, cs⟩ _ ((k5 q q1 q2 q3).symm.trans k4) hc0 ⟨q3, upd_same, by show upd H3 q _ c = _; rw [upd_ne q3.symm]; exact k3, k1, k2⟩ fun b o e => ?_
        have b1 : b ≠ p := fun z => by rw [z, hp] at e; cases e
        have b2 : b ≠ D := fun z => by rw [z, hD0] at e; cases e
        have b3 : b ≠ c := fun z => by rw [z, hc0] at e; cases e
        have b4 : b ≠ q := fun z => by rw [z, ← k5 q q1 q2 q3, k4] at e; cases e
        rw [upd_ne b4, k5 b b1 b2 b3]; exact e
      refine ⟨_, rfl, _, _, rfl, .inl (SqL.of h1), rfl, _, rfl, ?_⟩
      rw [dec_int]
      by_cases hz : cs.length = 0
      · refine iteT' ?_ ?_
        · rw [List.length_map, hz]; rfl
        · refine ⟨(by show 1 ≤ sizeLine; decide), fun r hr0 => ⟨_, rfl, (by show 2 ≤ sizeLine; decide), fun q hq => ?_⟩⟩
          have hrp : r ≠ p := fun z => by rw [z, h2] at hr0; cases hr0
          have hrD : r ≠ D := fun z => by rw [z, h1] at hr0; cases hr0
          refine fin r [0] _ q ((h3 r hrp hrD).symm.trans hr0) (by decide) (by decide) upd_same hq (fun b b1 b2 b3 => by rw [upd_ne b3]; exact h3 b b1 b2) ?_ ?_
          · rw [upd_ne hrp.symm, h2]; simp
          · rw [upd_ne hrD.symm, h1]; simp
      · refine iteF' ?_ ?_
        · rw [List.length_map]; exact beq_false_of_ne (by omega)
        · refine ⟨_, rfl, (by show 2 ≤ sizeLine; decide), fun q hq => fin D cs H2 q hD0 (by omega) (by omega) h1 hq (fun b b1 b2 _ => h3 b b1 b2) (by rw [h2]; simp) nD⟩

/-! #### the draws -/
abbrev n__law_take : List Str := ["state", "most", "cells", "at", "cell", "mixed"]
theorem sc__law_take : FnScope n__law_take ["state", "most"] (defScope s__law_take) := ⟨rfl, rfl, rfl, by decide +kernel, rfl, by decide +kernel, by decide +kernel⟩
theorem ok__law_take (T : Txt K mg) : Def1 P wd K mg base "_law_take" ["state", "most"] 1 (spG K drA drawA) := by
  obtain ⟨f, fd, F, hm, hB⟩ := T.d__law_take.ex
  refine ⟨f, fd, F.ok sc__law_take (fun vs H Q E h => ?_) (fun cdv A outer s H vs Q E hr h => ?_), hm, F.kp, hB⟩
  · obtain ⟨I, g, as, d, g', _, _, _, ra, e, _⟩ := h
    obtain ⟨most, rfl, _⟩ := drawA_some e
    exact ra.len
  · obtain ⟨I, g, as, d, g', sI, ok, fI, ra, e, kk⟩ := h
    obtain ⟨most, rfl, h0, h1, rfl, rfl⟩ := drawA_some e
    obtain ⟨ne, hs, hc, hl, hl63⟩ := id ok
    obtain ⟨v0, v1, rfl, rfl, rfl⟩ : ∃ v0 v1, vs = [v0, v1] ∧ v0 = .ref g.s ∧ v1 = .int most := by
      cases ra with
      | cons a b => cases b with
        | cons b c => cases c; cases b; exact ⟨_, _, rfl, a, rfl⟩
    obtain ⟨j, ej, hj⟩ := fmod_ix (n := g.n) hl
    have hjl : j < (g.cells.map V.int).length := by rw [List.length_map]; exact hj
    have hcell : (g.cells.map V.int)[j]? = some (.int (g.cells.getD j 0)) := by
      rw [List.getElem?_map, List.getD_eq_getElem?_getD, List.getElem?_eq_getElem hj]; rfl
    have hat : atI (g.cells.map V.int) (g.n.fmod (g.cells.length : Int)) = some (.int (g.cells.getD j 0)) := by rw [ej]; exact atI_nat hcell
    have hix : ixN (g.cells.map V.int).length (g.n.fmod (g.cells.length : Int)) = some j := by
      rw [ej]
      unfold ixN
      rw [if_pos (by omega), if_pos (by omega)]; simp
    have hlen : ((g.cells.map V.int).length : Int) = (g.cells.length : Int) := by rw [List.length_map]
    refine ⟨_, pss_cons (ps_set (i := 2) sc__law_take.nd rfl (.inl rfl) (pe_ix ix_list (pv 0) pe_int (fun _ _ => rfl)))
      (pss_cons (ps_set (i := 3) sc__law_take.nd rfl (.inl rfl) (pe_op op_modN (pe_ix ix_list (pv 0) pe_int (fun _ _ => rfl)) (pe_callB call_len_seq (by rfl) T.z_len PySem.boot_len (pa_cons (pv 2) pa_nil))))
      (pss_cons (ps_set (i := 4) sc__law_take.nd rfl (.inl rfl) (pe_ix ix_list (pv 2) (pv 3) (fun _ _ => rfl)))
      (pss_cons (ps_if (pt_cmpR op_ge (pv 4) pe_int (nomark _))
        (pss_cons (ps_asg (pe_op op_fdivN (pv 4) (pv 1)) (pg_sub (pv 2) (pv 3) set_list)) (pss_one (ps_ret (pe_op op_modN (pv 4) (pv 1))))) pss_nil)
      (pss_cons (ps_asg (pe_op op_add (pe_ix ix_list (pv 0) pe_int (fun _ _ => rfl)) pe_int) (pg_sub (pv 0) pe_int set_list))
      (pss_cons (ps_set (i := 5) sc__law_take.nd rfl (.inl rfl) (pe_op op_modN (pe_callTy call_int1 (by rfl) T.z_int (by decide +kernel) (pa_cons (pe_op op_add (pe_op op_mul (pv 4) pe_int) (pe_op op_mul (pe_ix ix_list (pv 0) pe_int (fun _ _ => rfl)) pe_int)) pa_nil)) pe_int))
      (pss_cons (ps_set (i := 5) sc__law_take.nd rfl (.inl rfl) (pe_op op_modN (pe_callTy call_int1 (by rfl) T.z_int (by decide +kernel) (pa_cons (pe_op op_add (pe_op op_mul (pv 5) pe_int) (pe_op op_mul (pe_ix ix_list (pv 0) pe_int (fun _ _ => rfl)) pe_int)) pa_nil)) pe_int))
      (pss_one (ps_ret (pe_op op_modN (pe_op op_fdivN (pv 5) pe_int) (pv 1)))))))))), ?_⟩
    refine ⟨_, rfl, _, _, _, _, rfl, rfl, SqL.of hs, rfl, ?_⟩
    refine ⟨_, rfl, _, _, _, _, rfl, rfl, SqL.of hs, rfl, _, rfl, _, _, rfl, .inl (SqL.of hc), _, _, rfl, rfl, by rw [hlen]; omega, ?_⟩
    rw [hlen]
    refine ⟨_, rfl, _, rfl, _, _, _, _, rfl, rfl, SqL.of hc, hat, ?_⟩
    refine ⟨_, rfl, _, _, rfl, rfl, _, rfl, ?_⟩
    have etk : ∀ c : Int, c = g.cells.getD j 0 → g.cells.getD (g.n.fmod (g.cells.length : Int)).toNat 0 = c := fun c hc => by rw [ej, Int.toNat_natCast, hc]
    by_cases hbig : (1000000000000000000 : Int) ≤ g.cells.getD j 0
    · rw [decide_eq_true hbig]
      refine iteT ?_
      refine ⟨_, rfl, _, rfl, _, _, rfl, rfl, ⟨by omega, by omega⟩, _, rfl, _, rfl, _, _, _, _, rfl, rfl, hc, hix, ?_⟩
      refine ⟨_, rfl, _, rfl, _, _, rfl, rfl, by omega, ?_⟩
      have et : g.take most = ((g.cells.getD j 0).fmod most, { g with cells := g.cells.set j ((g.cells.getD j 0).fdiv most) }) := by
        unfold Dr.take
        simp only [etk _ rfl]
        rw [if_neg (by omega), ej, Int.toNat_natCast]
      rw [et] at kk
      have e1 : (g.cells.map V.int).set j (.int ((g.cells.getD j 0).fdiv most)) = (g.cells.set j ((g.cells.getD j 0).fdiv most)).map V.int := by rw [List.map_set]
      refine kk _ I _ (dr_gst sI ok rfl rfl ⟨ne, by rw [upd_ne ne]; exact hs, by rw [upd_same, e1], by rw [List.length_set]; exact hl, by rw [List.length_set]; exact hl63⟩ fI fun a h1 h2 => upd_ne h2) (.int _)
    · rw [decide_eq_false hbig]
      refine iteF ?_
      refine ⟨_, rfl, _, _, _, _, rfl, rfl, SqL.of hs, rfl, _, _, rfl, rfl, _, rfl, _, _, _, _, rfl, rfl, hs, rfl, ?_⟩
      have hs2 : (upd H g.s (HO.lst [.int (g.n + 1), .ref g.c])) g.s = some (.lst [.int (g.n + 1), .ref g.c]) := upd_same
      refine ⟨_, rfl, _, _, rfl, rfl, .inr ⟨by decide, by decide⟩, _, rfl, _, _, _, _, rfl, rfl, SqL.of hs2, rfl, _, _, rfl, rfl, .inr ⟨by decide, by decide⟩, _, _, rfl, rfl, .inl ⟨_, rfl, _, _, rfl, rfl, (by show (2147483647:Int) ≠ 0; decide), ?_⟩⟩
      refine ⟨_, rfl, _, _, rfl, rfl, .inr ⟨by decide, by decide⟩, _, rfl, _, _, _, _, rfl, rfl, SqL.of hs2, rfl, _, _, rfl, rfl, .inr ⟨by decide, by decide⟩, _, _, rfl, rfl, .inl ⟨_, rfl, _, _, rfl, rfl, (by show (1000000007:Int) ≠ 0; decide), ?_⟩⟩
      refine ⟨_, rfl, _, _, rfl, rfl, ⟨by decide, by decide⟩, _, rfl, _, _, rfl, rfl, by omega, ?_⟩
      have et : g.take most = (((((((g.cells.getD j 0) * 48271 + (g.n + 1) * 69621).fmod 2147483647) * 16807 + (g.n + 1) * 7919).fmod 1000000007).fdiv 7).fmod most, { g with n := g.n + 1 }) := by
        unfold Dr.take
        simp only [etk _ rfl]
        rw [if_pos (by omega)]
      rw [et] at kk
      refine kk _ I _ (dr_gst sI ok rfl rfl ⟨ne, upd_same, by rw [upd_ne ne.symm]; exact hc, hl, hl63⟩ fI fun a h1 h2 => upd_ne h1) (.int _)

/-! #### _law_value -/
abbrev n__law_value : List Str := ["state", "kind", "k"]
theorem sc__law_value : FnScope n__law_value ["state", "kind"] (defScope s__law_value) := ⟨rfl, rfl, rfl, by decide +kernel, rfl, by decide +kernel, by decide +kernel⟩
def m__law_value : MS Dr := (mSeq (mIfS (mOpT dEq (mCallG drawA (gConsS 0 (gCons (mC (.int 6)) gNil))) (mC (.int 0)))
    (mRet (mC .none))
    mSkip)
    (mSeq (mIfS (mOpT dEq (mVar 1) (mC (.int 0)))
    (mRet (mOp dIx (mL (mLst (mCons (mC (.bool false)) (mCons (mC (.bool true)) mNil)))) (mCallG drawA (gConsS 0 (gCons (mC (.int 2)) gNil)))))
    mSkip)
    (mSeq (mIfS (mOpT dEq (mVar 1) (mC (.int 1)))
    (mRet (mOp dMul (mOp dIx (mL (mLst (mCons (mC (.int 0)) (mCons (mC (.int 255)) (mCons (mC (.int 256)) (mCons (mOp dPow (mC (.int 10)) (mC (.int 9))) (mCons (mC (.int 65536)) (mCons (mC (.int 1)) mNil)))))))) (mCallG drawA (gConsS 0 (gCons (mC (.int 6)) gNil)))) (mOp dIx (mL (mLst (mCons (mC (.int 1)) (mCons (mOp dSub (mC (.int 0)) (mC (.int 1))) mNil)))) (mCallG drawA (gConsS 0 (gCons (mC (.int 2)) gNil))))))
    mSkip)
    (mRet (mM1 dJoin (mC (.str "")) (mL (mComp (mRng1 (mCons (mCallG drawA (gConsS 0 (gCons (mC (.int 5)) gNil))) mNil)) [2] (bName 2) mYes (mOp dIx (mC (.str " 09abz")) (mCallG drawA (gConsS 0 (gCons (mC (.int 6)) gNil)))))))))))
def F__law_value : List SV → Dr → Option (D × Dr) := runG 3 2 m__law_value
theorem ok__law_value (T : Txt K mg) : Def1 P wd K mg base "_law_value" ["state", "kind"] 2 (spG K drA F__law_value) := def_ghost T.d__law_value sc__law_value fun f cdv A outer s H E hr =>
    (db_cons (ds_if (dt_cmp (op_eqD (hu64 hr)) od_eq (call_G (ok__law_take T) (hr.mono (by decide)) rfl (dg_st (i := 0) (dg_cons de_int dg_nil))) de_int (nomark _))
    (db_one (ds_ret de_non))
    db_nil)
    (db_cons (ds_if (dt_cmp (op_eqD (hu64 hr)) od_eq (de_var 1) de_int (nomark _))
    (db_one (ds_ret (de_ix (de_fresh (df_lst (da_cons de_bl (da_cons de_bl da_nil)))) (call_G (ok__law_take T) (hr.mono (by decide)) rfl (dg_st (i := 0) (dg_cons de_int dg_nil))))))
    db_nil)
    (db_cons (ds_if (dt_cmp (op_eqD (hu64 hr)) od_eq (de_var 1) de_int (nomark _))
    (db_one (ds_ret (de_op op_mul od_mul (de_ix (de_fresh (df_lst (da_cons de_int (da_cons de_int (da_cons de_int (da_cons (de_op op_pow od_pow de_int de_int) (da_cons de_int (da_cons de_int da_nil)))))))) (call_G (ok__law_take T) (hr.mono (by decide)) rfl (dg_st (i := 0) (dg_cons de_int dg_nil)))) (de_ix (de_fresh (df_lst (da_cons de_int (da_cons (de_op op_sub od_sub de_int de_int) da_nil)))) (call_G (ok__law_take T) (hr.mono (by decide)) rfl (dg_st (i := 0) (dg_cons de_int dg_nil)))))))
    db_nil)
    (db_one (ds_ret (de_join de_str (de_fresh (df_comp (own := [("k", 2)]) rfl sc__law_value.nd (di_range1 rfl T.z_range (da_cons (call_G (ok__law_take T) (hr.mono (by decide)) rfl (dg_st (i := 0) (dg_cons de_int dg_nil))) da_nil)) (blkOk_by (N := n__law_value) (sc := defScope s__law_value) (by decide +kernel)) (fun _ _ _ _ _ => (dg_name (i := 2) sc__law_value.nd rfl (by first | exact Or.inl rfl | exact Or.inr rfl))) (fun _ _ _ _ _ => dts_nil) (fun _ _ _ _ _ => (de_ix de_str (call_G (ok__law_take T) (hr.mono (by decide)) rfl (dg_st (i := 0) (dg_cons de_int dg_nil)))))))))))))
/-! #### _law_key -/
abbrev n__law_key : List Str := ["value", "there", "k", "sign"]
theorem sc__law_key : FnScope n__law_key ["value"] (defScope s__law_key) := ⟨rfl, rfl, rfl, by decide +kernel, rfl, by decide +kernel, by decide +kernel⟩
def m__law_key : MS Unit := (mSeq (mIfS (mOpT dIs (mVar 0) (mC .none))
    (mRetF (mLst (mCons (mC (.int 0)) mNil)))
    mSkip)
    (mSeq (mIfS (mTru (mIsi "bool" (mVar 0)))
    (mRetF (mLst (mCons (mC (.int 1)) (mCons (mCall dInt (mCons (mVar 0) mNil)) mNil))))
    mSkip)
    (mSeq (mIfS (mTru (mIsi "int" (mVar 0)))
    (mSeq (mSet 1 (mOp dAdd (mVar 0) (mOp dPow (mC (.int 10)) (mC (.int 9)))))
    (mRetF (mCat (mL (mLst (mCons (mC (.int 2)) mNil))) (mL (mComp (mItL (mL (mLst (mCons (mC (.int 3)) (mCons (mC (.int 2)) (mCons (mC (.int 1)) (mCons (mC (.int 0)) mNil))))))) [2] (bName 2) mYes (mOp dMod (mOp dDiv (mVar 1) (mOp dShl (mC (.int 1)) (mOp dMul (mC (.int 8)) (mVar 2)))) (mC (.int 256))))))))
    mSkip)
    (mRetF (mCat (mL (mCat (mL (mLst (mCons (mC (.int 3)) mNil))) (mL (mComp (mItS (mVar 0)) [3] (bName 3) mYes (mOp dAdd (mM1 dIndex (mC (.str " 0123456789_abcdefghijklmnopqrstuvwxyz")) (mVar 3)) (mC (.int 1))))))) (mL (mLst (mCons (mC (.int 0)) mNil))))))))
def F__law_key : List D → Option D := runP 4 1 m__law_key
theorem ok__law_key (T : Txt K mg) : Def1 P wd K mg base "_law_key" ["value"] 1 (spP K F__law_key) := def_pure T.d__law_key sc__law_key fun f cdv A outer s H E hr =>
    (db_cons (ds_if (dt_cmp op_isN od_is (de_var 0) de_non (nomark _))
    (db_one (ds_retF (df_lst (da_cons de_int da_nil))))
    db_nil)
    (db_cons (ds_if (dt_tru (de_isi (T := "bool") rfl T.z_isinstance rfl T.z_bool (by decide +kernel) (de_var 0)))
    (db_one (ds_retF (df_lst (da_cons de_int (da_cons (de_callTy call_int1 cd_int rfl T.z_int (by decide +kernel) (da_cons (de_var 0) da_nil)) da_nil)))))
    db_nil)
    (db_cons (ds_if (dt_tru (de_isi (T := "int") rfl T.z_isinstance rfl T.z_int (by decide +kernel) (de_var 0)))
    (db_cons (ds_set (i := 1) sc__law_key.nd rfl (by first | exact Or.inl rfl | exact Or.inr rfl) (de_op op_addD od_addD (de_var 0) (de_op op_pow od_pow de_int de_int)))
    (db_one (ds_retF (df_cat (de_fresh (df_lst (da_cons de_int da_nil))) (de_fresh (df_comp (own := [("k", 2)]) rfl sc__law_key.nd (di_list (de_fresh (df_lst (da_cons de_int (da_cons de_int (da_cons de_int (da_cons de_int da_nil))))))) (blkOk_by (N := n__law_key) (sc := defScope s__law_key) (by decide +kernel)) (fun _ _ _ _ _ => (dg_name (i := 2) sc__law_key.nd rfl (by first | exact Or.inl rfl | exact Or.inr rfl))) (fun _ _ _ _ _ => dts_nil) (fun _ _ _ _ _ => (de_op op_modN od_mod (de_op op_fdivN od_div (de_var 1) (de_op op_shl od_shl de_int (de_op op_mul od_mul de_int (de_var 2)))) de_int))))))))
    db_nil)
    (db_one (ds_retF (df_cat (de_fresh (df_cat (de_fresh (df_lst (da_cons de_int da_nil))) (de_fresh (df_comp (own := [("sign", 3)]) rfl sc__law_key.nd (di_str (de_var 0)) (blkOk_by (N := n__law_key) (sc := defScope s__law_key) (by decide +kernel)) (fun _ _ _ _ _ => (dg_name (i := 3) sc__law_key.nd rfl (by first | exact Or.inl rfl | exact Or.inr rfl))) (fun _ _ _ _ _ => dts_nil) (fun _ _ _ _ _ => (de_op op_addD od_addD (de_index de_str (de_var 3)) de_int)))))) (de_fresh (df_lst (da_cons de_int da_nil)))))))))
/-! #### law -/
abbrev n_law : List Str := ["script", "state", "kind", "values", "k", "keys", "value", "i", "j", "told", "bad", "number", "row"]
theorem sc_law : FnScope n_law ["script"] (defScope s_law) := ⟨rfl, rfl, rfl, by decide +kernel, rfl, by decide +kernel, by decide +kernel⟩
def lb_law_1 : MS Dr := (mSeq (mIfS (mOr (mOpT dNe (mOp dLt (mOp dIx (mVar 5) (mVar 7)) (mOp dIx (mVar 5) (mVar 8))) (mOp dLt (mCall F_value_key (mCons (mOp dIx (mVar 3) (mVar 7)) mNil)) (mCall F_value_key (mCons (mOp dIx (mVar 3) (mVar 8)) mNil)))) (mOpT dNe (mOp dEq (mOp dIx (mVar 5) (mVar 7)) (mOp dIx (mVar 5) (mVar 8))) (mOp dEq (mOp dIx (mVar 3) (mVar 7)) (mOp dIx (mVar 3) (mVar 8)))))
    (mRet (mC (.bool false)))
    mSkip)
    (mIfS (mAnd (mOpT dEq (mL (mSlL (mOp dIx (mVar 5) (mVar 7)) mNo (mPart (mCall dLen (mCons (mOp dIx (mVar 5) (mVar 8)) mNil))))) (mOp dIx (mVar 5) (mVar 8))) (mOpT dNe (mOp dIx (mVar 5) (mVar 7)) (mOp dIx (mVar 5) (mVar 8))))
    (mRet (mC (.bool false)))
    mSkip))
noncomputable def lb_law_2 : MS Dr := (mSeq (mFor (mRng1 (mCons (mCall dLen (mCons (mVar 3) mNil)) mNil)) (bName 8) lb_law_1)
    (mSeq (mSet 9 (mCall F_read_key (mCons (mL (mCat (mL (mCat (mL (mLst (mCons (mC (.int 9)) mNil))) (mOp dIx (mVar 5) (mVar 7)))) (mL (mLst (mCons (mC (.int 0)) mNil))))) (mCons (mC (.int 1)) mNil))))
    (mSeq (mIfS (mOr (mOpT dIs (mVar 9) (mC .none)) (mOr (mOpT dNe (mOp dIx (mVar 9) (mC (.int 0))) (mOp dIx (mVar 3) (mVar 7))) (mOr (mOpT dNe (mIsi "bool" (mOp dIx (mVar 9) (mC (.int 0)))) (mIsi "bool" (mOp dIx (mVar 3) (mVar 7)))) (mOpT dNe (mOp dIx (mVar 9) (mC (.int 1))) (mOp dAdd (mC (.int 1)) (mCall dLen (mCons (mOp dIx (mVar 5) (mVar 7)) mNil)))))))
    (mRet (mC (.bool false)))
    mSkip)
    (mIfS (mOpT dIsNot (mCall F_read_key (mCons (mL (mSlL (mOp dIx (mVar 5) (mVar 7)) mNo (mPart (mUn dNeg (mC (.int 1)))))) (mCons (mC (.int 0)) mNil))) (mC .none))
    (mRet (mC (.bool false)))
    mSkip))))
noncomputable def lb_law_3 : MS Dr := (mIfS (mOpT dIsNot (mCall F_read_key (mCons (mVar 10) (mCons (mC (.int 0)) mNil))) (mC .none))
    (mRet (mC (.bool false)))
    mSkip)
noncomputable def m_law : MS Dr := (mSeq (mSet 2 (mCallG drawA (gConsS 1 (gCons (mC (.int 3)) gNil))))
    (mSeq (mThen (mSetF 3 (mComp (mRng1 (mCons (mOp dAdd (mC (.int 2)) (mCallG drawA (gConsS 1 (gCons (mC (.int 5)) gNil)))) mNil)) [4] (bName 4) mYes (mCallG F__law_value (gConsS 1 (gCons (mVar 2) gNil))))) 3)
    (mSeq (mThen (mSetF 5 (mComp (mItL (mVar 3)) [6] (bName 6) mYes (mCall F_key_bytes (mCons (mVar 6) mNil)))) 5)
    (mSeq (mIfS (mOpT dNe (mVar 5) (mL (mComp (mItL (mVar 3)) [6] (bName 6) mYes (mCall F__law_key (mCons (mVar 6) mNil)))))
    (mRet (mC (.bool false)))
    mSkip)
    (mSeq (mFor (mRng1 (mCons (mCall dLen (mCons (mVar 3) mNil)) mNil)) (bName 7) lb_law_2)
    (mSeq (mFor (mItL (mL (mLst (mCons (mL (mLst (mCons (mC (.int 4)) mNil))) (mCons (mL (mLst (mCons (mC (.int 1)) (mCons (mC (.int 2)) mNil)))) (mCons (mL (mLst (mCons (mC (.int 2)) (mCons (mC (.int 255)) (mCons (mC (.int 255)) (mCons (mC (.int 255)) (mCons (mC (.int 255)) mNil))))))) (mCons (mL (mLst (mCons (mC (.int 3)) (mCons (mC (.int 39)) (mCons (mC (.int 0)) mNil))))) (mCons (mL (mLst (mCons (mC (.int 3)) (mCons (mC (.int 5)) mNil)))) mNil)))))))) (bName 10) lb_law_3)
    (mSeq (mSet 11 (mOp dAdd (mOp dMul (mCallG drawA (gConsS 1 (gCons (mC (.int 65536)) gNil))) (mC (.int 65536))) (mCallG drawA (gConsS 1 (gCons (mC (.int 65536)) gNil)))))
    (mSeq (mSet 12 (mCall F_four_bytes (mCons (mVar 11) mNil)))
    (mRet (mBAnd (mOp dEq (mVar 12) (mL (mLst (mCons (mOp dDiv (mVar 11) (mC (.int 16777216))) (mCons (mOp dMod (mOp dDiv (mVar 11) (mC (.int 65536))) (mC (.int 256))) (mCons (mOp dMod (mOp dDiv (mVar 11) (mC (.int 256))) (mC (.int 256))) (mCons (mOp dMod (mVar 11) (mC (.int 256))) mNil))))))) (mOp dEq (mCall F_of_four (mCons (mVar 12) mNil)) (mVar 11))))))))))))
theorem body_law (T : Txt K mg) (f : Addr) (cdv : Value) (A : Around) (outer : List PySem.Env) (s : Shared) (H : Hp) (E : XK) (hr : Room 2 (A.deeper (PyProof.Rows.envOfC "law" (defScope s_law) s.heap.objs.size f cdv))) :
    PSs (cxOf CX0 P wd K mg base n_law "law" (defScope s_law) f cdv A outer s H E).nox ((defBody s_law).drop 1) (tS K drA m_law) :=
    (db_cons (ds_set (i := 2) sc_law.nd rfl (by first | exact Or.inl rfl | exact Or.inr rfl) (call_G (ok__law_take T) (hr.mono (by decide)) rfl (dg_st (i := 1) (dg_cons de_int dg_nil))))
    (db_cons (ds_then 3 (ds_setLc (own := [("k", 4)]) rfl sc_law.nd rfl rfl (sw_true rfl rfl rfl (by decide +kernel)) (di_range1 rfl T.z_range (da_cons (de_op op_addD od_addD de_int (call_G (ok__law_take T) (hr.mono (by decide)) rfl (dg_st (i := 1) (dg_cons de_int dg_nil)))) da_nil)) (blkOk_by (N := n_law) (sc := defScope s_law) (by decide +kernel)) (fun _ _ _ _ _ => (dg_name (i := 4) sc_law.nd rfl (by first | exact Or.inl rfl | exact Or.inr rfl))) (fun _ _ _ _ _ => dts_nil) (fun _ _ _ _ _ => (call_G (ok__law_value T) (hr.mono (by decide)) rfl (dg_st (i := 1) (dg_cons (de_var 2) dg_nil))))))
    (db_cons (ds_then 5 (ds_setLc (own := [("value", 6)]) rfl sc_law.nd rfl rfl (sw_true rfl rfl rfl (by decide +kernel)) (di_list (de_var 3)) (blkOk_by (N := n_law) (sc := defScope s_law) (by decide +kernel)) (fun _ _ _ _ _ => (dg_name (i := 6) sc_law.nd rfl (by first | exact Or.inl rfl | exact Or.inr rfl))) (fun _ _ _ _ _ => dts_nil) (fun _ _ _ _ _ => (call_P (ok_key_bytes T) (hr.mono (by decide)) rfl (da_cons (de_var 6) da_nil)))))
    (db_cons (ds_if (dt_cmp (op_neD (hu64 hr)) od_ne (de_var 5) (de_fresh (df_comp (own := [("value", 6)]) rfl sc_law.nd (di_list (de_var 3)) (blkOk_by (N := n_law) (sc := defScope s_law) (by decide +kernel)) (fun _ _ _ _ _ => (dg_name (i := 6) sc_law.nd rfl (by first | exact Or.inl rfl | exact Or.inr rfl))) (fun _ _ _ _ _ => dts_nil) (fun _ _ _ _ _ => (call_P (ok__law_key T) (hr.mono (by decide)) rfl (da_cons (de_var 6) da_nil))))) (nomark _))
    (db_one (ds_ret de_bl))
    db_nil)
    (db_cons (ds_for PassesOwn.never rfl (di_range1 rfl T.z_range (da_cons (de_callB call_len cd_len rfl T.z_len (by decide +kernel) (da_cons (de_var 3) da_nil)) da_nil)) (dg_name (i := 7) sc_law.nd rfl (by first | exact Or.inl rfl | exact Or.inr rfl))
    (db_cons (ds_for PassesOwn.never rfl (di_range1 rfl T.z_range (da_cons (de_callB call_len cd_len rfl T.z_len (by decide +kernel) (da_cons (de_var 3) da_nil)) da_nil)) (dg_name (i := 8) sc_law.nd rfl (by first | exact Or.inl rfl | exact Or.inr rfl))
    (db_cons (ds_if (PW.pt (dw_or (dt_cmp (op_neD (hu64 hr)) od_ne (de_cmp (op_ltD (hu65 hr)) od_lt (de_ix (de_var 5) (de_var 7)) (de_ix (de_var 5) (de_var 8)) (nomark _)) (de_cmp (op_ltD (hu65 hr)) od_lt (call_P (ok_value_key T) (hr.mono (by decide)) rfl (da_cons (de_ix (de_var 3) (de_var 7)) da_nil)) (call_P (ok_value_key T) (hr.mono (by decide)) rfl (da_cons (de_ix (de_var 3) (de_var 8)) da_nil)) (nomark _)) (nomark _)) (dw_or1 (dt_cmp (op_neD (hu64 hr)) od_ne (de_cmp (op_eqD (hu64 hr)) od_eq (de_ix (de_var 5) (de_var 7)) (de_ix (de_var 5) (de_var 8)) (nomark _)) (de_cmp (op_eqD (hu64 hr)) od_eq (de_ix (de_var 3) (de_var 7)) (de_ix (de_var 3) (de_var 8)) (nomark _)) (nomark _)))))
    (db_one (ds_ret de_bl))
    db_nil)
    (db_one (ds_if (PW.pt (dw_and (dt_cmp (op_eqD (hu64 hr)) od_eq (de_fresh (df_slice (de_ix (de_var 5) (de_var 7)) do_none (do_some (de_callB call_len cd_len rfl T.z_len (by decide +kernel) (da_cons (de_ix (de_var 5) (de_var 8)) da_nil))))) (de_ix (de_var 5) (de_var 8)) (nomark _)) (dw_and1 (dt_cmp (op_neD (hu64 hr)) od_ne (de_ix (de_var 5) (de_var 7)) (de_ix (de_var 5) (de_var 8)) (nomark _)))))
    (db_one (ds_ret de_bl))
    db_nil))))
    (db_cons (ds_set (i := 9) sc_law.nd rfl (by first | exact Or.inl rfl | exact Or.inr rfl) (call_P (ok_read_key T) (hr.mono (by decide)) rfl (da_cons (de_fresh (df_cat (de_fresh (df_cat (de_fresh (df_lst (da_cons de_int da_nil))) (de_ix (de_var 5) (de_var 7)))) (de_fresh (df_lst (da_cons de_int da_nil))))) (da_cons de_int da_nil))))
    (db_cons (ds_if (PW.pt (dw_or (dt_cmp op_isN od_is (de_var 9) de_non (nomark _)) (dw_or (dt_cmp (op_neD (hu64 hr)) od_ne (de_ix (de_var 9) de_int) (de_ix (de_var 3) (de_var 7)) (nomark _)) (dw_or (dt_cmp (op_neD (hu64 hr)) od_ne (de_isi (T := "bool") rfl T.z_isinstance rfl T.z_bool (by decide +kernel) (de_ix (de_var 9) de_int)) (de_isi (T := "bool") rfl T.z_isinstance rfl T.z_bool (by decide +kernel) (de_ix (de_var 3) (de_var 7))) (nomark _)) (dw_or1 (dt_cmp (op_neD (hu64 hr)) od_ne (de_ix (de_var 9) de_int) (de_op op_addD od_addD de_int (de_callB call_len cd_len rfl T.z_len (by decide +kernel) (da_cons (de_ix (de_var 5) (de_var 7)) da_nil))) (nomark _)))))))
    (db_one (ds_ret de_bl))
    db_nil)
    (db_one (ds_if (dt_cmp op_notN od_isNot (call_P (ok_read_key T) (hr.mono (by decide)) rfl (da_cons (de_fresh (df_slice (de_ix (de_var 5) (de_var 7)) do_none (do_some (de_un un_neg ud_neg de_int)))) (da_cons de_int da_nil))) de_non (nomark _))
    (db_one (ds_ret de_bl))
    db_nil))))))
    (db_cons (ds_for PassesOwn.never rfl (di_list (de_fresh (df_lst (da_cons (de_fresh (df_lst (da_cons de_int da_nil))) (da_cons (de_fresh (df_lst (da_cons de_int (da_cons de_int da_nil)))) (da_cons (de_fresh (df_lst (da_cons de_int (da_cons de_int (da_cons de_int (da_cons de_int (da_cons de_int da_nil))))))) (da_cons (de_fresh (df_lst (da_cons de_int (da_cons de_int (da_cons de_int da_nil))))) (da_cons (de_fresh (df_lst (da_cons de_int (da_cons de_int da_nil)))) da_nil)))))))) (dg_name (i := 10) sc_law.nd rfl (by first | exact Or.inl rfl | exact Or.inr rfl))
    (db_one (ds_if (dt_cmp op_notN od_isNot (call_P (ok_read_key T) (hr.mono (by decide)) rfl (da_cons (de_var 10) (da_cons de_int da_nil))) de_non (nomark _))
    (db_one (ds_ret de_bl))
    db_nil)))
    (db_cons (ds_set (i := 11) sc_law.nd rfl (by first | exact Or.inl rfl | exact Or.inr rfl) (de_op op_addD od_addD (de_op op_mul od_mul (call_G (ok__law_take T) (hr.mono (by decide)) rfl (dg_st (i := 1) (dg_cons de_int dg_nil))) de_int) (call_G (ok__law_take T) (hr.mono (by decide)) rfl (dg_st (i := 1) (dg_cons de_int dg_nil)))))
    (db_cons (ds_set (i := 12) sc_law.nd rfl (by first | exact Or.inl rfl | exact Or.inr rfl) (call_P (ok_four_bytes T) (hr.mono (by decide)) rfl (da_cons (de_var 11) da_nil)))
    (db_one (ds_ret (de_and (de_cmp (op_eqD (hu64 hr)) od_eq (de_var 12) (de_fresh (df_lst (da_cons (de_op op_fdivN od_div (de_var 11) de_int) (da_cons (de_op op_modN od_mod (de_op op_fdivN od_div (de_var 11) de_int) de_int) (da_cons (de_op op_modN od_mod (de_op op_fdivN od_div (de_var 11) de_int) de_int) (da_cons (de_op op_modN od_mod (de_var 11) de_int) da_nil)))))) (nomark _)) (de_and1 (de_cmp (op_eqD (hu64 hr)) od_eq (call_P (ok_of_four T) (hr.mono (by decide)) rfl (da_cons (de_var 12) da_nil)) (de_var 11) (nomark _))))))))))))))
end
end K51

namespace K51
open PySem Pd
def ch (c : Nat) : Str := ⟨#[c]⟩
def tx (cs : List Nat) : Str := ⟨cs.toArray⟩
inductive Vl where
  | no
  | bl (b : Bool)
  | nt (i : Int)
  | tx (cs : List Nat)
  deriving DecidableEq
def Vl.d : Vl → D
  | .no => .none
  | .bl b => .bool b
  | .nt i => .int i
  | .tx cs => .str (K51.tx cs)
def cset : List Nat := [32, 48, 57, 97, 98, 122]
def cix (c : Nat) : Int := if c = 32 then 1 else if c = 48 then 2 else if c = 57 then 11 else if c = 97 then 13 else if c = 98 then 14 else 38
def Vl.Ok (k : Int) : Vl → Prop
  | .no => True
  | .bl _ => k = 0
  | .nt i => k = 1 ∧ -1000000000 ≤ i ∧ i ≤ 1000000000
  | .tx cs => k ≠ 0 ∧ k ≠ 1 ∧ cs.length ≤ 4 ∧ ∀ c ∈ cs, c ∈ cset
def four (n : Int) : List Int := [(n.fdiv 16777216).fmod 256, (n.fdiv 65536).fmod 256, (n.fdiv 256).fmod 256, n.fmod 256]
def kb : Vl → List Int
  | .no => [0]
  | .bl b => [1, if b then 1 else 0]
  | .nt i => 2 :: four (i + 1000000000)
  | .tx cs => 3 :: (cs.map cix ++ [0])
theorem cset_or {c : Nat} (h : c ∈ cset) : c = 32 ∨ c = 48 ∨ c = 57 ∨ c = 97 ∨ c = 98 ∨ c = 122 := by simpa [cset] using h
abbrev SGN : Str := " 0123456789_abcdefghijklmnopqrstuvwxyz'(),.*+-=<>\x0a!\"#$&/:;?@ABCDEFGHIJKLMNOPQRSTUVWXYZ[\\]^`{|}~"
theorem ix_sgn {c : Nat} (h : c ∈ cset) : dIndex (.str SGN) (.str (ch c)) = some (.int (cix c - 1)) := by
  rcases cset_or h with rfl | rfl | rfl | rfl | rfl | rfl <;> exact index_e (by decide +kernel)
theorem ix_key {c : Nat} (h : c ∈ cset) : dIndex (.str " 0123456789_abcdefghijklmnopqrstuvwxyz") (.str (ch c)) = some (.int (cix c - 1)) := by
  rcases cset_or h with rfl | rfl | rfl | rfl | rfl | rfl <;> exact index_e (by decide +kernel)
theorem sgn_ix {c : Nat} (h : c ∈ cset) : dIx (.str SGN) (.int (cix c - 1)) = some (.str (ch c)) := by
  rcases cset_or h with rfl | rfl | rfl | rfl | rfl | rfl <;> rfl
theorem cix_lo {c : Nat} (h : c ∈ cset) : 0 < cix c ∧ cix c ≤ 38 := by
  rcases cset_or h with rfl | rfl | rfl | rfl | rfl | rfl <;> decide
theorem cix_lt {c d : Nat} (h : c ∈ cset) (h' : d ∈ cset) : cix c < cix d ↔ c < d := by
  rcases cset_or h with rfl | rfl | rfl | rfl | rfl | rfl <;> rcases cset_or h' with rfl | rfl | rfl | rfl | rfl | rfl <;> decide
theorem cix_eq {c d : Nat} (h : c ∈ cset) (h' : d ∈ cset) : cix c = cix d ↔ c = d := by
  rcases cset_or h with rfl | rfl | rfl | rfl | rfl | rfl <;> rcases cset_or h' with rfl | rfl | rfl | rfl | rfl | rfl <;> decide
/-! the functions -/
theorem four_e (z : Int) : F_four_bytes [.int z] = some (iL (four z)) := rfl
theorem its_e {G : Type} {env : Pd.Env} {g : G} {cs : List Nat} {i : Nat} (h : mVar i env g = some (.str (tx cs), g)) : mItS (mVar i) env g = some (cs.map fun c => .str (ch c), g) := by
  unfold mItS
  rw [h]
  rfl
theorem key_no : F_key_bytes [.none] = some (iL [0]) := rfl
theorem key_bl (b : Bool) : F_key_bytes [.bool b] = some (iL [1, if b then 1 else 0]) := by cases b <;> rfl
theorem key_nt (i : Int) : F_key_bytes [.int i] = some (iL (2 :: four (i + 1000000000))) := by
  refine runP_rl (N := 2) (n := 1) (m := m_key_bytes) (ds := [.int i]) (xs := [.int 2] ++ (four (i + 1000000000)).map .int) (seq_nx (if_no (opT_e rfl rfl rfl)) (seq_nx (if_no (tru_e (isi_e rfl rfl) rfl)) (seq_rl (if_t (tru_e (isi_e rfl rfl) rfl)
    (retF_e (cat_e rfl (call_e (cons_e (op_e rfl rfl rfl) nil_e) (four_e _)) ?_))))))
  show 1 + 4 ≤ sizeLine
  decide
theorem key_tx {cs : List Nat} (h : ∀ c ∈ cs, c ∈ cset) (hl : cs.length ≤ 4) : F_key_bytes [.str (tx cs)] = some (iL (3 :: (cs.map cix ++ [0]))) := by
  have e := runP_rl (N := 2) (n := 1) (m := m_key_bytes) (ds := [.str (tx cs)]) (xs := [.int 3] ++ (cs.map fun c => PyData.int (cix c)) ++ [.int 0])
    (seq_nx (if_no (opT_e rfl rfl rfl)) (seq_nx (if_no (tru_e (isi_e rfl rfl) rfl)) (seq_nx (if_no (tru_e (isi_e rfl rfl) rfl))
      (retF_e (cat_e (L_e (cat_e rfl (L_e (comp_e (its_e rfl) rfl (compL_mm (fun c => .str (ch c)) (fun c => .int (cix c)) fun c hc => ?_))) ?_)) rfl ?_)))))
  · refine e.trans ?_
    simp
  · exact ⟨_, rfl, op_e (m1_e rfl rfl (ix_sgn (h c hc))) rfl (by show some (PyData.int (cix c - 1 + 1)) = _; rw [Int.sub_add_cancel])⟩
  · show 1 + (cs.map _).length ≤ sizeLine
    rw [List.length_map, line_val]; omega
  · show ([PyData.int 3] ++ cs.map _).length + 1 ≤ sizeLine
    rw [List.length_append, List.length_map, line_val]
    show 1 + cs.length + 1 ≤ _
    omega
/-! reading back -/
theorem of_four_e (a b c d : Int) : F_of_four [iL [a, b, c, d]] = some (.int (((a * 256 + b) * 256 + c) * 256 + d)) :=
  runP_re (N := 1) (n := 1) (m := m_of_four) (ret_e (op_e (op_e (op_e (op_e (op_e (op_e rfl rfl rfl) rfl (mul_r (by decide))) (op_e rfl rfl rfl) rfl) rfl (mul_r (by decide))) (op_e rfl rfl rfl) rfl) rfl (mul_r (by decide)) |> fun h => op_e h (op_e rfl rfl rfl) rfl))
theorem rk_no {xs : List Int} {n : Nat} (h : xs[n]? = some 0) : F_read_key [iL xs, .int (n : Int)] = some (.tuple [.none, .int ((n : Int) + 1)]) :=
  runP_re (N := 6) (n := 2) (m := m_read_key) (seq_nx (set_e (mif_t (opT_e rfl (call_e (cons_e rfl nil_e) iL_len) (lt_t (get_lt h))) (op_e rfl rfl (iL_get h)))) (seq_re (if_t (opT_e rfl rfl (eq_it rfl)) (ret_e (tup_e (cons_e rfl (cons_e (op_e rfl rfl rfl) nil_e)))))))
theorem succ_i (n k : Nat) : (n : Int) + (k : Int) = ((n + k : Nat) : Int) := rfl
theorem rk_bl {xs : List Int} {n : Nat} {b : Int} (h : xs[n]? = some 1) (h1 : xs[n + 1]? = some b) (hb : b < 2) : F_read_key [iL xs, .int (n : Int)] = some (.tuple [.bool (b == 1), .int ((n : Int) + 2)]) :=
  runP_re (N := 6) (n := 2) (m := m_read_key) (seq_nx (set_e (mif_t (opT_e rfl (call_e (cons_e rfl nil_e) iL_len) (lt_t (get_lt h))) (op_e rfl rfl (iL_get h))))
    (seq_nx (if_no (opT_e rfl rfl (eq_if (by decide))))
    (seq_re (if_t (and_t (opT_e rfl rfl (eq_it rfl)) (and_t (opT_e (op_e rfl rfl rfl) (call_e (cons_e rfl nil_e) iL_len) (lt_t (get_lt h1))) (opT_e (op_e rfl (op_e rfl rfl rfl) (iL_get h1)) rfl (lt_t hb))))
      (ret_e (tup_e (cons_e (op_e (op_e rfl (op_e rfl rfl rfl) (iL_get h1)) rfl (eq_int _ _)) (cons_e (op_e rfl rfl rfl) nil_e))))))))
theorem rk_nt {xs : List Int} {n : Nat} {a b c d : Int} (h : xs[n]? = some 2) (h4 : n + 4 < xs.length) (hc : (xs.drop (n + 1)).take 4 = [a, b, c, d]) (hm : ((a * 256 + b) * 256 + c) * 256 + d - 1000000000 ≤ 1000000000) :
    F_read_key [iL xs, .int (n : Int)] = some (.tuple [.int (((a * 256 + b) * 256 + c) * 256 + d - 1000000000), .int ((n : Int) + 5)]) := by
  refine runP_re (N := 6) (n := 2) (m := m_read_key) (ds := [iL xs, .int (n : Int)]) (seq_nx (set_e (mif_t (opT_e rfl (call_e (cons_e rfl nil_e) iL_len) (lt_t (get_lt h))) (op_e rfl rfl (iL_get h))))
    (seq_nx (if_no (opT_e rfl rfl (eq_if (by decide))))
    (seq_nx (if_no (and_f (opT_e rfl rfl (eq_if (by decide)))))
    (seq_re (if_t (and_t (opT_e rfl rfl (eq_it rfl)) (opT_e (op_e rfl rfl rfl) (call_e (cons_e rfl nil_e) iL_len) (lt_t ?_)))
      (seq_nx (set_e (op_e (x := .int (((a * 256 + b) * 256 + c) * 256 + d)) (call_e (cons_e (L_e (slL_e rfl (part_e (op_e rfl rfl rfl)) (part_e (op_e rfl rfl rfl)))) nil_e) ?_) rfl rfl))
        (ret_e (mif_t (opT_e rfl rfl (le_t hm)) (tup_e (cons_e rfl (cons_e (op_e rfl rfl rfl) nil_e)))))))))))
  · omega
  · rw [show ((n : Int) + 1) = ((n + 1 : Nat) : Int) from rfl, show ((n : Int) + 5) = ((n + 5 : Nat) : Int) from rfl, cut_mid _ _ _ (by rw [List.length_map]; omega), show n + 5 - (n + 1) = 4 by omega, ← List.map_drop, ← List.map_take, hc]
    exact of_four_e a b c d
/-- nothing reads back -/
theorem rk_out {xs : List Int} {n : Nat} (h : xs.length ≤ n) : F_read_key [iL xs, .int (n : Int)] = some .none :=
  runP_re (N := 6) (n := 2) (m := m_read_key) (seq_nx (set_e (mif_f (opT_e rfl (call_e (cons_e rfl nil_e) iL_len) (lt_f (by omega))) rfl))
    (seq_nx (if_no (opT_e rfl rfl (eq_if (by decide))))
    (seq_nx (if_no (and_f (opT_e rfl rfl (eq_if (by decide)))))
    (seq_nx (if_no (and_f (opT_e rfl rfl (eq_if (by decide)))))
    (seq_nx (if_no (opT_e rfl rfl (eq_if (by decide)))) (ret_e rfl))))))
theorem rk_big {xs : List Int} {n : Nat} {k : Int} (h : xs[n]? = some k) (hk : k ≠ 0 ∧ k ≠ 1 ∧ k ≠ 2 ∧ k ≠ 3) : F_read_key [iL xs, .int (n : Int)] = some .none :=
  runP_re (N := 6) (n := 2) (m := m_read_key) (seq_nx (set_e (mif_t (opT_e rfl (call_e (cons_e rfl nil_e) iL_len) (lt_t (get_lt h))) (op_e rfl rfl (iL_get h))))
    (seq_nx (if_no (opT_e rfl rfl (eq_if hk.1)))
    (seq_nx (if_no (and_f (opT_e rfl rfl (eq_if hk.2.1))))
    (seq_nx (if_no (and_f (opT_e rfl rfl (eq_if hk.2.2.1))))
    (seq_nx (if_no (opT_e rfl rfl (eq_if hk.2.2.2))) (ret_e rfl))))))
theorem rk_bl_short {xs : List Int} {n : Nat} (h : xs[n]? = some 1) (h1 : xs.length = n + 1) : F_read_key [iL xs, .int (n : Int)] = some .none :=
  runP_re (N := 6) (n := 2) (m := m_read_key) (seq_nx (set_e (mif_t (opT_e rfl (call_e (cons_e rfl nil_e) iL_len) (lt_t (get_lt h))) (op_e rfl rfl (iL_get h))))
    (seq_nx (if_no (opT_e rfl rfl (eq_if (by decide))))
    (seq_nx (if_no (and_t (opT_e rfl rfl (eq_it rfl)) (and_f (opT_e (op_e rfl rfl rfl) (call_e (cons_e rfl nil_e) iL_len) (lt_f (by omega))))))
    (seq_nx (if_no (and_f (opT_e rfl rfl (eq_if (by decide)))))
    (seq_nx (if_no (opT_e rfl rfl (eq_if (by decide)))) (ret_e rfl))))))
theorem rk_bl_bad {xs : List Int} {n : Nat} {b : Int} (h : xs[n]? = some 1) (h1 : xs[n + 1]? = some b) (hb : ¬ b < 2) : F_read_key [iL xs, .int (n : Int)] = some .none :=
  runP_re (N := 6) (n := 2) (m := m_read_key) (seq_nx (set_e (mif_t (opT_e rfl (call_e (cons_e rfl nil_e) iL_len) (lt_t (get_lt h))) (op_e rfl rfl (iL_get h))))
    (seq_nx (if_no (opT_e rfl rfl (eq_if (by decide))))
    (seq_nx (if_no (and_t (opT_e rfl rfl (eq_it rfl)) (and_t (opT_e (op_e rfl rfl rfl) (call_e (cons_e rfl nil_e) iL_len) (lt_t (get_lt h1))) (opT_e (op_e rfl (op_e rfl rfl rfl) (iL_get h1)) rfl (lt_f hb)))))
    (seq_nx (if_no (and_f (opT_e rfl rfl (eq_if (by decide)))))
    (seq_nx (if_no (opT_e rfl rfl (eq_if (by decide)))) (ret_e rfl))))))
theorem rk_nt_short {xs : List Int} {n : Nat} (h : xs[n]? = some 2) (h4 : xs.length ≤ n + 4) : F_read_key [iL xs, .int (n : Int)] = some .none :=
  runP_re (N := 6) (n := 2) (m := m_read_key) (seq_nx (set_e (mif_t (opT_e rfl (call_e (cons_e rfl nil_e) iL_len) (lt_t (get_lt h))) (op_e rfl rfl (iL_get h))))
    (seq_nx (if_no (opT_e rfl rfl (eq_if (by decide))))
    (seq_nx (if_no (and_f (opT_e rfl rfl (eq_if (by decide)))))
    (seq_nx (if_no (and_t (opT_e rfl rfl (eq_it rfl)) (opT_e (op_e rfl rfl rfl) (call_e (cons_e rfl nil_e) iL_len) (lt_f (by omega)))))
    (seq_nx (if_no (opT_e rfl rfl (eq_if (by decide)))) (ret_e rfl))))))
theorem rk_nt_bad {xs : List Int} {n : Nat} {a b c d : Int} (h : xs[n]? = some 2) (h4 : n + 4 < xs.length) (hc : (xs.drop (n + 1)).take 4 = [a, b, c, d]) (hm : ¬ ((a * 256 + b) * 256 + c) * 256 + d - 1000000000 ≤ 1000000000) :
    F_read_key [iL xs, .int (n : Int)] = some .none := by
  refine runP_re (N := 6) (n := 2) (m := m_read_key) (ds := [iL xs, .int (n : Int)]) (seq_nx (set_e (mif_t (opT_e rfl (call_e (cons_e rfl nil_e) iL_len) (lt_t (get_lt h))) (op_e rfl rfl (iL_get h))))
    (seq_nx (if_no (opT_e rfl rfl (eq_if (by decide))))
    (seq_nx (if_no (and_f (opT_e rfl rfl (eq_if (by decide)))))
    (seq_re (if_t (and_t (opT_e rfl rfl (eq_it rfl)) (opT_e (op_e rfl rfl rfl) (call_e (cons_e rfl nil_e) iL_len) (lt_t ?_)))
      (seq_nx (set_e (op_e (x := .int (((a * 256 + b) * 256 + c) * 256 + d)) (call_e (cons_e (L_e (slL_e rfl (part_e (op_e rfl rfl rfl)) (part_e (op_e rfl rfl rfl)))) nil_e) ?_) rfl rfl))
        (ret_e (mif_f (opT_e rfl rfl (le_f hm)) rfl))))))))
  · omega
  · rw [show ((n : Int) + 1) = ((n + 1 : Nat) : Int) from rfl, show ((n : Int) + 5) = ((n + 5 : Nat) : Int) from rfl, cut_mid _ _ _ (by rw [List.length_map]; omega), show n + 5 - (n + 1) = 4 by omega, ← List.map_drop, ← List.map_take, hc]
    exact of_four_e a b c d
/-- the loop over a text's bytes -/
theorem rk_loop {xs : List Int} {n : Nat} : ∀ {k j : Nat}, (∀ i, j ≤ i → i < j + k → ∃ c, xs[i]? = some c ∧ 0 < c ∧ c ≤ 38) → (xs.length = j + k ∨ ∃ c, xs[j + k]? = some c ∧ ¬ (0 < c ∧ c ≤ 38)) →
    whileN wt_read_key_1 wb_read_key_2 (k + 1) [SV.sh (iL xs), .sh (.int (n : Int)), .sh (.int 3), .un, .sh (.int (j : Int)), .un] () = some (.nx, [SV.sh (iL xs), .sh (.int (n : Int)), .sh (.int 3), .un, .sh (.int ((j + k : Nat) : Int)), .un], ())
  | 0, j, _, h => by
    rcases h with h | ⟨c, h, hc⟩
    · exact wn_f (and_f (opT_e rfl (call_e (cons_e rfl nil_e) iL_len) (lt_f (by omega))))
    · refine wn_f (and_t (opT_e rfl (call_e (cons_e rfl nil_e) iL_len) (lt_t (get_lt h))) ?_)
      by_cases h0 : 0 < c
      · exact chain_t rfl (op_e rfl rfl (iL_get h)) (lt_t h0) rfl (le_f fun z => hc ⟨h0, z⟩)
      · exact chain_f rfl (op_e rfl rfl (iL_get h)) (lt_f h0)
  | k + 1, j, h1, h2 => by
    obtain ⟨c, hc, c1, c2⟩ := h1 j (Nat.le_refl _) (by omega)
    refine wn_t (and_t (opT_e rfl (call_e (cons_e rfl nil_e) iL_len) (lt_t (get_lt hc))) (chain_t rfl (op_e rfl rfl (iL_get hc)) (lt_t c1) rfl (le_t c2))) (set_e (op_e rfl rfl rfl)) ?_
    have := rk_loop (n := n) (k := k) (j := j + 1) (fun i hi hi2 => h1 i (by omega) (by omega)) (by rw [show j + 1 + k = j + (k + 1) by omega]; exact h2)
    rw [show j + 1 + k = j + (k + 1) by omega] at this
    exact this
theorem rk_tx_short {xs : List Int} {n k : Nat} (h : xs[n]? = some 3) (h1 : ∀ i, n + 1 ≤ i → i < n + 1 + k → ∃ c, xs[i]? = some c ∧ 0 < c ∧ c ≤ 38) (h2 : xs.length = n + 1 + k) : F_read_key [iL xs, .int (n : Int)] = some .none :=
  runP_re (N := 6) (n := 2) (m := m_read_key) (seq_nx (set_e (mif_t (opT_e rfl (call_e (cons_e rfl nil_e) iL_len) (lt_t (get_lt h))) (op_e rfl rfl (iL_get h))))
    (seq_nx (if_no (opT_e rfl rfl (eq_if (by decide))))
    (seq_nx (if_no (and_f (opT_e rfl rfl (eq_if (by decide)))))
    (seq_nx (if_no (and_f (opT_e rfl rfl (eq_if (by decide)))))
    (seq_nx (if_t (opT_e rfl rfl (eq_it rfl)) (seq_nx (set_e (op_e rfl rfl rfl)) (seq_nx (while_e (k + 1) (rk_loop (n := n) (j := n + 1) h1 (.inl h2))) (if_no (and_f (opT_e rfl (call_e (cons_e rfl nil_e) iL_len) (lt_f (by omega)))))))) (ret_e rfl))))))
theorem rk_tx_bad {xs : List Int} {n k : Nat} {c : Int} (h : xs[n]? = some 3) (h1 : ∀ i, n + 1 ≤ i → i < n + 1 + k → ∃ c, xs[i]? = some c ∧ 0 < c ∧ c ≤ 38) (h2 : xs[n + 1 + k]? = some c) (hc : 38 < c) : F_read_key [iL xs, .int (n : Int)] = some .none :=
  runP_re (N := 6) (n := 2) (m := m_read_key) (seq_nx (set_e (mif_t (opT_e rfl (call_e (cons_e rfl nil_e) iL_len) (lt_t (get_lt h))) (op_e rfl rfl (iL_get h))))
    (seq_nx (if_no (opT_e rfl rfl (eq_if (by decide))))
    (seq_nx (if_no (and_f (opT_e rfl rfl (eq_if (by decide)))))
    (seq_nx (if_no (and_f (opT_e rfl rfl (eq_if (by decide)))))
    (seq_nx (if_t (opT_e rfl rfl (eq_it rfl)) (seq_nx (set_e (op_e rfl rfl rfl)) (seq_nx (while_e (k + 1) (rk_loop (n := n) (j := n + 1) h1 (.inr ⟨c, h2, by omega⟩)))
      (if_no (and_t (opT_e rfl (call_e (cons_e rfl nil_e) iL_len) (lt_t (get_lt h2))) (opT_e (op_e rfl rfl (iL_get h2)) rfl (eq_if (by omega)))))))) (ret_e rfl))))))
theorem join_ch {e : Str} {cs : List Nat} (he : e.length = 0) (hl : cs.length ≤ 16777216) : dJoin (.str e) (.list (cs.map fun c => .str (ch c))) = some (.str (tx cs)) := by
  have e1 : cs.map (fun c => PyData.str (ch c)) = (cs.map ch).map .str := by rw [List.map_map]; rfl
  rw [e1]
  show (strsD _).bind _ = _
  rw [strsD_map]
  have e2 : ((cs.map ch).map (·.length)).sum = cs.length := by
    induction cs with
    | nil => rfl
    | cons c cs ih => simp only [List.map_cons, List.sum_cons, List.length_cons]; rw [ih (by simp at hl; omega) (by rw [List.map_map]; rfl)]; show 1 + _ = _; omega
  have e3 : ((cs.map ch).map fun y => y.cps.toList).flatten = cs := by
    clear e1 e2 hl
    induction cs with
    | nil => rfl
    | cons c cs ih => simp only [List.map_cons, List.flatten_cons]; rw [ih]; rfl
  show (if _ then _ else none) = _
  rw [if_pos ⟨by rw [e2, he]; omega, he⟩, e3]
  rfl
theorem rk_tx {xs : List Int} {n : Nat} {cs : List Nat} (h : xs[n]? = some 3) (hc : ∀ c ∈ cs, c ∈ cset) (hl : cs.length ≤ 4) (h1 : (xs.drop (n + 1)).take cs.length = cs.map cix) (h2 : xs[n + 1 + cs.length]? = some 0) :
    F_read_key [iL xs, .int (n : Int)] = some (.tuple [.str (tx cs), .int ((n : Int) + 2 + cs.length)]) := by
  have hin : ∀ i, n + 1 ≤ i → i < n + 1 + cs.length → ∃ c, xs[i]? = some c ∧ 0 < c ∧ c ≤ 38 := fun i hi hi2 => by
    have q : ((xs.drop (n + 1)).take cs.length)[i - (n + 1)]? = xs[i]? := by
      rw [List.getElem?_take_of_lt (by omega), List.getElem?_drop]
      congr 1; omega
    rw [h1, List.getElem?_map, List.getElem?_eq_getElem (by omega)] at q
    exact ⟨_, q.symm, cix_lo (hc _ (List.getElem_mem _))⟩
  have hlt := (List.getElem?_eq_some_iff.mp h2).1
  have er : (n : Int) + 2 + cs.length = ((n + 1 + cs.length : Nat) : Int) + 1 := by omega
  rw [er]
  refine runP_re (N := 6) (n := 2) (m := m_read_key) (ds := [iL xs, .int (n : Int)]) (u := ()) (seq_nx (set_e (mif_t (opT_e rfl (call_e (cons_e rfl nil_e) iL_len) (lt_t (get_lt h))) (op_e rfl rfl (iL_get h))))
    (seq_nx (if_no (opT_e rfl rfl (eq_if (by decide))))
    (seq_nx (if_no (and_f (opT_e rfl rfl (eq_if (by decide)))))
    (seq_nx (if_no (and_f (opT_e rfl rfl (eq_if (by decide)))))
    (seq_re (if_t (opT_e rfl rfl (eq_it rfl)) (seq_nx (set_e (op_e rfl rfl rfl)) (seq_nx (while_e (cs.length + 1) (rk_loop (n := n) (j := n + 1) hin (.inr ⟨0, h2, by decide⟩)))
      (if_t (and_t (opT_e rfl (call_e (cons_e rfl nil_e) iL_len) (lt_t (get_lt h2))) (opT_e (op_e rfl rfl (iL_get h2)) rfl (eq_it rfl)))
        (ret_e (tup_e (cons_e (m1_e rfl (L_e (comp_e (ds := cs.map (fun c => PyData.int (cix c))) (itL_e (L_e ((slL_e rfl (part_e (op_e rfl rfl rfl)) (part_e rfl)).trans ?_))) rfl (compL_mm (fun c => .int (cix c)) (fun c => .str (ch c)) fun c hcc => ?_))) (join_ch rfl (by omega))) (cons_e (op_e rfl rfl rfl) nil_e)))))))))))))
  · rw [show ((n : Int) + 1) = ((n + 1 : Nat) : Int) from rfl, cut_mid _ _ _ (by rw [List.length_map]; omega), show n + 1 + cs.length - (n + 1) = cs.length by omega, ← List.map_drop, ← List.map_take, h1, List.map_map]
    rfl
  · exact ⟨_, rfl, op_e rfl (op_e rfl rfl rfl) (sgn_ix (hc c hcc))⟩
end K51

namespace K51
open PySem Pd
theorem lkey_no : F__law_key [.none] = some (iL [0]) := rfl
theorem lkey_bl (b : Bool) : F__law_key [.bool b] = some (iL [1, if b then 1 else 0]) := by cases b <;> rfl
theorem lkey_nt (i : Int) : F__law_key [.int i] = some (iL (2 :: four (i + 1000000000))) := by
  refine runP_rl (N := 4) (n := 1) (m := m__law_key) (ds := [.int i]) (u := ()) (xs := [.int 2] ++ (four (i + 1000000000)).map .int) (seq_nx (if_no (opT_e rfl rfl rfl)) (seq_nx (if_no (tru_e (isi_e rfl rfl) rfl)) (seq_rl (if_t (tru_e (isi_e rfl rfl) rfl)
    (seq_nx (set_e (op_e (z := .int (i + 1000000000)) rfl (op_e (z := .int 1000000000) rfl rfl rfl) rfl)) (retF_e (cat_e rfl (L_e (comp_e (itL_e (L_e (lst_e rfl))) rfl ?_)) ?_)))))))
  · have st : ∀ (k p : Int) (e : Pd.Env), dShl (.int 1) (.int (8 * k)) = some (.int p) → p ≠ 0 ∧ p.natAbs < 1073741824 → e.at 1 = .sh (.int (i + 1000000000)) → e.at 2 = .sh (.int k) → mOp dMod (mOp dDiv (mVar 1) (mOp dShl (mC (PyData.int 1)) (mOp dMul (mC (PyData.int 8)) (mVar 2)))) (mC (PyData.int 256)) e () = some (.int (((i + 1000000000).fdiv p).fmod 256), ()) :=
      fun k p e h1 h2 e1 e2 => op_e (op_e (var_e e1) (op_e rfl (op_e rfl (var_e e2) (mul_l (by decide))) h1) (div_e h2)) rfl rfl
    refine compL_cons rfl (st 3 16777216 _ rfl (by decide) rfl rfl) (compL_cons rfl (st 2 65536 _ rfl (by decide) rfl rfl) (compL_cons rfl (st 1 256 _ rfl (by decide) rfl rfl) (compL_cons rfl ((st 0 1 _ rfl (by decide) rfl rfl).trans ?_) compL_nil)))
    rw [Int.fdiv_one]
  · show 1 + 4 ≤ sizeLine
    decide
theorem lkey_tx {cs : List Nat} (h : ∀ c ∈ cs, c ∈ cset) (hl : cs.length ≤ 4) : F__law_key [.str (tx cs)] = some (iL (3 :: (cs.map cix ++ [0]))) := by
  have e := runP_rl (N := 4) (n := 1) (m := m__law_key) (ds := [.str (tx cs)]) (xs := [.int 3] ++ (cs.map fun c => PyData.int (cix c)) ++ [.int 0])
    (seq_nx (if_no (opT_e rfl rfl rfl)) (seq_nx (if_no (tru_e (isi_e rfl rfl) rfl)) (seq_nx (if_no (tru_e (isi_e rfl rfl) rfl))
      (retF_e (cat_e (L_e (cat_e rfl (L_e (comp_e (its_e rfl) rfl (compL_mm (fun c => .str (ch c)) (fun c => .int (cix c)) fun c hc => ?_))) ?_)) rfl ?_)))))
  · refine e.trans ?_
    simp
  · exact ⟨_, rfl, op_e (m1_e rfl rfl (ix_key (h c hc))) rfl (by show some (PyData.int (cix c - 1 + 1)) = _; rw [Int.sub_add_cancel])⟩
  · show 1 + (cs.map _).length ≤ sizeLine
    rw [List.length_map, line_val]; omega
  · show ([PyData.int 3] ++ cs.map _).length + 1 ≤ sizeLine
    rw [List.length_append, List.length_map, line_val]
    show 1 + cs.length + 1 ≤ _
    omega
theorem key_e {k : Int} {v : Vl} (h : v.Ok k) : F_key_bytes [v.d] = some (iL (kb v)) := by
  cases v with
  | no => exact key_no
  | bl b => exact key_bl b
  | nt i => exact key_nt i
  | tx cs => exact key_tx h.2.2.2 h.2.2.1
theorem lkey_e {k : Int} {v : Vl} (h : v.Ok k) : F__law_key [v.d] = some (iL (kb v)) := by
  cases v with
  | no => exact lkey_no
  | bl b => exact lkey_bl b
  | nt i => exact lkey_nt i
  | tx cs => exact lkey_tx h.2.2.2 h.2.2.1
/-! the draws of a value -/
theorem drawn (g : Dr) (k : Int) (i : Nat) {m : Int} (hm : 0 < m ∧ m < 1073741824) {e : Pd.Env} (he : e.at i = .st) : ∃ j g1, mCallG drawA (gConsS i (gCons (mC (.int m)) gNil)) e g = some (.int j, g1) ∧ 0 ≤ j ∧ j < m := by
  obtain ⟨j, g1, h1, h2⟩ := draw_ev g hm
  refine ⟨j, g1, ?_, h2⟩
  refine callG_e (as := [.st, .sh (.int m)]) (g1 := g) ?_ h1
  unfold gConsS
  rw [he]
  rfl
theorem value_e (g : Dr) (k : Int) : ∃ v : Vl, ∃ g1, F__law_value [.st, .sh (.int k)] g = some (v.d, g1) ∧ v.Ok k := by
  obtain ⟨j, g1, e1, j0, j1⟩ := drawn g 0 0 (m := 6) (by decide) (e := startE 3 [.st, .sh (.int k)]) rfl
  by_cases hj : j = 0
  · exact ⟨.no, g1, runG_re (seq_re (if_t (opT_e e1 rfl (eq_it hj)) rfl)), trivial⟩
  have s1 : ∀ {r}, _ → F__law_value [.st, .sh (.int k)] g = r := fun {r} (h : runG 3 2 m__law_value [.st, .sh (.int k)] g = r) => h
  by_cases k0 : k = 0
  · obtain ⟨b, g2, e2, b0, b1⟩ := drawn g1 0 0 (m := 2) (by decide) (e := startE 3 [.st, .sh (.int k)]) rfl
    have hb : b = 0 ∨ b = 1 := by omega
    rcases hb with rfl | rfl
    · exact ⟨.bl false, g2, runG_re (seq_nx (if_no (opT_e e1 rfl (eq_if hj))) (seq_re (if_t (opT_e rfl rfl (eq_it k0)) (ret_e (op_e rfl e2 rfl))))), k0⟩
    · exact ⟨.bl true, g2, runG_re (seq_nx (if_no (opT_e e1 rfl (eq_if hj))) (seq_re (if_t (opT_e rfl rfl (eq_it k0)) (ret_e (op_e rfl e2 rfl))))), k0⟩
  by_cases k1 : k = 1
  · obtain ⟨b, g2, e2, b0, b1⟩ := drawn g1 0 0 (m := 6) (by decide) (e := startE 3 [.st, .sh (.int k)]) rfl
    obtain ⟨c, g3, e3, c0, c1⟩ := drawn g2 0 0 (m := 2) (by decide) (e := startE 3 [.st, .sh (.int k)]) rfl
    have hx : ∃ x, dIx (.list [.int 0, .int 255, .int 256, .int 1000000000, .int 65536, .int 1]) (.int b) = some (.int x) ∧ 0 ≤ x ∧ x ≤ 1000000000 := by
      have : b = 0 ∨ b = 1 ∨ b = 2 ∨ b = 3 ∨ b = 4 ∨ b = 5 := by omega
      rcases this with rfl | rfl | rfl | rfl | rfl | rfl
      · exact ⟨0, rfl, by decide⟩
      · exact ⟨255, rfl, by decide⟩
      · exact ⟨256, rfl, by decide⟩
      · exact ⟨1000000000, rfl, by decide⟩
      · exact ⟨65536, rfl, by decide⟩
      · exact ⟨1, rfl, by decide⟩
    have hy : ∃ y, dIx (.list [.int 1, .int (-1)]) (.int c) = some (.int y) ∧ (y = 1 ∨ y = -1) := by
      have : c = 0 ∨ c = 1 := by omega
      rcases this with rfl | rfl
      · exact ⟨1, rfl, by decide⟩
      · exact ⟨-1, rfl, by decide⟩
    obtain ⟨x, ex, x0, x1⟩ := hx
    obtain ⟨y, ey, hy⟩ := hy
    refine ⟨.nt (x * y), g3, runG_re (seq_nx (if_no (opT_e e1 rfl (eq_if hj))) (seq_nx (if_no (opT_e rfl rfl (eq_if k0))) (seq_re (if_t (opT_e rfl rfl (eq_it k1)) (ret_e (op_e
      (op_e (L_e (lst_e (cons_e rfl (cons_e rfl (cons_e rfl (cons_e (op_e rfl rfl rfl) (cons_e rfl (cons_e rfl nil_e)))))))) e2 ex)
      (op_e (L_e (lst_e (cons_e rfl (cons_e (op_e rfl rfl rfl) nil_e)))) e3 ey) (mul_l ⟨by omega, by omega⟩))))))), k1, ?_⟩
    rcases hy with rfl | rfl <;> omega
  · obtain ⟨n, g2, e2, n0, n1⟩ := drawn g1 0 0 (m := 5) (by decide) (e := startE 3 [.st, .sh (.int k)]) rfl
    have hc : ∀ (env : Pd.Env) (he : env.at 0 = .st) (l : List D) (g : Dr), ∃ (cs : List Nat) (g3 : Dr), compL (bName 2) mYes (mOp dIx (mC (.str " 09abz")) (mCallG drawA (gConsS 0 (gCons (mC (.int 6)) gNil)))) env l g = some (cs.map (fun c => PyData.str (ch c)), g3) ∧ cs.length = l.length ∧ ∀ c ∈ cs, c ∈ cset := by
      intro env he l
      induction l with
      | nil => exact fun g => ⟨[], g, rfl, rfl, fun _ h => nomatch h⟩
      | cons d l ih =>
        intro g
        obtain ⟨b, g2, e2, b0, b1⟩ := drawn g 0 0 (m := 6) (by decide) (e := env.set 2 (.sh d)) (by rw [at_set, if_neg (by simp)]; exact he)
        have hx : ∃ c, dIx (.str " 09abz") (.int b) = some (.str (ch c)) ∧ c ∈ cset := by
          have : b = 0 ∨ b = 1 ∨ b = 2 ∨ b = 3 ∨ b = 4 ∨ b = 5 := by omega
          rcases this with rfl | rfl | rfl | rfl | rfl | rfl
          · exact ⟨32, rfl, by decide⟩
          · exact ⟨48, rfl, by decide⟩
          · exact ⟨57, rfl, by decide⟩
          · exact ⟨97, rfl, by decide⟩
          · exact ⟨98, rfl, by decide⟩
          · exact ⟨122, rfl, by decide⟩
        obtain ⟨c, hc, hcs⟩ := hx
        obtain ⟨cs, g3, q1, q2, q3⟩ := ih g2
        refine ⟨c :: cs, g3, ?_, by rw [List.length_cons, List.length_cons, q2], fun x hx => ?_⟩
        · unfold compL
          show (match mYes (env.set 2 (.sh d)) g with | _ => _) = _
          dsimp only [mYes, bName]
          rw [op_e rfl e2 hc]
          dsimp only
          rw [q1]
          rfl
        · rcases List.mem_cons.mp hx with e | e
          · rw [e]; exact hcs
          · exact q3 x e
    obtain ⟨cs, g3, e3, q2, q3⟩ := hc ((startE 3 [SV.st, .sh (.int k)]).wipe [2]) rfl (rng 0 n.toNat) g2
    rw [rng_len] at q2
    exact ⟨.tx cs, g3, runG_re (seq_nx (if_no (opT_e e1 rfl (eq_if hj))) (seq_nx (if_no (opT_e rfl rfl (eq_if k0))) (seq_nx (if_no (opT_e rfl rfl (eq_if k1))) (ret_e (m1_e rfl (L_e (comp_e (rng1_e (cons_e e2 nil_e) (by omega)) rfl e3)) (join_ch rfl (by omega))))))), k0, k1, by omega, q3⟩
/-! order -/
theorem fdiv_e {n : Int} {m : Int} (h : 0 < m) : n.fdiv m = n / m := Int.fdiv_eq_ediv_of_nonneg _ (by omega)
theorem fmod_e {n : Int} {m : Int} (h : 0 < m) : n.fmod m = n % m := Int.fmod_eq_emod_of_nonneg _ (by omega)
theorem four_eq (n : Int) : four n = [n / 16777216 % 256, n / 65536 % 256, n / 256 % 256, n % 256] := by
  unfold four
  rw [fdiv_e (by decide), fdiv_e (by decide), fdiv_e (by decide), fmod_e (by decide), fmod_e (by decide), fmod_e (by decide), fmod_e (by decide)]
theorem four_nest {n : Int} (hn : 0 ≤ n ∧ n < 4294967296) : ∃ q1 q2 q3 r0 r1 r2 : Int, four n = [q3, r2, r1, r0] ∧ n = 256 * q1 + r0 ∧ q1 = 256 * q2 + r1 ∧ q2 = 256 * q3 + r2 ∧ 0 ≤ r0 ∧ r0 < 256 ∧ 0 ≤ r1 ∧ r1 < 256 ∧ 0 ≤ r2 ∧ r2 < 256 ∧ 0 ≤ q3 ∧ q3 < 256 := by
  have e2 : n / 65536 = n / 256 / 256 := by omega
  have e3 : n / 16777216 = n / 256 / 256 / 256 := by omega
  refine ⟨n / 256, n / 256 / 256, n / 256 / 256 / 256, n % 256, n / 256 % 256, n / 256 / 256 % 256, ?_, by omega, by omega, by omega, by omega, by omega, by omega, by omega, by omega, by omega, by omega, by omega⟩
  rw [four_eq, e2, e3, Int.emod_eq_of_lt (a := n / 256 / 256 / 256) (by omega) (by omega)]
theorem cons_lt {a b : Int} {l m : List Int} : (a :: l < b :: m) ↔ a < b ∨ a = b ∧ l < m := List.cons_lt_cons_iff
theorem nil_lt (l : List Int) : ¬ l < [] := List.not_lt_nil _
theorem four_lt {n m : Int} (hn : 0 ≤ n ∧ n < 4294967296) (hm : 0 ≤ m ∧ m < 4294967296) : four n < four m ↔ n < m := by
  obtain ⟨q1, q2, q3, r0, r1, r2, e, h⟩ := four_nest hn
  obtain ⟨p1, p2, p3, t0, t1, t2, e', h'⟩ := four_nest hm
  rw [e, e']
  simp only [cons_lt]
  have := nil_lt []
  simp only [this, and_false, or_false]
  omega
theorem four_inj {n m : Int} (hn : 0 ≤ n ∧ n < 4294967296) (hm : 0 ≤ m ∧ m < 4294967296) : four n = four m ↔ n = m := by
  obtain ⟨q1, q2, q3, r0, r1, r2, e, h⟩ := four_nest hn
  obtain ⟨p1, p2, p3, t0, t1, t2, e', h'⟩ := four_nest hm
  constructor
  · intro z
    rw [e, e'] at z
    simp only [List.cons.injEq, and_true] at z
    omega
  · rintro rfl; rfl
theorem tx_lt : ∀ {cs ds : List Nat}, (∀ c ∈ cs, c ∈ cset) → (∀ c ∈ ds, c ∈ cset) → ((cs.map cix ++ [0] < ds.map cix ++ [0]) ↔ cs < ds)
  | [], [], _, _ => by decide
  | [], d :: ds, _, h => by
    have := (cix_lo (h d (by simp))).1
    simp only [List.map_nil, List.nil_append, List.map_cons, List.cons_append, cons_lt]
    exact ⟨fun _ => List.nil_lt_cons d ds, fun _ => .inl this⟩
  | c :: cs, [], h, _ => by
    have := (cix_lo (h c (by simp))).1
    simp only [List.map_nil, List.nil_append, List.map_cons, List.cons_append, cons_lt]
    refine ⟨fun z => ?_, fun z => absurd z (List.not_lt_nil _)⟩
    rcases z with z | ⟨z, _⟩ <;> omega
  | c :: cs, d :: ds, h, h' => by
    simp only [List.map_cons, List.cons_append, cons_lt, List.cons_lt_cons_iff]
    rw [tx_lt (fun x hx => h x (by simp [hx])) (fun x hx => h' x (by simp [hx])), cix_lt (h c (by simp)) (h' d (by simp)), cix_eq (h c (by simp)) (h' d (by simp))]
/-- no key is the beginning of another -/
theorem tx_pre : ∀ {cs ds : List Nat} {r : List Int}, (∀ c ∈ cs, c ∈ cset) → (∀ c ∈ ds, c ∈ cset) → cs.map cix ++ [0] = ds.map cix ++ [0] ++ r → cs = ds
  | [], [], _, _, _, _ => rfl
  | [], d :: ds, r, _, h, e => by
    have := (cix_lo (h d (by simp))).1
    rw [List.map_cons, List.cons_append, List.map_nil, List.nil_append, List.cons_append] at e
    have e0 := (List.cons.inj e).1
    omega
  | c :: cs, [], r, h, _, e => by
    have := (cix_lo (h c (by simp))).1
    rw [List.map_cons, List.cons_append, List.map_nil, List.nil_append, List.cons_append] at e
    have e0 := (List.cons.inj e).1
    omega
  | c :: cs, d :: ds, r, h, h', e => by
    simp only [List.map_cons, List.cons_append, List.cons.injEq] at e
    rw [(cix_eq (h c (by simp)) (h' d (by simp))).mp e.1, tx_pre (r := r) (fun x hx => h x (by simp [hx])) (fun x hx => h' x (by simp [hx])) e.2]
theorem kb_pre {k : Int} {v w : Vl} {r : List Int} (hv : v.Ok k) (hw : w.Ok k) (e : kb v = kb w ++ r) : v = w := by
  cases v with
  | no => cases w <;> simp [kb] at e ⊢
  | bl b =>
    cases w with
    | bl c => cases b <;> cases c <;> simp [kb] at e ⊢
    | no => simp [kb] at e
    | nt j => simp [kb] at e
    | tx ds => simp [kb] at e
  | nt i =>
    cases w with
    | nt j =>
      have e1 : four (i + 1000000000) = four (j + 1000000000) ++ r := by simpa [kb] using e
      have hr : r = [] := by
        have := congrArg List.length e1
        rw [List.length_append] at this
        have h4 : ∀ n, (four n).length = 4 := fun _ => rfl
        rw [h4, h4] at this
        exact List.eq_nil_of_length_eq_zero (by omega)
      rw [hr, List.append_nil] at e1
      have := (four_inj (by have := hv.2; omega) (by have := hw.2; omega)).mp e1
      have : i = j := by omega
      rw [this]
    | no => simp [kb] at e
    | bl c => simp [kb] at e
    | tx ds => simp [kb] at e
  | tx cs =>
    cases w with
    | tx ds =>
      have e1 : cs.map cix ++ [0] = ds.map cix ++ [0] ++ r := by simpa [kb] using e
      rw [tx_pre hv.2.2.2 hw.2.2.2 e1]
    | no => simp [kb] at e
    | nt j => simp [kb] at e
    | bl c => simp [kb] at e
theorem kb_inj {k : Int} {v w : Vl} (hv : v.Ok k) (hw : w.Ok k) : kb v = kb w ↔ v = w := ⟨fun e => kb_pre (r := []) hv hw (by rw [e, List.append_nil]), fun e => by rw [e]⟩
def vlt : Vl → Vl → Bool
  | .no, .no => false
  | .no, _ => true
  | .bl b, .bl c => decide ((if b then (1 : Int) else 0) < if c then 1 else 0)
  | .nt i, .nt j => decide (i < j)
  | .tx cs, .tx ds => decide (cs < ds)
  | _, _ => false
theorem kb_lt {k : Int} {v w : Vl} (hv : v.Ok k) (hw : w.Ok k) : decide (kb v < kb w) = vlt v w := by
  cases v with
  | no =>
    cases w with
    | no => simp [kb, vlt]
    | _ => simp [kb, vlt, cons_lt]
  | bl b =>
    cases w with
    | no => simp [kb, vlt, cons_lt]
    | bl c => cases b <;> cases c <;> simp [kb, vlt, cons_lt]
    | nt j => exact absurd (hv.symm.trans hw.1) (by decide)
    | tx ds => exact absurd hv hw.1
  | nt i =>
    cases w with
    | no => simp [kb, vlt, cons_lt]
    | bl c => exact absurd (hw.symm.trans hv.1) (by decide)
    | nt j =>
      have h := four_lt (n := i + 1000000000) (m := j + 1000000000) (by have := hv.2; omega) (by have := hw.2; omega)
      refine decide_eq_decide.mpr ?_
      simp only [kb, cons_lt, h, true_and, Int.lt_irrefl, false_or]
      omega
    | tx ds => exact absurd hv.1 hw.2.1
  | tx cs =>
    cases w with
    | no => simp [kb, vlt, cons_lt]
    | bl c => exact absurd hw hv.1
    | nt j => exact absurd hw.1 hv.2.1
    | tx ds =>
      refine decide_eq_decide.mpr ?_
      simp only [kb, cons_lt]
      rw [tx_lt hv.2.2.2 hw.2.2.2]
      simp
theorem vkey_e (v : Vl) : F_value_key [v.d] = some (match v with | .no => .tuple [.int 0, .int 0] | v => .tuple [.int 1, v.d]) := by cases v <;> rfl
theorem vlt_e {k : Int} {v w : Vl} (hv : v.Ok k) (hw : w.Ok k) : ∃ x y, F_value_key [v.d] = some x ∧ F_value_key [w.d] = some y ∧ dLt x y = some (.bool (vlt v w)) := by
  refine ⟨_, _, vkey_e v, vkey_e w, ?_⟩
  cases v with
  | no =>
    cases w with
    | no => rw [lt_second (by rw [PySem.W.alike]) (by rw [PyData.depth]; decide) (by rw [PyData.depth]; decide), PySem.W.dataLt_int]; rfl
    | _ => exact lt_first (by decide)
  | bl b =>
    cases w with
    | no => exact lt_first (by decide)
    | bl c => 
      show dLt (.tuple [.int 1, .bool b]) (.tuple [.int 1, .bool c]) = _
      rw [lt_second (by rw [PySem.W.alike]) (by rw [PyData.depth]; decide) (by rw [PyData.depth]; decide), PySem.W.dataLt_bool]
      cases b <;> cases c <;> rfl
    | nt j => exact absurd (hv.symm.trans hw.1) (by decide)
    | tx ds => exact absurd hv hw.1
  | nt i =>
    cases w with
    | no => exact lt_first (by decide)
    | bl c => exact absurd (hw.symm.trans hv.1) (by decide)
    | nt j =>
      show dLt (.tuple [.int 1, .int i]) (.tuple [.int 1, .int j]) = _
      rw [lt_second (by rw [PySem.W.alike]) (by rw [PyData.depth]; decide) (by rw [PyData.depth]; decide), PySem.W.dataLt_int]
      rfl
    | tx ds => exact absurd hv.1 hw.2.1
  | tx cs =>
    cases w with
    | no => exact lt_first (by decide)
    | bl c => exact absurd hw hv.1
    | nt j => exact absurd hw.1 hv.2.1
    | tx ds =>
      show dLt (.tuple [.int 1, .str (tx cs)]) (.tuple [.int 1, .str (tx ds)]) = _
      rw [lt_second (by rw [PySem.W.alike]) (by rw [PyData.depth]; decide) (by rw [PyData.depth]; decide), PySem.W.dataLt_str]
      rfl
theorem vd_depth (v : Vl) : v.d.depth ≤ 64 := by cases v <;> (unfold Vl.d; rw [PyData.depth]; decide)
theorem tx_inj {cs ds : List Nat} : tx cs = tx ds ↔ cs = ds := by
  constructor
  · intro h
    have := congrArg (fun s => s.cps.toList) h
    simpa [tx] using this
  · rintro rfl; rfl
theorem veqv {k : Int} {v w : Vl} (hv : v.Ok k) (hw : w.Ok k) : PyData.eqv v.d w.d = decide (kb v = kb w) := by
  have hk : decide (kb v = kb w) = decide (v = w) := decide_eq_decide.mpr (kb_inj hv hw)
  rw [hk]
  cases v with
  | no => cases w <;> (unfold Vl.d; rw [PyData.eqv]; simp)
  | bl b =>
    cases w with
    | nt j => exact absurd (hv.symm.trans hw.1) (by decide)
    | _ => unfold Vl.d; rw [PyData.eqv]; simp [Bool.beq_eq_decide_eq]
  | nt i =>
    cases w with
    | bl c => exact absurd (hw.symm.trans hv.1) (by decide)
    | nt j =>
      unfold Vl.d; rw [PyData.eqv]
      by_cases h : i = j
      · subst h; simp
      · simp [h]
    | _ => unfold Vl.d; rw [PyData.eqv]; simp
  | tx cs =>
    cases w with
    | tx ds =>
      unfold Vl.d; rw [PyData.eqv]
      by_cases h : cs = ds
      · subst h; simp
      · simp [h, beq_false_of_ne (fun z => h (tx_inj.mp z))]
    | _ => unfold Vl.d; rw [PyData.eqv]; simp
end K51

namespace K51
open PySem Pd
/-! the law -/
theorem read_e {k : Int} {v : Vl} (hv : v.Ok k) : F_read_key [iL ([9] ++ kb v ++ [0]), .int 1] = some (.tuple [v.d, .int (1 + (kb v).length)]) := by
  cases v with
  | no => exact rk_no (n := 1) (xs := [9] ++ [0] ++ [0]) rfl
  | bl b =>
    cases b
    · exact rk_bl (n := 1) (xs := [9] ++ [1, 0] ++ [0]) (b := 0) rfl rfl (by decide)
    · exact rk_bl (n := 1) (xs := [9] ++ [1, 1] ++ [0]) (b := 1) rfl rfl (by decide)
  | nt i =>
    obtain ⟨q1, q2, q3, r0, r1, r2, e, h⟩ := four_nest (n := i + 1000000000) (by have := hv.2; omega)
    have := rk_nt (n := 1) (xs := [9] ++ (2 :: four (i + 1000000000)) ++ [0]) (a := q3) (b := r2) (c := r1) (d := r0) rfl (by rw [e]; show 5 < 7; decide) (by rw [e]; rfl) (by have := hv.2; omega)
    rw [show ((q3 * 256 + r2) * 256 + r1) * 256 + r0 - 1000000000 = i by omega] at this
    exact this
  | tx cs =>
    have hz : ([9] ++ (3 :: (cs.map cix ++ [0])) ++ [0])[1 + 1 + cs.length]? = some (0 : Int) := by
      show (9 :: 3 :: (cs.map cix ++ [0] ++ [0]))[1 + 1 + cs.length]? = some (0 : Int)
      rw [show 1 + 1 + cs.length = cs.length + 1 + 1 by omega, List.getElem?_cons_succ, List.getElem?_cons_succ, List.append_assoc, List.getElem?_append_right (by rw [List.length_map]; omega), List.length_map, Nat.sub_self]
      rfl
    have := rk_tx (n := 1) (xs := [9] ++ (3 :: (cs.map cix ++ [0])) ++ [0]) (cs := cs) rfl hv.2.2.2 hv.2.2.1 (by simp [List.take_left']) hz
    refine this.trans ?_
    have e : ((1 : Nat) : Int) + 2 + cs.length = 1 + ((kb (.tx cs)).length : Int) := by
      show _ = 1 + (((3 : Int) :: (cs.map cix ++ [0])).length : Int)
      rw [List.length_cons, List.length_append, List.length_map, List.length_singleton]
      omega
    rw [e]
    rfl
theorem cut_short {k : Int} {v : Vl} (hv : v.Ok k) : F_read_key [iL (kb v).dropLast, .int 0] = some .none := by
  cases v with
  | no => exact rk_out (n := 0) (xs := []) (by decide)
  | bl b => exact rk_bl_short (n := 0) (xs := [1]) rfl rfl
  | nt i => exact rk_nt_short (n := 0) (xs := (2 :: four (i + 1000000000)).dropLast) rfl (by show 4 ≤ 4; decide)
  | tx cs =>
    have e : (kb (.tx cs)).dropLast = 3 :: cs.map cix := by
      show ((3 : Int) :: (cs.map cix ++ [0])).dropLast = _
      rw [← List.cons_append, List.dropLast_concat]
    rw [e]
    refine rk_tx_short (n := 0) (k := cs.length) (xs := 3 :: cs.map cix) rfl (fun i h1 h2 => ?_) (by rw [List.length_cons, List.length_map]; omega)
    obtain ⟨j, rfl⟩ : ∃ j, i = j + 1 := ⟨i - 1, by omega⟩
    rw [List.getElem?_cons_succ, List.getElem?_map, List.getElem?_eq_getElem (by omega)]
    exact ⟨_, rfl, cix_lo (hv.2.2.2 _ (List.getElem_mem _))⟩
abbrev EV (k : Int) (vs : List Vl) (a b c d : SV) : Pd.Env := [.un, .st, .sh (.int k), .sh (.list (vs.map Vl.d)), .un, .sh (.list (vs.map fun v => iL (kb v))), .un, a, b, c, d, .un, .un]
theorem val_i {k : Int} {vs : List Vl} {a b c d : SV} {g : Dr} {s i : Nat} {v : Vl} (hs : (EV k vs a b c d).at s = .sh (.int i)) (hi : vs[i]? = some v) : mOp dIx (mVar 3) (mVar s) (EV k vs a b c d) g = some (v.d, g) :=
  op_e rfl (var_e hs) (ix_nat (by rw [List.getElem?_map, hi]; rfl))
theorem key_i {k : Int} {vs : List Vl} {a b c d : SV} {g : Dr} {s i : Nat} {v : Vl} (hs : (EV k vs a b c d).at s = .sh (.int i)) (hi : vs[i]? = some v) : mOp dIx (mVar 5) (mVar s) (EV k vs a b c d) g = some (iL (kb v), g) :=
  op_e rfl (var_e hs) (ix_nat (by rw [List.getElem?_map, hi]; rfl))
theorem pair_e {k : Int} {vs : List Vl} {i j : Nat} {v w : Vl} {c d : SV} {g : Dr} (hi : vs[i]? = some v) (hj : vs[j]? = some w) (hv : v.Ok k) (hw : w.Ok k) : lb_law_1 (EV k vs (.sh (.int i)) (.sh (.int j)) c d) g = some (.nx, EV k vs (.sh (.int i)) (.sh (.int j)) c d, g) := by
  have v7 : mOp dIx (mVar 3) (mVar 7) (EV k vs (.sh (.int i)) (.sh (.int j)) c d) g = some (v.d, g) := val_i rfl hi
  have v8 : mOp dIx (mVar 3) (mVar 8) (EV k vs (.sh (.int i)) (.sh (.int j)) c d) g = some (w.d, g) := val_i rfl hj
  have k7 : mOp dIx (mVar 5) (mVar 7) (EV k vs (.sh (.int i)) (.sh (.int j)) c d) g = some (iL (kb v), g) := key_i rfl hi
  have k8 : mOp dIx (mVar 5) (mVar 8) (EV k vs (.sh (.int i)) (.sh (.int j)) c d) g = some (iL (kb w), g) := key_i rfl hj
  obtain ⟨x, y, hx, hy, hxy⟩ := vlt_e hv hw
  refine seq_nx (if_no (or_f (opT_e (op_e k7 k8 (lt_iL _ _)) (op_e (call_e (cons_e v7 nil_e) hx) (call_e (cons_e v8 nil_e) hy) hxy) ?_) (opT_e (op_e k7 k8 (eq_iL _ _)) (op_e v7 v8 (eq_flat (vd_depth v) (vd_depth w))) ?_))) ?_
  · rw [kb_lt hv hw, ne_bb]; simp
  · rw [veqv hv hw, ne_bb]; simp
  · have sl : mSlL (mOp dIx (mVar 5) (mVar 7)) mNo (mPart (mCall dLen (mCons (mOp dIx (mVar 5) (mVar 8)) mNil))) (EV k vs (.sh (.int i)) (.sh (.int j)) c d) g = some (((kb v).take (kb w).length).map .int, g) := by
      rw [slL_e k7 rfl (part_e (call_e (cons_e k8 nil_e) iL_len)), cut_to, List.map_take]
    by_cases h : (kb v).take (kb w).length = kb w
    · have hvw : v = w := kb_pre (r := (kb v).drop (kb w).length) hv hw (by have q := (List.take_append_drop (kb w).length (kb v)).symm; rw [h] at q; exact q)
      refine if_no (and_t (opT_e (L_e sl) k8 ((eq_iL _ _).trans ?_)) (opT_e k7 k8 ((ne_iL _ _).trans ?_)))
      · rw [decide_eq_true h]
      · rw [decide_eq_true (by rw [hvw])]; rfl
    · refine if_no (and_f (opT_e (L_e sl) k8 ((eq_iL _ _).trans ?_)))
      rw [decide_eq_false h]
theorem isi_same {v : Vl} : ∃ b, isTy "bool" v.d = some b := by cases v <;> exact ⟨_, rfl⟩
theorem turn_e {k : Int} {vs : List Vl} (hvs : ∀ v ∈ vs, v.Ok k) (hl : vs.length < 100) {i : Nat} {v : Vl} {b c d : SV} {g : Dr} (hi : vs[i]? = some v) : ∃ b' c', lb_law_2 (EV k vs (.sh (.int i)) b c d) g = some (.nx, EV k vs (.sh (.int i)) b' c' d, g) := by
  have hv : v.Ok k := hvs v (List.mem_of_getElem? hi)
  have hil := (List.getElem?_eq_some_iff.mp hi).1
  have len : mCall dLen (mCons (mVar 3) mNil) (EV k vs (.sh (.int i)) b c d) g = some (.int vs.length, g) := call_e (cons_e rfl nil_e) (by rw [len_e, List.length_map])
  obtain ⟨e2, g2, h1, b', rfl, rfl⟩ := loop_inv (bt := bName 8) (mb := lb_law_1) (fun e g' => ∃ b', e = EV k vs (.sh (.int i)) b' c d ∧ g' = g) (ds := rng 0 vs.length) (env := EV k vs (.sh (.int i)) b c d) (g := g) ⟨b, rfl, rfl⟩ (by
    rintro x hx e g' ⟨b', rfl, rfl⟩
    obtain ⟨j, hj, rfl⟩ := rng_mem hx
    refine ⟨_, rfl, _, _, .inl (pair_e (v := v) (w := vs[j]) hi (List.getElem?_eq_getElem hj) hv (hvs _ (List.getElem_mem _))), _, rfl, rfl⟩)
  have v7 : ∀ c, mOp dIx (mVar 3) (mVar 7) (EV k vs (.sh (.int i)) b' c d) g2 = some (v.d, g2) := fun c => val_i rfl hi
  have k7 : ∀ c, mOp dIx (mVar 5) (mVar 7) (EV k vs (.sh (.int i)) b' c d) g2 = some (iL (kb v), g2) := fun c => key_i rfl hi
  obtain ⟨t, ht⟩ := isi_same (v := v)
  have klen : (kb v).length ≤ 10 := by
    cases v with
    | no => decide
    | bl b => show 2 ≤ 10; decide
    | nt i => show 5 ≤ 10; decide
    | tx cs =>
      show ((3 : Int) :: (cs.map cix ++ [0])).length ≤ 10
      rw [List.length_cons, List.length_append, List.length_map, List.length_singleton]
      have := hv.2.2.1
      omega
  have told : mCall F_read_key (mCons (mL (mCat (mL (mCat (mL (mLst (mCons (mC (.int 9)) mNil))) (mOp dIx (mVar 5) (mVar 7)))) (mL (mLst (mCons (mC (.int 0)) mNil))))) (mCons (mC (.int 1)) mNil)) (EV k vs (.sh (.int i)) b' c d) g2 = some (.tuple [v.d, .int (1 + (kb v).length)], g2) := by
    have rd := read_e hv
    refine call_e (cons_e (L_e (xs := ([9] ++ kb v ++ [0]).map .int) ?_) (cons_e rfl nil_e)) ?_
    case refine_2 => exact rd
    refine (cat_e (L_e (cat_e (xs := [.int 9]) rfl (k7 c) ?_)) (ys := [.int 0]) rfl ?_).trans ?_
    · rw [List.length_map, line_val, List.length_singleton]; omega
    · rw [List.length_append, List.length_map, line_val, List.length_singleton, List.length_singleton]; omega
    · rw [List.map_append, List.map_append]; rfl
  have last : ∀ c, mCall F_read_key (mCons (mL (mSlL (mOp dIx (mVar 5) (mVar 7)) mNo (mPart (mUn dNeg (mC (.int 1)))))) (mCons (mC (.int 0)) mNil)) (EV k vs (.sh (.int i)) b' c d) g2 = some (.none, g2) := fun c => by
    have rd := cut_short hv
    refine call_e (cons_e (L_e (xs := (kb v).dropLast.map .int) ((slL_e (k7 c) rfl (part_e (un_e (x := .int 1) (z := .int (-1)) rfl rfl))).trans ?_)) (cons_e rfl nil_e)) ?_
    case refine_2 => exact rd
    show some (cut _ none (some (-1)), g2) = _
    rw [cut_last, List.map_dropLast]
  refine ⟨b', .sh (.tuple [v.d, .int (1 + (kb v).length)]), seq_nx (for_e (rng1_e (cons_e len nil_e) (by omega)) h1) (seq_nx (set_e told) (seq_nx (if_no (or_f (opT_e rfl rfl rfl) (or_f (opT_e (op_e rfl rfl rfl) (v7 _) ?_) (or_f (opT_e (isi_e (op_e rfl rfl rfl) ht) (isi_e (v7 _) ht) ?_) (opT_e (op_e rfl rfl rfl) (op_e rfl (call_e (cons_e (k7 _) nil_e) iL_len) rfl) ?_)))))
    (if_no (opT_e (last _) rfl rfl))))⟩
  · rw [ne_flat (vd_depth v) (vd_depth v), veqv hv hv]; simp
  · rw [ne_bb]; simp
  · rw [ne_int]; simp
end K51
namespace K51
open PySem Pd
theorem number_e {n : Int} (hn : 0 ≤ n ∧ n < 4294967296) : F_of_four [iL (four n)] = some (.int n) := by
  obtain ⟨q1, q2, q3, r0, r1, r2, e, h⟩ := four_nest hn
  rw [e]
  refine (of_four_e q3 r2 r1 r0).trans ?_
  rw [show ((q3 * 256 + r2) * 256 + r1) * 256 + r0 = n by omega]
theorem four_top {n : Int} (hn : 0 ≤ n ∧ n < 4294967296) : four n = [n.fdiv 16777216, (n.fdiv 65536).fmod 256, (n.fdiv 256).fmod 256, n.fmod 256] := by
  unfold four
  congr 1
  rw [fdiv_e (by decide), fmod_e (by decide)]
  omega
theorem bad_e {d : D} (h : d ∈ [iL [4], iL [1, 2], iL [2, 255, 255, 255, 255], iL [3, 39, 0], iL [3, 5]]) : F_read_key [d, .int 0] = some .none := by
  have h : d = iL [4] ∨ d = iL [1, 2] ∨ d = iL [2, 255, 255, 255, 255] ∨ d = iL [3, 39, 0] ∨ d = iL [3, 5] := by simpa only [List.mem_cons, List.not_mem_nil, or_false] using h
  rcases h with rfl | rfl | rfl | rfl | rfl
  · exact rk_big (n := 0) (xs := [4]) (k := 4) rfl (by decide)
  · exact rk_bl_bad (n := 0) (xs := [1, 2]) (b := 2) rfl rfl (by decide)
  · exact rk_nt_bad (n := 0) (xs := [2, 255, 255, 255, 255]) rfl (by decide) rfl (by decide)
  · exact rk_tx_bad (n := 0) (k := 0) (xs := [3, 39, 0]) (c := 39) rfl (fun i h1 h2 => by omega) rfl (by decide)
  · refine rk_tx_short (n := 0) (k := 1) (xs := [3, 5]) rfl (fun i h1 h2 => ?_) rfl
    have : i = 1 := by omega
    subst this
    exact ⟨5, rfl, by decide⟩
theorem keys_self (vs : List Vl) : dNe (.list (vs.map fun v => iL (kb v))) (.list (vs.map fun v => iL (kb v))) = some (.bool false) := by
  refine ne_self ?_ ?_
  · rw [noDict]
    refine noDictA_of fun x hx => ?_
    obtain ⟨v, _, rfl⟩ := List.mem_map.mp hx
    exact noDict_iL _
  · refine Nat.le_trans (depth_list (n := 1) fun x hx => ?_) (by decide)
    obtain ⟨v, _, rfl⟩ := List.mem_map.mp hx
    exact depth_iL1 _
theorem law_true (g : Dr) : ∃ e g1, m_law (lawE n_law.length 1) g = some (.re (.bool true), e, g1) := by
  show Tr m_law (lawE n_law.length 1) g
  obtain ⟨k, g1, e1, k0, k1⟩ := drawn g 0 1 (m := 3) (by decide) (e := lawE n_law.length 1) rfl
  refine tr_seq (set_e e1) ?_
  obtain ⟨n, g2, e2, n0, n1⟩ := drawn g1 0 1 (m := 5) (by decide) (e := (lawE n_law.length 1).set 2 (.sh (.int k))) rfl
  obtain ⟨xs, g3, e3, hl, hx⟩ := compL_ex (bt := bName 4) (me := mCallG F__law_value (gConsS 1 (gCons (mVar 2) gNil))) (env := Pd.Env.wipe ((lawE n_law.length 1).set 2 (.sh (.int k))) [4]) (fun d => ∃ v : Vl, d = v.d ∧ v.Ok k) (ds := rng 0 (2 + n).toNat) (g := g2) (fun d _ g => by
    obtain ⟨v, g3, e, ok⟩ := value_e g k
    exact ⟨_, rfl, _, g3, callG_e rfl e, v, rfl, ok⟩)
  obtain ⟨vs, rfl, hvs⟩ := map_of hx
  rw [rng_len, List.length_map] at hl
  refine tr_seq (then_e (setF_e (comp_e (rng1_e (cons_e (op_e rfl e2 rfl) nil_e) (by omega)) rfl e3))) ?_
  refine tr_seq (then_e (setF_e (comp_e (itL_e rfl) rfl (compL_mm Vl.d (fun v => iL (kb v)) fun v hv => ⟨_, rfl, call_e rfl (key_e (hvs v hv))⟩)))) ?_
  refine tr_seq (if_no (opT_e rfl (L_e (comp_e (itL_e rfl) rfl (compL_mm Vl.d (fun v => iL (kb v)) fun v hv => ⟨_, rfl, call_e rfl (lkey_e (hvs v hv))⟩))) (keys_self vs))) ?_
  change Tr _ (EV k vs .un .un .un .un) g3
  obtain ⟨e4, g4, h4, a, b, c, rfl, rfl⟩ := loop_inv (bt := bName 7) (mb := lb_law_2) (fun e g' => ∃ a b c, e = EV k vs a b c .un ∧ g' = g3) (ds := rng 0 vs.length) (env := EV k vs .un .un .un .un) (g := g3) ⟨_, _, _, rfl, rfl⟩ (by
    rintro x hx e g' ⟨a, b, c, rfl, rfl⟩
    obtain ⟨j, hj, rfl⟩ := rng_mem hx
    obtain ⟨b', c', h⟩ := turn_e (b := b) (c := c) (d := .un) (g := g') hvs (by omega) (List.getElem?_eq_getElem hj)
    exact ⟨_, rfl, _, _, .inl h, _, b', c', rfl, rfl⟩)
  refine tr_seq (for_e (rng1_e (j := (vs.length : Int)) (cons_e (call_e (cons_e rfl nil_e) (by rw [len_e, List.length_map])) nil_e) (by omega)) h4) ?_
  obtain ⟨e5, g5, h5, d, rfl, rfl⟩ := loop_inv (bt := bName 10) (mb := lb_law_3) (fun e g' => ∃ d, e = EV k vs a b c d ∧ g' = g4) (ds := [iL [4], iL [1, 2], iL [2, 255, 255, 255, 255], iL [3, 39, 0], iL [3, 5]]) (env := EV k vs a b c .un) (g := g4) ⟨_, rfl, rfl⟩ (by
    rintro x hx e g' ⟨d, rfl, rfl⟩
    have h := bad_e hx
    refine ⟨_, rfl, EV k vs a b c (.sh x), _, .inl (if_no (opT_e (x := .none) (call_e (cons_e rfl (cons_e rfl nil_e)) ?_) rfl ?_)), _, rfl, rfl⟩
    case refine_1 => exact h
    rfl)
  refine tr_seq (for_e (itL_e (L_e (lst_e rfl))) h5) ?_
  obtain ⟨x, g6, e6, x0, x1⟩ := drawn g5 0 1 (m := 65536) (by decide) (e := EV k vs a b c d) rfl
  obtain ⟨y, g7, e7, y0, y1⟩ := drawn g6 0 1 (m := 65536) (by decide) (e := EV k vs a b c d) rfl
  refine tr_seq (set_e (op_e (op_e e6 rfl (mul_r (by decide))) e7 rfl)) ?_
  refine tr_seq (set_e (call_e (cons_e rfl nil_e) (four_e (x * 65536 + y)))) ?_
  have hn : 0 ≤ x * 65536 + y ∧ x * 65536 + y < 4294967296 := by omega
  refine tr_ret (g1 := g7) (band_t (op_e (g2 := g7) (y := iL (four (x * 65536 + y))) rfl ?_ (by rw [eq_iL]; simp)) (op_e (call_e (cons_e rfl nil_e) (number_e hn)) rfl (eq_it rfl)))
  rw [four_top hn]
  exact L_e (lst_e (cons_e (op_e rfl rfl rfl) (cons_e (op_e (op_e rfl rfl rfl) rfl rfl) (cons_e (op_e (op_e rfl rfl rfl) rfl rfl) (cons_e (op_e rfl rfl rfl) nil_e)))))
end K51

namespace K51
open PySem PySem.Spec L2 Pd
section
variable {P : Program} {wd : World} {K : PySem.W.Frag} {mg : Str → Option Value} {base : Heap}
theorem ok_law {f : Addr} {fd : FuncData} (F : Fun K "law" "law" s_law f fd) (T : Txt K mg) : FnOk P wd K mg base CX0 3 f fd ["script"] (spLaw K) := by
  refine F.ok sc_law (fun vs H Q E h => ?_) (fun cdv A outer s H vs Q E hr h => ?_)
  · obtain ⟨a, ns, rfl, _⟩ := h
    rfl
  · obtain ⟨a, ns, rfl, hS, hl, kk⟩ := h
    obtain ⟨f1, fd1, F1, hm, hk, hB⟩ := (ok__law_state T).ex
    refine ⟨_, pss_cons (ps_set (i := 1) sc_law.nd rfl (by first | exact Or.inl rfl | exact Or.inr rfl) (pe_call F1 (hr.mono (by decide)) rfl hm hk hB .nil pass0 (pa_cons (pv 0) pa_nil))) (body_law T f cdv A outer s H E hr), ?_⟩
    exact ⟨_, rfl, a, ns, rfl, hS, hl, fun g H' _ _ ok _ => law_start (N := n_law.length) (i := 1) rfl rfl ok (law_true g) fun H' => kk H'⟩
end
theorem all_mk {l : PySem.W.OpenLaw} {w : World} {K : PySem.W.Frag} {h : Heap} {mg : Str → Option Value} {fa : Addr} (X : K.In h) (G : h.Ns mainGlobals mg) (hfa : mg "law" = some (.ref fa))
    {tk0 : Tok}
    {tk1 : Tok}
    {tk2 : Tok}
    {f0 : Addr} {od0 an0 : Option Addr} {sl0 : Array (Option Value)} {oc0 kV0 dc0 pm0 cd0 ct0 : Value}
    {f1 : Addr} {od1 an1 : Option Addr} {sl1 : Array (Option Value)} {oc1 kV1 dc1 pm1 cd1 ct1 : Value}
    {f2 : Addr} {od2 an2 : Option Addr} {sl2 : Array (Option Value)} {oc2 kV2 dc2 pm2 cd2 ct2 : Value}
    {f3 : Addr} {od3 an3 : Option Addr} {sl3 : Array (Option Value)} {oc3 kV3 dc3 pm3 cd3 ct3 : Value}
    {f4 : Addr} {od4 an4 : Option Addr} {sl4 : Array (Option Value)} {oc4 kV4 dc4 pm4 cd4 ct4 : Value}
    {f5 : Addr} {od5 an5 : Option Addr} {sl5 : Array (Option Value)} {oc5 kV5 dc5 pm5 cd5 ct5 : Value}
    {f6 : Addr} {od6 an6 : Option Addr} {sl6 : Array (Option Value)} {oc6 kV6 dc6 pm6 cd6 ct6 : Value}
    {f7 : Addr} {od7 an7 : Option Addr} {sl7 : Array (Option Value)} {oc7 kV7 dc7 pm7 cd7 ct7 : Value}
    {f8 : Addr} {od8 an8 : Option Addr} {sl8 : Array (Option Value)} {oc8 kV8 dc8 pm8 cd8 ct8 : Value}
    {f9 : Addr} {od9 an9 : Option Addr} {sl9 : Array (Option Value)} {oc9 kV9 dc9 pm9 cd9 ct9 : Value}
    (e0 : PySem.W.nsIn K mainGlobals "KEY_SIGNS" = some (some (.int 38 tk0)))
    (e1 : PySem.W.nsIn K mainGlobals "MOST_NUMBER" = some (some (.int 1000000000 tk1)))
    (e2 : PySem.W.nsIn K mainGlobals "SIGNS" = some (some (.str " 0123456789_abcdefghijklmnopqrstuvwxyz'(),.*+-=<>\x0a!\"#$&/:;?@ABCDEFGHIJKLMNOPQRSTUVWXYZ[\\]^`{|}~" tk2)))
    (a0 : PySem.W.nsIn K mainGlobals "value_key" = some (some (.ref f0))) (l0 : K.lookup f0 = some ⟨oc0, od0, .func (PySem.W.fnOf "value_key" "value_key" (defArgs s_value_key) (defBody s_value_key) (defScope s_value_key) .none kV0 dc0 pm0 an0 cd0 ct0), sl0⟩) (c0 : PySem.W.codeIn K cd0 "value_key" = true) (k0 : PySem.W.keepIn K (.ref f0) = true)
    (a1 : PySem.W.nsIn K mainGlobals "four_bytes" = some (some (.ref f1))) (l1 : K.lookup f1 = some ⟨oc1, od1, .func (PySem.W.fnOf "four_bytes" "four_bytes" (defArgs s_four_bytes) (defBody s_four_bytes) (defScope s_four_bytes) .none kV1 dc1 pm1 an1 cd1 ct1), sl1⟩) (c1 : PySem.W.codeIn K cd1 "four_bytes" = true) (k1 : PySem.W.keepIn K (.ref f1) = true)
    (a2 : PySem.W.nsIn K mainGlobals "of_four" = some (some (.ref f2))) (l2 : K.lookup f2 = some ⟨oc2, od2, .func (PySem.W.fnOf "of_four" "of_four" (defArgs s_of_four) (defBody s_of_four) (defScope s_of_four) .none kV2 dc2 pm2 an2 cd2 ct2), sl2⟩) (c2 : PySem.W.codeIn K cd2 "of_four" = true) (k2 : PySem.W.keepIn K (.ref f2) = true)
    (a3 : PySem.W.nsIn K mainGlobals "key_bytes" = some (some (.ref f3))) (l3 : K.lookup f3 = some ⟨oc3, od3, .func (PySem.W.fnOf "key_bytes" "key_bytes" (defArgs s_key_bytes) (defBody s_key_bytes) (defScope s_key_bytes) .none kV3 dc3 pm3 an3 cd3 ct3), sl3⟩) (c3 : PySem.W.codeIn K cd3 "key_bytes" = true) (k3 : PySem.W.keepIn K (.ref f3) = true)
    (a4 : PySem.W.nsIn K mainGlobals "read_key" = some (some (.ref f4))) (l4 : K.lookup f4 = some ⟨oc4, od4, .func (PySem.W.fnOf "read_key" "read_key" (defArgs s_read_key) (defBody s_read_key) (defScope s_read_key) .none kV4 dc4 pm4 an4 cd4 ct4), sl4⟩) (c4 : PySem.W.codeIn K cd4 "read_key" = true) (k4 : PySem.W.keepIn K (.ref f4) = true)
    (a5 : PySem.W.nsIn K mainGlobals "_law_state" = some (some (.ref f5))) (l5 : K.lookup f5 = some ⟨oc5, od5, .func (PySem.W.fnOf "_law_state" "_law_state" (defArgs s__law_state) (defBody s__law_state) (defScope s__law_state) .none kV5 dc5 pm5 an5 cd5 ct5), sl5⟩) (c5 : PySem.W.codeIn K cd5 "_law_state" = true) (k5 : PySem.W.keepIn K (.ref f5) = true)
    (a6 : PySem.W.nsIn K mainGlobals "_law_take" = some (some (.ref f6))) (l6 : K.lookup f6 = some ⟨oc6, od6, .func (PySem.W.fnOf "_law_take" "_law_take" (defArgs s__law_take) (defBody s__law_take) (defScope s__law_take) .none kV6 dc6 pm6 an6 cd6 ct6), sl6⟩) (c6 : PySem.W.codeIn K cd6 "_law_take" = true) (k6 : PySem.W.keepIn K (.ref f6) = true)
    (a7 : PySem.W.nsIn K mainGlobals "_law_value" = some (some (.ref f7))) (l7 : K.lookup f7 = some ⟨oc7, od7, .func (PySem.W.fnOf "_law_value" "_law_value" (defArgs s__law_value) (defBody s__law_value) (defScope s__law_value) .none kV7 dc7 pm7 an7 cd7 ct7), sl7⟩) (c7 : PySem.W.codeIn K cd7 "_law_value" = true) (k7 : PySem.W.keepIn K (.ref f7) = true)
    (a8 : PySem.W.nsIn K mainGlobals "_law_key" = some (some (.ref f8))) (l8 : K.lookup f8 = some ⟨oc8, od8, .func (PySem.W.fnOf "_law_key" "_law_key" (defArgs s__law_key) (defBody s__law_key) (defScope s__law_key) .none kV8 dc8 pm8 an8 cd8 ct8), sl8⟩) (c8 : PySem.W.codeIn K cd8 "_law_key" = true) (k8 : PySem.W.keepIn K (.ref f8) = true)
    (a9 : PySem.W.nsIn K mainGlobals "law" = some (some (.ref f9))) (l9 : K.lookup f9 = some ⟨oc9, od9, .func (PySem.W.fnOf "law" "law" (defArgs s_law) (defBody s_law) (defScope s_law) .none kV9 dc9 pm9 an9 cd9 ct9), sl9⟩) (c9 : PySem.W.codeIn K cd9 "law" = true) (k9 : PySem.W.keepIn K (.ref f9) = true)
    (z0 : PySem.W.nsIn K mainGlobals "abs" = some none)
    (z1 : PySem.W.nsIn K mainGlobals "bool" = some none)
    (z2 : PySem.W.nsIn K mainGlobals "int" = some none)
    (z3 : PySem.W.nsIn K mainGlobals "isinstance" = some none)
    (z4 : PySem.W.nsIn K mainGlobals "len" = some none)
    (z5 : PySem.W.nsIn K mainGlobals "range" = some none) :
    ∃ fd : FuncData, (∀ (s : Shared) (v : Value), BindsTo s fd ⟨[v], []⟩ [("script", v)]) ∧ ∀ base : Heap, K.In base → base.Ns mainGlobals mg → FnOk l.prog w K mg base CX0 3 fa fd ["script"] (spLaw K) := by
  have e := hfa.symm.trans (PySem.W.mg_of X G a9)
  cases e
  have F0 := fun_mk (st := s_value_key) l0 c0 k0
  have F1 := fun_mk (st := s_four_bytes) l1 c1 k1
  have F2 := fun_mk (st := s_of_four) l2 c2 k2
  have F3 := fun_mk (st := s_key_bytes) l3 c3 k3
  have F4 := fun_mk (st := s_read_key) l4 c4 k4
  have F5 := fun_mk (st := s__law_state) l5 c5 k5
  have F6 := fun_mk (st := s__law_take) l6 c6 k6
  have F7 := fun_mk (st := s__law_value) l7 c7 k7
  have F8 := fun_mk (st := s__law_key) l8 c8 k8
  have T : Txt K mg := ⟨⟨⟨f0, _, F0, PySem.W.mg_of X G a0, F0.binds (ps := ["value"]) fun _ _ _ _ _ _ us hl => match us, hl with | [_], _ => rfl⟩⟩,
    ⟨⟨f1, _, F1, PySem.W.mg_of X G a1, F1.binds (ps := ["number"]) fun _ _ _ _ _ _ us hl => match us, hl with | [_], _ => rfl⟩⟩,
    ⟨⟨f2, _, F2, PySem.W.mg_of X G a2, F2.binds (ps := ["content"]) fun _ _ _ _ _ _ us hl => match us, hl with | [_], _ => rfl⟩⟩,
    ⟨⟨f3, _, F3, PySem.W.mg_of X G a3, F3.binds (ps := ["value"]) fun _ _ _ _ _ _ us hl => match us, hl with | [_], _ => rfl⟩⟩,
    ⟨⟨f4, _, F4, PySem.W.mg_of X G a4, F4.binds (ps := ["content", "at"]) fun _ _ _ _ _ _ us hl => match us, hl with | [_, _], _ => rfl⟩⟩,
    ⟨⟨f5, _, F5, PySem.W.mg_of X G a5, F5.binds (ps := ["script"]) fun _ _ _ _ _ _ us hl => match us, hl with | [_], _ => rfl⟩⟩,
    ⟨⟨f6, _, F6, PySem.W.mg_of X G a6, F6.binds (ps := ["state", "most"]) fun _ _ _ _ _ _ us hl => match us, hl with | [_, _], _ => rfl⟩⟩,
    ⟨⟨f7, _, F7, PySem.W.mg_of X G a7, F7.binds (ps := ["state", "kind"]) fun _ _ _ _ _ _ us hl => match us, hl with | [_, _], _ => rfl⟩⟩,
    ⟨⟨f8, _, F8, PySem.W.mg_of X G a8, F8.binds (ps := ["value"]) fun _ _ _ _ _ _ us hl => match us, hl with | [_], _ => rfl⟩⟩,
    Cst.int (PySem.W.mg_of X G e0),
    Cst.int (PySem.W.mg_of X G e1),
    Cst.str (PySem.W.mg_of X G e2) ⟨by decide +kernel, by decide +kernel⟩,
    PySem.W.mg_none_of X G z0,
    PySem.W.mg_none_of X G z1,
    PySem.W.mg_none_of X G z2,
    PySem.W.mg_none_of X G z3,
    PySem.W.mg_none_of X G z4,
    PySem.W.mg_none_of X G z5⟩
  have FL := fun_mk (st := s_law) l9 c9 k9
  exact ⟨PySem.W.fnOf "law" "law" (defArgs s_law) (defBody s_law) (defScope s_law) .none kV9 dc9 pm9 an9 cd9 ct9, fun s v => .of_eq rfl, fun base _ _ => ok_law FL T⟩
theorem walk {l : PySem.W.OpenLaw} {q : Program} {loose : List Str} {XP : (Str → Option Value) → Heap → Prop} {YP : World → Heap → Prop} {d : DefRec} {K : Params → PySem.W.Frag} (hn : l.most = some 63) (hdf : d.params.defaults = [])
    (hY : ∀ (w : World) (h : Heap), YP w h → (K w.params).In h)
    (F : ∀ (w : World) (mg : Str → Option Value) (fa : Addr) (h : Heap), (K w.params).In h → h.Ns mainGlobals mg → mg d.name = some (.ref fa) →
      ∃ fd : FuncData, (∀ (s : Shared) (u : Value), BindsTo s fd ⟨[u], []⟩ [("script", u)]) ∧ ∀ base : Heap, (K w.params).In base → base.Ns mainGlobals mg → FnOk l.prog w (K w.params) mg base CX0 3 fa fd ["script"] (spLaw (K w.params))) :
    PySem.W.WalkO q loose XP YP l.row.toRowW d [] (fun f vs => PySem.call f vs) :=
  L2.walk_of (n := 63) (k := 3) (x := "script") (CX := fun _ => CX0) (sp := fun w => spLaw (K w.params)) hn (by decide) hdf ⟨rfl, by decide, by decide⟩ hY F (fun _ _ a ns hl _ hS => ⟨a, ns, rfl, hS, hl, fun _ => rfl⟩) fun _ _ _ _ _ z => z
end K51
open PySem PySem.W PyProof.Rows
set_option maxRecDepth 100000 in
set_option maxHeartbeats 0 in
theorem PySem.Challenge.cw_plainserial_k51_whole_keys_in_order_holds : PySem.Challenge.rw_plainserial_k51_whole_keys_in_order.Holds := by
  w_on; o_law; k_head; (case hw => w_witness2)
  k_fill
  refine K51.walk (l := PySem.Challenge.rw_plainserial_k51_whole_keys_in_order) rfl rfl (fun w h Y => PySem.W.kIn_of Y) ?F
  case F =>
    intro w mg fa h KX G hmg
    refine' K51.all_mk KX G hmg ?e0 ?e1 ?e2 ?a0 ?l0 ?c0 ?k0 ?a1 ?l1 ?c1 ?k1 ?a2 ?l2 ?c2 ?k2 ?a3 ?l3 ?c3 ?k3 ?a4 ?l4 ?c4 ?k4 ?a5 ?l5 ?c5 ?k5 ?a6 ?l6 ?c6 ?k6 ?a7 ?l7 ?c7 ?k7 ?a8 ?l8 ?c8 ?k8 ?a9 ?l9 ?c9 ?k9 ?z0 ?z1 ?z2 ?z3 ?z4 ?z5
    (case e0 => k_is); (case e1 => k_is); (case e2 => k_is); (case a0 => k_is); (case l0 => k_is); (case c0 => k_is); (case k0 => k_is); (case a1 => k_is)
    (case l1 => k_is); (case c1 => k_is); (case k1 => k_is); (case a2 => k_is); (case l2 => k_is); (case c2 => k_is); (case k2 => k_is); (case a3 => k_is)
    (case l3 => k_is); (case c3 => k_is); (case k3 => k_is); (case a4 => k_is); (case l4 => k_is); (case c4 => k_is); (case k4 => k_is); (case a5 => k_is)
    (case l5 => k_is); (case c5 => k_is); (case k5 => k_is); (case a6 => k_is); (case l6 => k_is); (case c6 => k_is); (case k6 => k_is); (case a7 => k_is)
    (case l7 => k_is); (case c7 => k_is); (case k7 => k_is); (case a8 => k_is); (case l8 => k_is); (case c8 => k_is); (case k8 => k_is); (case a9 => k_is)
    (case l9 => k_is); (case c9 => k_is); (case k9 => k_is); (case z0 => k_is); (case z1 => k_is); (case z2 => k_is); (case z3 => k_is); (case z4 => k_is)
    (case z5 => k_is)
