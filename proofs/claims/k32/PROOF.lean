import PyProof.Rows.All
import Wide.All
import OpenK.AllK
import Wide.FinOn
import HandS.ForMost
import HandS.Evl
import HandS.IsInst
import HandS.Flow
import HandS.Style
import HandS.TupAny
import HandS.Deep
import KE.SortData
import KE.LtSeq
import KE.LtData
import HandS.TupLe
import PyProof.ReprRoads
import PyProof.ReprLen
import PyProof.ReprText
import HandS.TupSets
import HandS.SetFor
import HandS.Strs
import HandS.Dict
import PySem.Challenge.RW_plainserial_k32_whole_bounds
set_option Elab.async false
set_option linter.all false
set_option maxRecDepth 100000
set_option maxHeartbeats 4000000
/-! Pd: pure data over the hand layer: values that stand for PyData, local owned lists, a ghost state. -/
namespace Pd
open PySem PySem.Spec L2

abbrev D := PyData
/-- a text that may be compared, measured -/
def SOk (x : Str) : Prop := x.length ≤ sizeLine ∧ PyData.canLay0 (.str x) = true

/-! ### values that stand for data; what stands never changes -/
mutual
inductive Rp (K : PySem.W.Frag) (H : Hp) : V → D → Prop
  | non : Rp K H .non .none
  | bl (b : Bool) : Rp K H (.bl b) (.bool b)
  | int (i : Int) : Rp K H (.int i) (.int i)
  | str {x : Str} : SOk x → Rp K H (.str x) (.str x)
  | lst {a : Addr} {xs : List V} {ds : List D} : H a = some (.lst xs) → RpA K H xs ds → ds.length ≤ sizeLine → Rp K H (.ref a) (.list ds)
  | tup {a : Addr} {xs : List V} {ds : List D} : SqT K H a xs → RpA K H xs ds → ds.length ≤ sizeLine → Rp K H (.ref a) (.tuple ds)
inductive RpA (K : PySem.W.Frag) (H : Hp) : List V → List D → Prop
  | nil : RpA K H [] []
  | cons {v : V} {vs : List V} {d : D} {ds : List D} : Rp K H v d → RpA K H vs ds → RpA K H (v :: vs) (d :: ds)
end
section
variable {K : PySem.W.Frag} {H H' : Hp}
theorem same_t {a : Addr} {xs : List V} (e : Same H H') (h : SqT K H a xs) : SqT K H' a xs := Evl.ex_t e h
mutual
theorem Rp.mono (e : Same H H') : ∀ {d : D} {v : V}, Rp K H v d → Rp K H' v d
  | .none, _, h => by cases h; exact .non
  | .bool _, _, h => by cases h; exact .bl _
  | .int _, _, h => by cases h; exact .int _
  | .str _, _, h => by cases h with | str h => exact .str h
  | .list ds, _, h => by cases h with | lst a b c => exact .lst (e _ _ a) (RpA.mono e b) c
  | .tuple ds, _, h => by cases h with | tup a b c => exact .tup (same_t e a) (RpA.mono e b) c
  | .dict _, _, h => by cases h
theorem RpA.mono (e : Same H H') : ∀ {ds : List D} {vs : List V}, RpA K H vs ds → RpA K H' vs ds
  | [], _, h => by cases h; exact .nil
  | _ :: _, _, h => by cases h with | cons a b => exact .cons (Rp.mono e a) (RpA.mono e b)
end
mutual
theorem Rp.dp : ∀ {d : D} {v : V}, Rp K H v d → Dp K H v d
  | .none, _, h => by cases h; exact .non
  | .bool _, _, h => by cases h; exact .bl _
  | .int _, _, h => by cases h; exact .int _
  | .str _, _, h => by cases h with | str h => exact .str _
  | .list ds, _, h => by cases h with | lst a b c => exact .lst (SqL.of a) (RpA.dp b)
  | .tuple ds, _, h => by cases h with | tup a b c => exact .tup a (RpA.dp b)
  | .dict _, _, h => by cases h
theorem RpA.dp : ∀ {ds : List D} {vs : List V}, RpA K H vs ds → DpAll K H vs ds
  | [], _, h => by cases h; exact .nil
  | _ :: _, _, h => by cases h with | cons a b => exact .cons (Rp.dp a) (RpA.dp b)
end
mutual
theorem Rp.lay : ∀ {d : D} {v : V}, Rp K H v d → d.canLay0 = true
  | .none, _, h => by simp only [PyData.canLay0]
  | .bool _, _, h => by simp only [PyData.canLay0]
  | .int _, _, h => by simp only [PyData.canLay0]
  | .str _, _, h => by cases h with | str h => exact h.2
  | .list ds, _, h => by cases h with | lst a b c => simp only [PyData.canLay0]; exact RpA.lay b
  | .tuple ds, _, h => by cases h with | tup a b c => simp only [PyData.canLay0]; exact RpA.lay b
  | .dict _, _, h => by cases h
theorem RpA.lay : ∀ {ds : List D} {vs : List V}, RpA K H vs ds → PyData.canLayAll0 ds = true
  | [], _, h => by simp only [PyData.canLayAll0]
  | _ :: _, _, h => by cases h with | cons a b => simp only [PyData.canLayAll0, Rp.lay a, RpA.lay b, Bool.and_self]
end
theorem RpA.len : ∀ {vs : List V} {ds : List D}, RpA K H vs ds → vs.length = ds.length
  | _, _, .nil => rfl
  | _, _, .cons _ b => by rw [List.length_cons, List.length_cons, RpA.len b]
theorem RpA.get : ∀ {vs : List V} {ds : List D} {i : Nat} {d : D}, RpA K H vs ds → ds[i]? = some d → ∃ v, vs[i]? = some v ∧ Rp K H v d
  | _, _, _, _, .nil, e => by simp at e
  | _, _, 0, _, .cons a _, e => by simp at e; subst e; exact ⟨_, rfl, a⟩
  | _, _, i + 1, d, .cons _ b, e => by
    obtain ⟨v, h1, h2⟩ := RpA.get (i := i) (d := d) b (by simpa using e)
    exact ⟨v, by simpa using h1, h2⟩
theorem RpA.getV : ∀ {vs : List V} {ds : List D} {i : Nat} {v : V}, RpA K H vs ds → vs[i]? = some v → ∃ d, ds[i]? = some d ∧ Rp K H v d
  | _, _, _, _, .nil, e => by simp at e
  | _, _, 0, _, .cons a _, e => by simp at e; subst e; exact ⟨_, rfl, a⟩
  | _, _, i + 1, v, .cons _ b, e => by
    obtain ⟨d, h1, h2⟩ := RpA.getV (i := i) (v := v) b (by simpa using e)
    exact ⟨d, by simpa using h1, h2⟩
theorem RpA.append : ∀ {vs us : List V} {ds es : List D}, RpA K H vs ds → RpA K H us es → RpA K H (vs ++ us) (ds ++ es)
  | _, _, _, _, .nil, h => h
  | _, _, _, _, .cons a b, h => .cons a (RpA.append b h)
theorem RpA.one {v : V} {d : D} (h : Rp K H v d) : RpA K H [v] [d] := .cons h .nil
theorem RpA.set {v : V} {d : D} (h : Rp K H v d) : ∀ {vs : List V} {ds : List D} (i : Nat), RpA K H vs ds → RpA K H (vs.set i v) (ds.set i d)
  | _, _, _, .nil => .nil
  | _, _, 0, .cons _ b => .cons h b
  | _, _, i + 1, .cons a b => .cons a (RpA.set h i b)
theorem RpA.take : ∀ {vs : List V} {ds : List D} (n : Nat), RpA K H vs ds → RpA K H (vs.take n) (ds.take n)
  | _, _, 0, _ => .nil
  | _, _, _ + 1, .nil => .nil
  | _, _, n + 1, .cons a b => .cons a (RpA.take n b)
theorem RpA.drop : ∀ {vs : List V} {ds : List D} (n : Nat), RpA K H vs ds → RpA K H (vs.drop n) (ds.drop n)
  | _, _, 0, h => h
  | _, _, _ + 1, .nil => .nil
  | _, _, n + 1, .cons _ b => RpA.drop n b
theorem RpA.reverse : ∀ {vs : List V} {ds : List D}, RpA K H vs ds → RpA K H vs.reverse ds.reverse
  | _, _, .nil => .nil
  | _, _, .cons a b => by rw [List.reverse_cons, List.reverse_cons]; exact (RpA.reverse b).append (.one a)
theorem RpA.flatRep {vs : List V} {ds : List D} (h : RpA K H vs ds) : ∀ n : Nat, RpA K H (List.replicate n vs).flatten (List.replicate n ds).flatten
  | 0 => .nil
  | n + 1 => by rw [List.replicate_succ, List.replicate_succ, List.flatten_cons, List.flatten_cons]; exact h.append (RpA.flatRep h n)
theorem RpA.ints : ∀ {vs : List V} {ns : List Int}, RpA K H vs (ns.map .int) → vs = ns.map V.int
  | _, [], h => by cases h; rfl
  | _, n :: ns, h => by
    cases h with
    | cons a b => cases a; rw [List.map_cons, ← RpA.ints b]
theorem RpA.of_ints : ∀ (ns : List Int), RpA K H (ns.map V.int) (ns.map .int)
  | [] => .nil
  | n :: ns => .cons (.int n) (RpA.of_ints ns)
end

/-! ### a pure step: I what is known to stand, H the heap -/
structure Pst (I H I' H' : Hp) : Prop where
  eI : Same I I'
  eH : Same H H'
  sub : Same I' H'
  ag : ∀ a, H a ≠ none → I' a = I a
section
variable {I H I1 H1 I2 H2 : Hp}
theorem Pst.refl (h : Same I H) : Pst I H I H := ⟨Same.refl _, Same.refl _, h, fun _ _ => rfl⟩
theorem Pst.trans (a : Pst I H I1 H1) (b : Pst I1 H1 I2 H2) : Pst I H I2 H2 := ⟨a.eI.trans b.eI, a.eH.trans b.eH, b.sub, fun x hx => by
  have h1 : H1 x ≠ none := fun z => hx (a.eH.free z)
  rw [b.ag x h1, a.ag x hx]⟩
theorem same_new {H : Hp} {p : Addr} {o : HO} (h : H p = none) : Same H (upd H p o) := Evl.Ex.new h
theorem same_upd {I H : Hp} {p : Addr} {o : HO} (e : Same I H) (h : H p = none) : Same (upd I p o) (upd H p o) := fun b u q => by
  by_cases z : b = p
  · subst z; rw [upd_same] at q ⊢; exact q
  · rw [upd_ne z] at q ⊢; exact e b u q
theorem Pst.new {p : Addr} {o : HO} (e : Same I H) (h : H p = none) : Pst I H (upd I p o) (upd H p o) :=
  ⟨same_new (e.free h), same_new h, same_upd e h, fun a ha => upd_ne fun z => ha (z ▸ h)⟩
end

/-! ### the ghost state -/
structure Gs (G : Type) where
  fp : G → Addr → Prop
  ok : G → Hp → Prop
  root : G → V
  loc : ∀ {g H H'}, (∀ a, fp g a → H' a = H a) → ok g H → ok g H'
  dom : ∀ {g H a}, ok g H → fp g a → H a ≠ none
/-- none -/
def G0 : Gs Unit := ⟨fun _ _ => False, fun _ _ => True, fun _ => .non, fun _ _ => trivial, fun _ h => h.elim⟩

/-- what a slot holds: nothing that is known, data that stands, a list of one's own, the ghost state's root, a value as it is -/
inductive SV where
  | un | sh (d : D) | ow (ds : List D) | st | raw (v : V) | kd (kvs : List (Str × D))
abbrev Env := List SV
abbrev Env.at (env : Env) (i : Nat) : SV := env.getD i .un
/-- the world: what is to be kept, what was known at the entry, what is known to stand, the ghost's places, its root -/
structure Wd where
  H0 : Hp
  I0 : Hp
  I : Hp
  fp : Addr → Prop
  rt : V
abbrev Wd.im (w : Wd) (I : Hp) : Wd := { w with I := I }

/-- a dict of texts that stands: its keys in order, its values' data -/
def KdOk (K : PySem.W.Frag) (I : Hp) (v : V) (kvs : List (Str × D)) : Prop := ∃ a vs, v = .ref a ∧ I a = some (.dK vs) ∧ vs.map (·.1) = kvs.map (fun p => Sum.inr p.1) ∧ RpA K I (vs.map (·.2)) (kvs.map (·.2))
theorem KdOk.mono {K : PySem.W.Frag} {I I' : Hp} (e : Same I I') {v : V} {kvs : List (Str × D)} (h : KdOk K I v kvs) : KdOk K I' v kvs := by
  obtain ⟨a, vs, e1, e2, e3, r⟩ := h
  exact ⟨a, vs, e1, e _ _ e2, e3, r.mono e⟩
def SlotOk (K : PySem.W.Frag) (w : Wd) (σ : St) (H : Hp) (i : Nat) : SV → Prop
  | .un => True
  | .sh d => ∃ v, σ[i]? = some (some v) ∧ Rp K w.I v d
  | .kd kvs => ∃ v, σ[i]? = some (some v) ∧ KdOk K w.I v kvs
  | .st => σ[i]? = some (some w.rt)
  | .raw v => σ[i]? = some (some v)
  | .ow ds => ∃ p vs, σ[i]? = some (some (.ref p)) ∧ H p = some (.lst vs) ∧ w.I p = none ∧ w.H0 p = none ∧ ¬ w.fp p ∧ RpA K w.I vs ds ∧ ds.length ≤ sizeLine

structure Rel {G : Type} (K : PySem.W.Frag) (S : Gs G) (w : Wd) (env : Env) (g : G) (σ : St) (H : Hp) : Prop where
  e0 : Same w.H0 H
  eI : Same w.I H
  ag : ∀ a o, w.H0 a = some o → w.I a = w.I0 a
  ge : Same w.I0 w.I
  gfp : ∀ a, S.fp g a ↔ w.fp a
  grt : S.root g = w.rt
  gok : S.ok g H
  fI : ∀ a, w.fp a → w.I a = none
  f0 : ∀ a, w.fp a → w.H0 a = none
  len : σ.length = env.length
  slot : ∀ i, SlotOk K w σ H i (env.at i)
  dis : ∀ i j p ds es, i ≠ j → env.at i = .ow ds → env.at j = .ow es → σ[i]? = some (some (.ref p)) → σ[j]? ≠ some (some (.ref p))
section
variable {G : Type} {K : PySem.W.Frag} {S : Gs G} {w : Wd} {env : Env} {g g' : G} {σ : St} {H H' I' : Hp}
theorem SlotOk.pst {i : Nat} {sv : SV} (p : Pst w.I H I' H') (h : SlotOk K w σ H i sv) : SlotOk K (w.im I') σ H' i sv := by
  cases sv with
  | un => trivial
  | sh d => obtain ⟨v, e, r⟩ := h; exact ⟨v, e, r.mono p.eI⟩
  | kd d => obtain ⟨v, e, r⟩ := h; exact ⟨v, e, r.mono p.eI⟩
  | st => exact h
  | raw v => exact h
  | ow ds =>
    obtain ⟨a, vs, e, hp, hi, h0, hf, r, z⟩ := h
    exact ⟨a, vs, e, p.eH _ _ hp, (p.ag a (by rw [hp]; simp)).trans hi, h0, hf, r.mono p.eI, z⟩
theorem Rel.pst (R : Rel K S w env g σ H) (p : Pst w.I H I' H') : Rel K S (w.im I') env g σ H' where
  e0 := R.e0.trans p.eH
  eI := p.sub
  ag := fun a o e => (p.ag a (by rw [R.e0 a o e]; simp)).trans (R.ag a o e)
  ge := R.ge.trans p.eI
  gfp := R.gfp
  grt := R.grt
  gok := S.loc (fun a ha => by
    cases q : H a with
    | none => exact absurd q (S.dom R.gok ha)
    | some o => exact p.eH a o q) R.gok
  fI := fun a ha => (p.ag a (S.dom R.gok ((R.gfp a).mpr ha))).trans (R.fI a ha)
  f0 := R.f0
  len := R.len
  slot := fun i => (R.slot i).pst p
  dis := R.dis
/-- a new object comes, that nothing knows of -/
theorem Rel.alloc {p : Addr} {o : HO} (R : Rel K S w env g σ H) (h : H p = none) : Rel K S w env g σ (upd H p o) :=
  R.pst (I' := w.I) ⟨Same.refl _, same_new h, R.eI.trans (same_new h), fun _ _ => rfl⟩
/-- p is nobody's -/
structure Nob (w : Wd) (env : Env) (σ : St) (p : Addr) : Prop where
  i : w.I p = none
  h0 : w.H0 p = none
  f : ¬ w.fp p
  o : ∀ i ds, env.at i = .ow ds → σ[i]? ≠ some (some (.ref p))
theorem Rel.nob {p : Addr} (R : Rel K S w env g σ H) (h : H p = none) : Nob w env σ p where
  i := R.eI.free h
  h0 := R.e0.free h
  f := fun z => S.dom R.gok ((R.gfp p).mpr z) h
  o := fun i ds e q => by
    have z := R.slot i
    rw [e] at z
    obtain ⟨a, vs, e1, hp, _⟩ := z
    rw [e1] at q
    cases q
    rw [hp] at h
    cases h
/-- nobody's object is from now on one that stands -/
theorem Rel.freeze {p : Addr} {o : HO} (R : Rel K S w env g σ H) (n : Nob w env σ p) (h : H p = some o) : Rel K S (w.im (upd w.I p o)) env g σ H where
  e0 := R.e0
  eI := fun b u q => by
    have q : upd w.I p o b = some u := q
    by_cases z : b = p
    · subst z; rw [upd_same] at q; rw [h]; exact q
    · rw [upd_ne z] at q; exact R.eI b u q
  ag := fun a u e => by
    have z : a ≠ p := fun z => by rw [z, n.h0] at e; cases e
    exact (upd_ne z).trans (R.ag a u e)
  ge := R.ge.trans (same_new n.i)
  gfp := R.gfp
  grt := R.grt
  gok := R.gok
  fI := fun a ha => by
    have z : a ≠ p := fun z => n.f (z ▸ ha)
    exact (upd_ne z).trans (R.fI a ha)
  f0 := R.f0
  len := R.len
  slot := fun i => by
    have q := R.slot i
    cases e : env.at i with
    | un => trivial
    | sh d => rw [e] at q; obtain ⟨v, e1, r⟩ := q; exact ⟨v, e1, r.mono (same_new n.i)⟩
    | kd d => rw [e] at q; obtain ⟨v, e1, r⟩ := q; exact ⟨v, e1, r.mono (same_new n.i)⟩
    | st => rw [e] at q; exact q
    | raw v => rw [e] at q; exact q
    | ow ds =>
      rw [e] at q
      obtain ⟨a, vs, e1, hp, hi, h0, hf, r, z⟩ := q
      have ne : a ≠ p := fun z => n.o i ds e (z ▸ e1)
      exact ⟨a, vs, e1, hp, (upd_ne ne).trans hi, h0, hf, r.mono (same_new n.i), z⟩
  dis := R.dis
end
end Pd

/-! Pd: expressions and tests. -/
namespace Pd
open PySem PySem.Spec L2

/-! ### readings by data -/
abbrev ME (G : Type) := Env → G → Option (D × G)
abbrev ML (G : Type) := Env → G → Option (List D × G)
abbrev MT (G : Type) := Env → G → Option (Bool × G)

def tE {G : Type} (K : PySem.W.Frag) (S : Gs G) (m : ME G) : TE := fun σ H Q => ∃ w env g d g', Rel K S w env g σ H ∧ m env g = some (d, g') ∧
  ∀ v I' H', Same w.I I' → Rel K S (w.im I') env g' σ H' → Rp K I' v d → Q v H'
/-- a new list, that nothing knows of -/
def tF {G : Type} (K : PySem.W.Frag) (S : Gs G) (m : ML G) : TE := fun σ H Q => ∃ w env g ds g', Rel K S w env g σ H ∧ m env g = some (ds, g') ∧
  ∀ p vs I' H', Same w.I I' → Rel K S (w.im I') env g' σ H' → Nob (w.im I') env σ p → H' p = some (.lst vs) → RpA K I' vs ds → ds.length ≤ sizeLine → Q (.ref p) H'
def tT {G : Type} (K : PySem.W.Frag) (S : Gs G) (m : MT G) : TT := fun σ H Q => ∃ w env g b g', Rel K S w env g σ H ∧ m env g = some (b, g') ∧
  ∀ I' H', Same w.I I' → Rel K S (w.im I') env g' σ H' → Q b H'
def tA {G : Type} (K : PySem.W.Frag) (S : Gs G) (m : ML G) : TA := fun σ H Q => ∃ w env g ds g', Rel K S w env g σ H ∧ m env g = some (ds, g') ∧
  ∀ vs I' H', Same w.I I' → Rel K S (w.im I') env g' σ H' → RpA K I' vs ds → Q vs H'

abbrev DE {G : Type} (X : Cx) (S : Gs G) (e : Expr) (m : ME G) : Prop := PE X e (tE X.K S m)
abbrev DF {G : Type} (X : Cx) (S : Gs G) (e : Expr) (m : ML G) : Prop := PE X e (tF X.K S m)
abbrev DT {G : Type} (X : Cx) (S : Gs G) (e : Expr) (m : MT G) : Prop := PT X e (tT X.K S m)
abbrev DW {G : Type} (X : Cx) (S : Gs G) (e : Expr) (m : MT G) : Prop := PW X e (tT X.K S m)
abbrev DA {G : Type} (X : Cx) (S : Gs G) (es : List Expr) (m : ML G) : Prop := PA X es (tA X.K S m)

theorem PE.imp {X : Cx} {e : Expr} {t t' : TE} (h : PE X e t) (i : ∀ σ H Q, t' σ H Q → t σ H Q) : PE X e t' := ⟨fun pins s σ H Q I q => h.run pins s σ H Q I (i _ _ _ q)⟩
theorem PT.imp {X : Cx} {e : Expr} {t t' : TT} (h : PT X e t) (i : ∀ σ H Q, t' σ H Q → t σ H Q) : PT X e t' := ⟨fun pins s σ H Q I q => h.run pins s σ H Q I (i _ _ _ q)⟩
theorem PW.imp {X : Cx} {e : Expr} {t t' : TT} (h : PW X e t) (i : ∀ σ H Q, t' σ H Q → t σ H Q) : PW X e t' := ⟨fun wh pins s σ H Q I q => h.run wh pins s σ H Q I (i _ _ _ q)⟩
theorem PA.imp {X : Cx} {e : List Expr} {t t' : TA} (h : PA X e t) (i : ∀ σ H Q, t' σ H Q → t σ H Q) : PA X e t' := ⟨fun pos pins s σ H Q I q => h.run pos pins s σ H Q I (i _ _ _ q)⟩
theorem PS.imp {X : Cx} {e : Stmt} {t t' : TS} (h : PS X e t) (i : ∀ D σ H, t' D σ H → t D σ H) : PS X e t' := ⟨fun pins s σ H D I q => h.run pins s σ H D I (i _ _ _ q)⟩
theorem PSs.imp {X : Cx} {e : List Stmt} {t t' : TS} (h : PSs X e t) (i : ∀ D σ H, t' D σ H → t D σ H) : PSs X e t' := ⟨fun pins s σ H D I q => h.run pins s σ H D I (i _ _ _ q)⟩

section
variable {G : Type} {X : Cx} {S : Gs G} {a b c e : Expr} {es : List Expr} {pos : Pos} {ma mb mc : ME G} {mt mu : MT G} {ml : ML G}

/-! ### bind, in the order of reading -/
@[reducible] def bD {α β G : Type} (x : Option (α × G)) (f : α → G → Option β) : Option β := match x with
  | some (a, g) => f a g
  | none => none
theorem bD_some {α β : Type} {x : Option (α × G)} {f : α → G → Option β} {y : β} (h : bD x f = some y) : ∃ a g, x = some (a, g) ∧ f a g = some y := by
  cases x with
  | none => cases h
  | some p => obtain ⟨a, g⟩ := p; exact ⟨a, g, rfl, h⟩

/-! ### names, constants -/
def mVar (i : Nat) : ME G := fun env g => match env.at i with
  | .sh d => some (d, g)
  | _ => none
def mC (d : D) : ME G := fun _ g => some (d, g)
theorem te_var {i : Nat} {σ : St} {H : Hp} {Q : VK} (h : tE X.K S (mVar i) σ H Q) : tVar i σ H Q := by
  obtain ⟨w, env, g, d, g', R, e, k⟩ := h
  have q := R.slot i
  unfold mVar at e
  cases z : env.at i with
  | sh d' =>
    rw [z] at e q
    obtain ⟨v, e1, r⟩ := q
    cases e
    exact ⟨v, e1, k v w.I H (Same.refl _) R r⟩
  | _ => rw [z] at e; cases e
theorem de_var (i : Nat) {x : Str} (hN : X.N[i]? = some x := by rfl) (hv : Vis X.env.scope x := by first | exact Or.inl rfl | exact Or.inr (Or.inl rfl) | exact Or.inr (Or.inr rfl)) (hd : (x == ("__debug__" : Str)) = false := by decide)
    (hcd : (x == ("__classdict__" : Str)) = false := by decide) : DE X S (.Name x pos) (mVar i) := PE.imp (pe_var hN hv hd hcd) fun _ _ _ h => te_var h
theorem te_c {v : V} {d : D} (r : ∀ H, Rp X.K H v d) {σ : St} {H : Hp} {Q : VK} (h : tE X.K S (mC d) σ H Q) : tC v σ H Q := by
  obtain ⟨w, env, g, d, g', R, e, k⟩ := h
  cases e
  exact k v w.I H (Same.refl _) R (r _)
theorem de_int {i : Int} {j} : DE X S (.Constant (.int i) j pos) (mC (.int i)) := PE.imp pe_int fun _ _ _ h => te_c (fun _ => .int i) h
theorem de_bl {i : Bool} {j} : DE X S (.Constant (.bool i) j pos) (mC (.bool i)) := PE.imp pe_bl fun _ _ _ h => te_c (fun _ => .bl i) h
theorem de_non {j} : DE X S (.Constant .none j pos) (mC .none) := PE.imp pe_non fun _ _ _ h => te_c (fun _ => .non) h
theorem de_str {x : Str} {j} (h : SOk x := by exact ⟨by decide +kernel, by decide +kernel⟩) : DE X S (.Constant (.str x) j pos) (mC (.str x)) := PE.imp pe_str fun _ _ _ q => te_c (fun _ => .str h) q
/-- a module's constant -/
theorem de_glob {x : Str} {v : V} {u : Value} {d : D} (hg : Gl X x) (hm : X.mg x = some u) (r : RelV v u) (hd : ∀ H, Rp X.K H v d) (hdb : (x == ("__debug__" : Str)) = false := by decide) : DE X S (.Name x pos) (mC d) :=
  PE.imp (pe_glob hg hm r hdb) fun _ _ _ h => te_c hd h

/-! ### operations by values -/
def OpD (K : PySem.W.Frag) (r : R2) (f : D → D → Option D) : Prop := ∀ {I H : Hp} {x y : V} {d e z : D}, Same I H → Rp K I x d → Rp K I y e → f d e = some z →
  ∀ {Q : VK}, (∀ v I' H', Pst I H I' H' → Rp K I' v z → Q v H') → r x y H Q
def UnD (K : PySem.W.Frag) (r : V → Hp → VK → Prop) (f : D → Option D) : Prop := ∀ {I H : Hp} {x : V} {d z : D}, Same I H → Rp K I x d → f d = some z →
  ∀ {Q : VK}, (∀ v I' H', Pst I H I' H' → Rp K I' v z → Q v H') → r x H Q
def CallD (K : PySem.W.Frag) (r : List V → Hp → VK → Prop) (f : List D → Option D) : Prop := ∀ {I H : Hp} {xs : List V} {ds : List D} {z : D}, Same I H → RpA K I xs ds → f ds = some z →
  ∀ {Q : VK}, (∀ v I' H', Pst I H I' H' → Rp K I' v z → Q v H') → r xs H Q
/-- .. a new list -/
def CallF (K : PySem.W.Frag) (r : List V → Hp → VK → Prop) (f : List D → Option (List D)) : Prop := ∀ {I H : Hp} {xs : List V} {ds zs : List D}, Same I H → RpA K I xs ds → f ds = some zs →
  ∀ {Q : VK}, (∀ p vs H', H p = none → Same H H' → H' p = some (.lst vs) → RpA K I vs zs → zs.length ≤ sizeLine → Q (.ref p) H') → r xs H Q
theorem OpD.or {K : PySem.W.Frag} {r r' : R2} {f f' : D → D → Option D} (h : OpD K r f) (h' : OpD K r' f') : OpD K (fun x y H Q => r x y H Q ∨ r' x y H Q) (fun d e => (f d e).orElse fun _ => f' d e) := by
  intro I H x y d e z s p q hz Q k
  have hz : ((f d e).orElse fun _ => f' d e) = some z := hz
  cases hf : f d e with
  | some u => rw [hf] at hz; cases hz; exact .inl (h s p q hf k)
  | none => rw [hf] at hz; exact .inr (h' s p q hz k)
theorem CallD.or {K : PySem.W.Frag} {r r' : List V → Hp → VK → Prop} {f f' : List D → Option D} (h : CallD K r f) (h' : CallD K r' f') : CallD K (fun x H Q => r x H Q ∨ r' x H Q) (fun d => (f d).orElse fun _ => f' d) := by
  intro I H x d z s p hz Q k
  have hz : ((f d).orElse fun _ => f' d) = some z := hz
  cases hf : f d with
  | some u => rw [hf] at hz; cases hz; exact .inl (h s p hf k)
  | none => rw [hf] at hz; exact .inr (h' s p hz k)

def mOp (f : D → D → Option D) (ma mb : ME G) : ME G := fun env g => bD (ma env g) fun x g1 => bD (mb env g1) fun y g2 => (f x y).map (·, g2)
def mUn (f : D → Option D) (ma : ME G) : ME G := fun env g => bD (ma env g) fun x g1 => (f x).map (·, g1)
def mCall (f : List D → Option D) (ml : ML G) : ME G := fun env g => bD (ml env g) fun xs g1 => (f xs).map (·, g1)
def mCallF (f : List D → Option (List D)) (ml : ML G) : ML G := fun env g => bD (ml env g) fun xs g1 => (f xs).map (·, g1)
theorem map_some {α β : Type} {x : Option α} {g g' : β} {z : α} (h : x.map (·, g) = some (z, g')) : x = some z ∧ g' = g := by
  cases x with
  | none => cases h
  | some y => cases h; exact ⟨rfl, rfl⟩
theorem te_op {r : R2} {f : D → D → Option D} (hf : OpD X.K r f) {σ : St} {H : Hp} {Q : VK} (h : tE X.K S (mOp f ma mb) σ H Q) : tOp r (tE X.K S ma) (tE X.K S mb) σ H Q := by
  obtain ⟨w, env, g, d, g', R, e, k⟩ := h
  obtain ⟨x, g1, e1, e⟩ := bD_some e
  obtain ⟨y, g2, e2, e⟩ := bD_some e
  obtain ⟨e3, rfl⟩ := map_some e
  refine ⟨w, env, g, x, g1, R, e1, fun v I1 H1 s1 R1 p1 => ⟨w.im I1, env, g1, y, g', R1, e2, fun u I2 H2 s2 R2 p2 => ?_⟩⟩
  exact hf R2.eI (p1.mono s2) p2 e3 fun v3 I3 H3 ps p3 => k v3 I3 H3 (s1.trans (s2.trans ps.eI)) (R2.pst ps) p3
theorem de_op {op : Operator} {r : R2} {f : D → D → Option D} (ho : OpR X (binaryOp op) r) (hf : OpD X.K r f) (ha : DE X S a ma) (hb : DE X S b mb) : DE X S (.BinOp a op b pos) (mOp f ma mb) :=
  PE.imp (pe_op ho ha hb) fun _ _ _ h => te_op hf h
theorem de_cmp {op : CmpOp} {r : R2} {f : D → D → Option D} (ho : OpR X (compareOp op) r) (hf : OpD X.K r f) (ha : DE X S a ma) (hb : DE X S b mb) (hm : behindInMarks op b = false) : DE X S (.Compare a [op] [b] pos) (mOp f ma mb) :=
  PE.imp (pe_cmpR ho ha hb hm) fun _ _ _ h => te_op hf h
theorem te_un {r : V → Hp → VK → Prop} {f : D → Option D} (hf : UnD X.K r f) {σ : St} {H : Hp} {Q : VK} (h : tE X.K S (mUn f ma) σ H Q) : tUn r (tE X.K S ma) σ H Q := by
  obtain ⟨w, env, g, d, g', R, e, k⟩ := h
  obtain ⟨x, g1, e1, e⟩ := bD_some e
  obtain ⟨e3, rfl⟩ := map_some e
  exact ⟨w, env, g, x, g', R, e1, fun v I1 H1 s1 R1 p1 => hf R1.eI p1 e3 fun v3 I3 H3 ps p3 => k v3 I3 H3 (s1.trans ps.eI) (R1.pst ps) p3⟩
theorem de_un {op : UnaryOp} {r : V → Hp → VK → Prop} {f : D → Option D} (ho : UnR X (unaryOp op) r) (hf : UnD X.K r f) (ha : DE X S a ma) : DE X S (.UnaryOp op a pos) (mUn f ma) :=
  PE.imp (pe_un ho ha) fun _ _ _ h => te_un hf h

/-! ### arguments -/
def mNil : ML G := fun _ g => some ([], g)
def mCons (ma : ME G) (ml : ML G) : ML G := fun env g => bD (ma env g) fun x g1 => bD (ml env g1) fun xs g2 => some (x :: xs, g2)
theorem da_nil : DA X S [] mNil := PA.imp pa_nil fun _ H _ ⟨w, _, _, _, _, R, e, k⟩ => by cases e; exact k [] w.I H (Same.refl _) R .nil
theorem da_cons (ha : DE X S e ma) (hr : DA X S es ml) (hs : starEach (e :: es) X.env = (false, eval e X.env) :: starEach es X.env := by rfl) : DA X S (e :: es) (mCons ma ml) := PA.imp (pa_cons ha hr hs) fun σ H Q h => by
  obtain ⟨w, env, g, d, g', R, e, k⟩ := h
  obtain ⟨x, g1, e1, e⟩ := bD_some e
  obtain ⟨y, g2, e2, e⟩ := bD_some e
  cases e
  exact ⟨w, env, g, x, g1, R, e1, fun v I1 H1 s1 R1 p1 => ⟨w.im I1, env, g1, y, g', R1, e2, fun vs I2 H2 s2 R2 p2 => k (v :: vs) I2 H2 (s1.trans s2) R2 (.cons (p1.mono s2) p2)⟩⟩
theorem te_call {r : List V → Hp → VK → Prop} {f : List D → Option D} (hf : CallD X.K r f) {σ : St} {H : Hp} {Q : VK} (h : tE X.K S (mCall f ml) σ H Q) : tCB r (tA X.K S ml) σ H Q := by
  obtain ⟨w, env, g, d, g', R, e, k⟩ := h
  obtain ⟨x, g1, e1, e⟩ := bD_some e
  obtain ⟨e3, rfl⟩ := map_some e
  exact ⟨w, env, g, x, g', R, e1, fun vs I1 H1 s1 R1 p1 => hf R1.eI p1 e3 fun v3 I3 H3 ps p3 => k v3 I3 H3 (s1.trans ps.eI) (R1.pst ps) p3⟩
theorem de_callB {x : Str} {id : String} {r : List V → Hp → VK → Prop} {f : List D → Option D} {p : Pos} (hc : CallR X (.builtin id) r) (hf : CallD X.K r f) (hg : Gl X x) (hm : X.mg x = none) (hv : bootBuiltins x = some (.builtin id)) (ha : DA X S (e :: es) ml)
    (hn : x ≠ "__name__" := by decide) (hdb : (x == ("__debug__" : Str)) = false := by decide)
    (he : starEach (e :: es) X.env = (false, eval e X.env) :: starEach es X.env := by rfl) (hpl : (backTo pos (starEach es X.env)).any (·.1) = false := by rfl) : DE X S (.Call (.Name x p) (e :: es) [] pos) (mCall f ml) :=
  PE.imp (pe_callB hc hg hm hv ha hn hdb he hpl) fun _ _ _ h => te_call hf h
theorem de_callTy {x : Str} {T : String} {r : List V → Hp → VK → Prop} {f : List D → Option D} {p : Pos} (hc : CallR X (.type T) r) (hf : CallD X.K r f) (hg : Gl X x) (hm : X.mg x = none) (hv : bootBuiltins x = some (.type T)) (ha : DA X S (e :: es) ml)
    (hn : x ≠ "__name__" := by decide) (hdb : (x == ("__debug__" : Str)) = false := by decide)
    (he : starEach (e :: es) X.env = (false, eval e X.env) :: starEach es X.env := by rfl) (hpl : (backTo pos (starEach es X.env)).any (·.1) = false := by rfl) : DE X S (.Call (.Name x p) (e :: es) [] pos) (mCall f ml) :=
  PE.imp (pe_callTy hc hg hm hv ha hn hdb he hpl) fun _ _ _ h => te_call hf h
/-- behind a fresh address nothing that is known has changed -/
theorem Rel.fresh {K : PySem.W.Frag} {w : Wd} {env : Env} {g : G} {σ : St} {H H' : Hp} {p : Addr} (R : Rel K S w env g σ H) (s : Same H H') : Rel K S w env g σ H' :=
  R.pst (I' := w.I) ⟨Same.refl _, s, R.eI.trans s, fun _ _ => rfl⟩
theorem tf_call {r : List V → Hp → VK → Prop} {f : List D → Option (List D)} (hf : CallF X.K r f) {σ : St} {H : Hp} {Q : VK} (h : tF X.K S (mCallF f ml) σ H Q) : tCB r (tA X.K S ml) σ H Q := by
  obtain ⟨w, env, g, d, g', R, e, k⟩ := h
  obtain ⟨x, g1, e1, e⟩ := bD_some e
  obtain ⟨e3, rfl⟩ := map_some e
  exact ⟨w, env, g, x, g', R, e1, fun vs I1 H1 s1 R1 p1 => hf R1.eI p1 e3 fun p us H3 h0 sm hp ra z => k p us I1 H3 s1 (Rel.fresh (p := p) R1 sm) (R1.nob h0) hp ra z⟩
theorem df_callB {x : Str} {id : String} {r : List V → Hp → VK → Prop} {f : List D → Option (List D)} {p : Pos} (hc : CallR X (.builtin id) r) (hf : CallF X.K r f) (hg : Gl X x) (hm : X.mg x = none) (hv : bootBuiltins x = some (.builtin id)) (ha : DA X S (e :: es) ml)
    (hn : x ≠ "__name__" := by decide) (hdb : (x == ("__debug__" : Str)) = false := by decide)
    (he : starEach (e :: es) X.env = (false, eval e X.env) :: starEach es X.env := by rfl) (hpl : (backTo pos (starEach es X.env)).any (·.1) = false := by rfl) : DF X S (.Call (.Name x p) (e :: es) [] pos) (mCallF f ml) :=
  PE.imp (pe_callB hc hg hm hv ha hn hdb he hpl) fun _ _ _ h => tf_call hf h
theorem df_callTy {x : Str} {T : String} {r : List V → Hp → VK → Prop} {f : List D → Option (List D)} {p : Pos} (hc : CallR X (.type T) r) (hf : CallF X.K r f) (hg : Gl X x) (hm : X.mg x = none) (hv : bootBuiltins x = some (.type T)) (ha : DA X S (e :: es) ml)
    (hn : x ≠ "__name__" := by decide) (hdb : (x == ("__debug__" : Str)) = false := by decide)
    (he : starEach (e :: es) X.env = (false, eval e X.env) :: starEach es X.env := by rfl) (hpl : (backTo pos (starEach es X.env)).any (·.1) = false := by rfl) : DF X S (.Call (.Name x p) (e :: es) [] pos) (mCallF f ml) :=
  PE.imp (pe_callTy hc hg hm hv ha hn hdb he hpl) fun _ _ _ h => tf_call hf h

/-! ### a new list as data -/
def mL (ml : ML G) : ME G := fun env g => bD (ml env g) fun ds g1 => some (.list ds, g1)
theorem te_fresh {σ : St} {H : Hp} {Q : VK} (h : tE X.K S (mL ml) σ H Q) : tF X.K S ml σ H Q := by
  obtain ⟨w, env, g, d, g', R, e, k⟩ := h
  obtain ⟨ds, g1, e1, e⟩ := bD_some e
  cases e
  exact ⟨w, env, g, ds, g', R, e1, fun p vs I' H' s' R' n hp ra z => k (.ref p) _ H' (s'.trans (same_new n.i)) (R'.freeze n hp) (.lst upd_same (ra.mono (same_new n.i)) z)⟩
theorem de_fresh (h : DF X S e ml) : DE X S e (mL ml) := PE.imp h fun _ _ _ q => te_fresh q

/-! ### displays -/
def mTup (ml : ML G) : ME G := fun env g => bD (ml env g) fun ds g1 => if ds.length ≤ sizeLine then some (.tuple ds, g1) else none
def mLst (ml : ML G) : ML G := fun env g => bD (ml env g) fun ds g1 => if ds.length ≤ sizeLine then some (ds, g1) else none
theorem de_tup {x1} (h : DA X S es ml) : DE X S (.Tuple es x1 pos) (mTup ml) := PE.imp (pe_tup h) fun σ H Q q => by
  obtain ⟨w, env, g, d, g', R, e, k⟩ := q
  obtain ⟨ds, g1, e1, e⟩ := bD_some e
  split at e
  · rename_i hz
    cases e
    refine ⟨w, env, g, ds, g', R, e1, fun vs I' H' s' R' ra => ⟨by rw [ra.len]; exact hz, fun p hp => ?_⟩⟩
    have ps := Pst.new (p := p) (o := .tup vs) R'.eI hp
    exact k (.ref p) _ _ (s'.trans ps.eI) (R'.pst ps) (.tup (SqT.of upd_same) (ra.mono ps.eI) hz)
  · cases e
theorem df_lst (h : DA X S es ml) : DF X S (.List es pos) (mLst ml) := PE.imp (pe_lst h) fun σ H Q q => by
  obtain ⟨w, env, g, d, g', R, e, k⟩ := q
  obtain ⟨ds, g1, e1, e⟩ := bD_some e
  split at e
  · rename_i hz
    cases e
    refine ⟨w, env, g, d, g', R, e1, fun vs I' H' s' R' ra => ⟨by rw [ra.len]; exact hz, fun p hp => ?_⟩⟩
    exact k p vs I' _ s' (R'.alloc hp) (R'.nob hp) upd_same ra hz
  · cases e

/-! ### subscripts, slices -/
def dIx : D → D → Option D
  | .list ds, .int i => atI ds i
  | .tuple ds, .int i => atI ds i
  | .str x, .int i => (atI x.cps.toList i).map fun c => .str ⟨#[c]⟩
  | _, _ => none
theorem atI_rp {K : PySem.W.Frag} {I : Hp} {vs : List V} {ds : List D} {i : Int} {d : D} (ra : RpA K I vs ds) (h : atI ds i = some d) : ∃ v, atI vs i = some v ∧ Rp K I v d := by
  unfold atI at h ⊢
  rw [ra.len]
  cases e : ixN ds.length i with
  | none => rw [e] at h; cases h
  | some j => rw [e] at h; exact ra.get h
theorem sok_char {x : Str} (h : SOk x) {c : Nat} (hc : c ∈ x.cps.toList) : SOk ⟨#[c]⟩ := by
  refine ⟨by show 1 ≤ sizeLine; decide, ?_⟩
  have h2 := h.2
  simp only [PyData.canLay0] at h2 ⊢
  unfold PyData.strOk at h2 ⊢
  rw [Array.all_eq_true_iff_forall_mem] at h2 ⊢
  intro b hb
  have e : b = c := by simpa using hb
  rw [e]
  exact h2 c (by simpa using hc)
theorem atI_mem {α : Type} {xs : List α} {i : Int} {v : α} (h : atI xs i = some v) : v ∈ xs := by
  unfold atI at h
  cases e : ixN xs.length i with
  | none => rw [e] at h; cases h
  | some j => rw [e] at h; exact List.mem_of_getElem? h
theorem od_ix {K : PySem.W.Frag} : OpD K (rIx K) dIx := by
  intro I H x y d e z s p q hz Q k
  cases p with
  | lst hp ra hl =>
    cases q with
    | int i =>
      obtain ⟨v, e1, r⟩ := atI_rp ra hz
      exact .inl ⟨_, _, i, v, rfl, rfl, SqL.of (s _ _ hp), e1, k v I H (Pst.refl s) r⟩
    | _ => cases hz
  | tup hp ra hl =>
    cases q with
    | int i =>
      obtain ⟨v, e1, r⟩ := atI_rp ra hz
      exact .inr (.inl ⟨_, _, i, v, rfl, rfl, same_t s hp, e1, k v I H (Pst.refl s) r⟩)
    | _ => cases hz
  | str hx =>
    cases q with
    | int i =>
      have hz : (atI _ i).map _ = some z := hz
      obtain ⟨c, e1, rfl⟩ := Option.map_eq_some_iff.mp hz
      exact .inr (.inr ⟨_, i, c, rfl, rfl, hx.1, e1, k _ I H (Pst.refl s) (.str (sok_char hx (atI_mem e1)))⟩)
    | _ => cases hz
  | _ => cases hz
theorem de_ix (ha : DE X S a ma) (hb : DE X S b mb) (hs : PlainIx b := by exact fun _ _ => rfl) : DE X S (.Subscript a b pos) (mOp dIx ma mb) := PE.imp (pe_ix ix_seq ha hb hs) fun _ _ _ h => te_op od_ix h

abbrev MO (G : Type) := Env → G → Option (Option Int × G)
def tO {G : Type} (K : PySem.W.Frag) (S : Gs G) (m : MO G) : TO := fun σ H Q => ∃ w env g b g', Rel K S w env g σ H ∧ m env g = some (b, g') ∧
  ∀ I' H', Same w.I I' → Rel K S (w.im I') env g' σ H' → Q b H'
structure DO {G : Type} (X : Cx) (S : Gs G) (e : Option Expr) (m : MO G) : Prop where
  po : PO X e (tO X.K S m)
def mNo : MO G := fun _ g => some (none, g)
def mPart (ma : ME G) : MO G := fun env g => bD (ma env g) fun x g1 => match x with
  | .int i => some (some i, g1)
  | _ => none
theorem do_none : DO X S none mNo := ⟨⟨fun pins s σ H Q I h => (po_none (X := X)).run pins s σ H Q I (by
  obtain ⟨w, env, g, d, g', R, e, k⟩ := h
  cases e
  exact k w.I H (Same.refl _) R)⟩⟩
theorem do_some (h : DE X S e ma) : DO X S (some e) (mPart ma) := ⟨⟨fun pins s σ H Q I q => (po_some h).run pins s σ H Q I (by
  obtain ⟨w, env, g, d, g', R, e, k⟩ := q
  obtain ⟨x, g1, e1, e⟩ := bD_some e
  cases x with
  | int i =>
    cases e
    exact ⟨w, env, g, _, g', R, e1, fun v I' H' s' R' p => by cases p; exact ⟨i, rfl, k I' H' s' R'⟩⟩
  | _ => cases e)⟩⟩
def cut {α : Type} (xs : List α) (lo hi : Option Int) : List α := (xs.drop (HT.sIx xs.length 0 lo)).take (HT.sIx xs.length xs.length hi - HT.sIx xs.length 0 lo)
theorem cut_rp {K : PySem.W.Frag} {I : Hp} {vs : List V} {ds : List D} (ra : RpA K I vs ds) (lo hi : Option Int) : RpA K I (cutV vs lo hi) (cut ds lo hi) := by
  unfold cutV cut
  rw [ra.len]
  exact (ra.drop _).take _
theorem cut_le {α : Type} (xs : List α) (lo hi : Option Int) : (cut xs lo hi).length ≤ xs.length := by
  unfold cut
  rw [List.length_take, List.length_drop]
  omega
/-- a list's slice -/
def mSlL (ma : ME G) (lo hi : MO G) : ML G := fun env g => bD (ma env g) fun x g1 => bD (lo env g1) fun l g2 => bD (hi env g2) fun h g3 => match x with
  | .list ds => some (cut ds l h, g3)
  | _ => none
theorem df_slice {lo hi : Option Expr} {ml mh : MO G} {p2 : Pos} (ha : DE X S a ma) (hl : DO X S lo ml) (hh : DO X S hi mh) : DF X S (.Subscript a (.Slice lo hi none p2) pos) (mSlL ma ml mh) := PE.imp (pe_slice sl_list ha hl.po hh.po) fun σ H Q q => by
  obtain ⟨w, env, g, d, g', R, e, k⟩ := q
  obtain ⟨x, g1, e1, e⟩ := bD_some e
  obtain ⟨l, g2, e2, e⟩ := bD_some e
  obtain ⟨h, g3, e3, e⟩ := bD_some e
  cases x with
  | list ds =>
    cases e
    refine ⟨w, env, g, _, g1, R, e1, fun v I1 H1 s1 R1 p1 => ⟨w.im I1, env, g1, l, g2, R1, e2, fun I2 H2 s2 R2 => ⟨w.im I2, env, g2, h, g', R2, e3, fun I3 H3 s3 R3 => ?_⟩⟩⟩
    cases p1 with
    | lst hp ra hz =>
      refine ⟨_, _, rfl, SqL.of (R3.eI _ _ (s3 _ _ (s2 _ _ hp))), fun p h0 => ?_⟩
      exact k p _ I3 _ (s1.trans (s2.trans s3)) (R3.alloc h0) (R3.nob h0) upd_same (cut_rp (ra.mono (s2.trans s3)) l h) (Nat.le_trans (cut_le ds l h) hz)
  | _ => cases e
end
end Pd

/-! Pd: tests, calls of defs, statements, loops, comprehensions. -/
namespace Pd
open PySem PySem.Spec L2
section
variable {G : Type} {X : Cx} {S : Gs G} {a b c e : Expr} {es rest : List Expr} {pos : Pos} {ma mb mc : ME G} {mt mu : MT G} {ml : ML G}

/-! ### tests -/
def asB : D → Option Bool
  | .bool b => some b
  | _ => none
def mOpT (f : D → D → Option D) (ma mb : ME G) : MT G := fun env g => bD (ma env g) fun x g1 => bD (mb env g1) fun y g2 => ((f x y).bind asB).map (·, g2)
theorem asB_some {d : Option D} {b : Bool} (h : d.bind asB = some b) : d = some (.bool b) := by
  cases d with
  | none => cases h
  | some x => cases x with
    | bool c => cases h; rfl
    | _ => cases h
theorem dt_cmp {op : CmpOp} {r : R2} {f : D → D → Option D} (ho : OpR X (compareOp op) r) (hf : OpD X.K r f) (ha : DE X S a ma) (hb : DE X S b mb) (hm : behindInMarks op b = false) : DT X S (.Compare a [op] [b] pos) (mOpT f ma mb) :=
  PT.imp (pt_cmpR ho ha hb hm) fun σ H Q h => by
    obtain ⟨w, env, g, d, g', R, e, k⟩ := h
    obtain ⟨x, g1, e1, e⟩ := bD_some e
    obtain ⟨y, g2, e2, e⟩ := bD_some e
    obtain ⟨e3, rfl⟩ := map_some e
    have e4 := asB_some e3
    refine ⟨w, env, g, x, g1, R, e1, fun v I1 H1 s1 R1 p1 => ⟨w.im I1, env, g1, y, g', R1, e2, fun u I2 H2 s2 R2 p2 => ?_⟩⟩
    exact hf R2.eI (p1.mono s2) p2 e4 fun v3 I3 H3 ps p3 => by cases p3; exact ⟨d, rfl, k I3 H3 (s1.trans (s2.trans ps.eI)) (R2.pst ps)⟩
def dTru : D → Option Bool
  | .none => some false
  | .bool b => some b
  | .int i => some (i != 0)
  | .str x => some ((x.length : Int) != 0)
  | .list ds => some (!ds.isEmpty)
  | .tuple ds => some (!ds.isEmpty)
  | .dict _ => none
def mTru (ma : ME G) : MT G := fun env g => bD (ma env g) fun x g1 => (dTru x).map (·, g1)
theorem rpa_empty {K : PySem.W.Frag} {I : Hp} {vs : List V} {ds : List D} (h : RpA K I vs ds) : vs.isEmpty = ds.isEmpty := by cases h <;> rfl
theorem dt_tru (ha : DE X S a ma) (he : ∀ whole, isTrue a X.env whole = (do let v ← whole; standAt a.pos; holding [v] (truthy v)) := by intro _; rfl) : DT X S a (mTru ma) := PT.imp (pt_truth ha he) fun σ H Q h => by
  obtain ⟨w, env, g, d, g', R, e, k⟩ := h
  obtain ⟨x, g1, e1, e⟩ := bD_some e
  obtain ⟨e3, rfl⟩ := map_some e
  refine ⟨w, env, g, x, g', R, e1, fun v I1 H1 s1 R1 p1 => ⟨d, ?_, k I1 H1 s1 R1⟩⟩
  cases p1 with
  | non => cases e3; rfl
  | bl b => cases e3; rfl
  | int i => cases e3; rfl
  | str hx => cases e3; exact ⟨hx.1, rfl⟩
  | lst hp ra hz => cases e3; exact .inl ⟨_, SqL.of (R1.eI _ _ hp), by rw [rpa_empty ra]⟩
  | tup hp ra hz => cases e3; exact .inr (.inl ⟨_, same_t R1.eI hp, by rw [rpa_empty ra]⟩)
def mNot (mt : MT G) : MT G := fun env g => bD (mt env g) fun b g1 => some (!b, g1)
theorem dt_not (h : DT X S a mt) : DT X S (.UnaryOp .Not a pos) (mNot mt) := PT.imp (pt_not h) fun σ H Q q => by
  obtain ⟨w, env, g, d, g', R, e, k⟩ := q
  obtain ⟨x, g1, e1, e⟩ := bD_some e
  cases e
  exact ⟨w, env, g, x, g', R, e1, fun I1 H1 s1 R1 => k I1 H1 s1 R1⟩
def mAnd (mt mu : MT G) : MT G := fun env g => bD (mt env g) fun b g1 => if b = true then mu env g1 else some (false, g1)
def mOr (mt mu : MT G) : MT G := fun env g => bD (mt env g) fun b g1 => if b = true then some (true, g1) else mu env g1
theorem dw_and1 (h : DT X S a mt) : DW X S (.BoolOp .And [a] pos) mt := pw_and1 h
theorem dw_or1 (h : DT X S a mt) : DW X S (.BoolOp .Or [a] pos) mt := pw_or1 h
theorem tt_and {σ : St} {H : Hp} {Q : Bool → Hp → Prop} (q : tT X.K S (mAnd mt mu) σ H Q) : tAnd (tT X.K S mt) (tT X.K S mu) σ H Q := by
  obtain ⟨w, env, g, d, g', R, e, k⟩ := q
  obtain ⟨x, g1, e1, e⟩ := bD_some e
  refine ⟨w, env, g, x, g1, R, e1, fun I1 H1 s1 R1 => ?_⟩
  cases x with
  | true => exact ⟨w.im I1, env, g1, d, g', R1, e, fun I2 H2 s2 R2 => k I2 H2 (s1.trans s2) R2⟩
  | false => cases e; exact k I1 H1 s1 R1
theorem tt_or {σ : St} {H : Hp} {Q : Bool → Hp → Prop} (q : tT X.K S (mOr mt mu) σ H Q) : tOr (tT X.K S mt) (tT X.K S mu) σ H Q := by
  obtain ⟨w, env, g, d, g', R, e, k⟩ := q
  obtain ⟨x, g1, e1, e⟩ := bD_some e
  refine ⟨w, env, g, x, g1, R, e1, fun I1 H1 s1 R1 => ?_⟩
  cases x with
  | false => exact ⟨w.im I1, env, g1, d, g', R1, e, fun I2 H2 s2 R2 => k I2 H2 (s1.trans s2) R2⟩
  | true => cases e; exact k I1 H1 s1 R1
theorem dw_and (ha : DT X S a mt) (hb : DW X S (.BoolOp .And (b :: rest) pos) mu) : DW X S (.BoolOp .And (a :: b :: rest) pos) (mAnd mt mu) := PW.imp (pw_and ha hb) fun _ _ _ => tt_and
theorem dw_or (ha : DT X S a mt) (hb : DW X S (.BoolOp .Or (b :: rest) pos) mu) : DW X S (.BoolOp .Or (a :: b :: rest) pos) (mOr mt mu) := PW.imp (pw_or ha hb) fun _ _ _ => tt_or
/-- .. as values, of bools -/
def mBAnd (ma mb : ME G) : ME G := fun env g => bD (ma env g) fun x g1 => match x with
  | .bool true => mb env g1
  | .bool false => some (.bool false, g1)
  | _ => none
def mBOr (ma mb : ME G) : ME G := fun env g => bD (ma env g) fun x g1 => match x with
  | .bool false => mb env g1
  | .bool true => some (.bool true, g1)
  | _ => none
def mBNot (ma : ME G) : ME G := fun env g => bD (ma env g) fun x g1 => match x with
  | .bool b => some (.bool (!b), g1)
  | _ => none
theorem de_and1 {op} (h : DE X S a ma) : DE X S (.BoolOp op [a] pos) ma := pe_one h
theorem de_and (ha : DE X S a ma) (hb : DE X S (.BoolOp .And (b :: rest) pos) mb) : DE X S (.BoolOp .And (a :: b :: rest) pos) (mBAnd ma mb) := PE.imp (pe_and ha hb) fun σ H Q q => by
  obtain ⟨w, env, g, d, g', R, e, k⟩ := q
  obtain ⟨x, g1, e1, e⟩ := bD_some e
  refine ⟨w, env, g, x, g1, R, e1, fun v I1 H1 s1 R1 p1 => ?_⟩
  cases x with
  | bool x =>
    cases p1
    refine ⟨x, rfl, ?_⟩
    cases x with
    | true => exact ⟨w.im I1, env, g1, d, g', R1, e, fun u I2 H2 s2 R2 p2 => k u I2 H2 (s1.trans s2) R2 p2⟩
    | false => cases e; exact k _ I1 H1 s1 R1 (.bl _)
  | _ => cases e
theorem de_or (ha : DE X S a ma) (hb : DE X S (.BoolOp .Or (b :: rest) pos) mb) : DE X S (.BoolOp .Or (a :: b :: rest) pos) (mBOr ma mb) := PE.imp (pe_or ha hb) fun σ H Q q => by
  obtain ⟨w, env, g, d, g', R, e, k⟩ := q
  obtain ⟨x, g1, e1, e⟩ := bD_some e
  refine ⟨w, env, g, x, g1, R, e1, fun v I1 H1 s1 R1 p1 => ?_⟩
  cases x with
  | bool x =>
    cases p1
    refine ⟨x, rfl, ?_⟩
    cases x with
    | false => exact ⟨w.im I1, env, g1, d, g', R1, e, fun u I2 H2 s2 R2 p2 => k u I2 H2 (s1.trans s2) R2 p2⟩
    | true => cases e; exact k _ I1 H1 s1 R1 (.bl _)
  | _ => cases e
theorem de_not (ha : DE X S a ma) : DE X S (.UnaryOp .Not a pos) (mBNot ma) := PE.imp (pe_not ha) fun σ H Q q => by
  obtain ⟨w, env, g, d, g', R, e, k⟩ := q
  obtain ⟨x, g1, e1, e⟩ := bD_some e
  cases x with
  | bool x =>
    cases e
    exact ⟨w, env, g, _, g', R, e1, fun v I1 H1 s1 R1 p1 => by cases p1; exact ⟨x, rfl, k _ I1 H1 s1 R1 (.bl _)⟩⟩
  | _ => cases e
def mIf {α : Type} (mt : MT G) (ma mb : Env → G → Option (α × G)) : Env → G → Option (α × G) := fun env g => bD (mt env g) fun b g1 => if b = true then ma env g1 else mb env g1
theorem de_if (hc : DT X S c mt) (ha : DE X S a ma) (hb : DE X S b mb) : DE X S (.IfExp c a b pos) (mIf mt ma mb) := PE.imp (pe_ifExp hc ha hb) fun σ H Q q => by
  obtain ⟨w, env, g, d, g', R, e, k⟩ := q
  obtain ⟨x, g1, e1, e⟩ := bD_some e
  refine ⟨w, env, g, x, g1, R, e1, fun I1 H1 s1 R1 => ?_⟩
  cases x with
  | true => exact ⟨w.im I1, env, g1, d, g', R1, e, fun u I2 H2 s2 R2 p2 => k u I2 H2 (s1.trans s2) R2 p2⟩
  | false => exact ⟨w.im I1, env, g1, d, g', R1, e, fun u I2 H2 s2 R2 p2 => k u I2 H2 (s1.trans s2) R2 p2⟩
/-- a < b < c -/
def mChain (f f' : D → D → Option D) (ma mb mc : ME G) : ME G := fun env g => bD (ma env g) fun x g1 => bD (mb env g1) fun y g2 => match f x y with
  | some (.bool true) => bD (mc env g2) fun z g3 => (f' y z).map (·, g3)
  | some (.bool false) => some (.bool false, g2)
  | _ => none
def mChainT (f f' : D → D → Option D) (ma mb mc : ME G) : MT G := fun env g => bD (ma env g) fun x g1 => bD (mb env g1) fun y g2 => match f x y with
  | some (.bool true) => bD (mc env g2) fun z g3 => ((f' y z).bind asB).map (·, g3)
  | some (.bool false) => some (false, g2)
  | _ => none
theorem dt_chain {op op' : CmpOp} {r r' : R2} {f f' : D → D → Option D} (ho : OpR X (compareOp op) r) (hf : OpD X.K r f) (ho' : OpR X (compareOp op') r') (hf' : OpD X.K r' f') (ha : DE X S a ma) (hb : DE X S b mb) (hc : DE X S c mc) (hm : lastMarks [op, op'] [b, c] = false := by rfl) :
    DT X S (.Compare a [op, op'] [b, c] pos) (mChainT f f' ma mb mc) := PT.imp (pt_chain ho ho' ha hb hc hm) fun σ H Q q => by
  obtain ⟨w, env, g, d, g', R, e, k⟩ := q
  obtain ⟨x, g1, e1, e⟩ := bD_some e
  obtain ⟨y, g2, e2, e⟩ := bD_some e
  refine ⟨w, env, g, x, g1, R, e1, fun v I1 H1 s1 R1 p1 => ⟨w.im I1, env, g1, y, g2, R1, e2, fun u I2 H2 s2 R2 p2 => ?_⟩⟩
  cases e3 : f x y with
  | none => rw [e3] at e; cases e
  | some z =>
    rw [e3] at e
    cases z with
    | bool z =>
      refine hf R2.eI (p1.mono s2) p2 e3 fun v3 I3 H3 ps p3 => ?_
      cases p3
      refine ⟨z, rfl, ?_⟩
      cases z with
      | true =>
        obtain ⟨z, g3, e4, e⟩ := bD_some e
        obtain ⟨e5, rfl⟩ := map_some e
        refine ⟨w.im I3, env, g2, z, g', R2.pst ps, e4, fun v4 I4 H4 s4 R4 p4 => ?_⟩
        exact hf' R4.eI ((p2.mono ps.eI).mono s4) p4 (asB_some e5) fun v5 I5 H5 ps5 p5 => by
          cases p5
          exact ⟨d, rfl, k I5 H5 (s1.trans (s2.trans (ps.eI.trans (s4.trans ps5.eI)))) (R4.pst ps5)⟩
      | false => cases e; exact ⟨false, rfl, k I3 H3 (s1.trans (s2.trans ps.eI)) (R2.pst ps)⟩
    | _ => cases e

/-! ### a def of one's own that changes nothing: its promise -/
def spP (K : PySem.W.Frag) (F : List D → Option D) : Sp := fun vs H Q _ => ∃ I ds d, Same I H ∧ RpA K I vs ds ∧ F ds = some d ∧ ∀ v I' H', Pst I H I' H' → Rp K I' v d → Q v H'
theorem de_callP {x : Str} {F : List D → Option D} {p : Pos}
    (run : PE X (.Call (.Name x p) (e :: es) [] pos) (tCall (spP X.K F) [] E0 (tA X.K S ml))) : DE X S (.Call (.Name x p) (e :: es) [] pos) (mCall F ml) := PE.imp run fun σ H Q q => by
  obtain ⟨w, env, g, d, g', R, e, k⟩ := q
  obtain ⟨xs, g1, e1, e⟩ := bD_some e
  obtain ⟨e3, rfl⟩ := map_some e
  refine ⟨w, env, g, xs, g', R, e1, fun vs I1 H1 s1 R1 p1 => ?_⟩
  exact ⟨I1, xs, d, R1.eI, by rw [List.append_nil]; exact p1, e3, fun v I' H' ps r => k v I' H' (s1.trans ps.eI) (R1.pst ps) r⟩
theorem de_callP0 {x : Str} {F : List D → Option D} {p : Pos}
    (run : PE X (.Call (.Name x p) [] [] pos) (tCall (spP X.K F) [] E0 tNil)) : DE X S (.Call (.Name x p) [] [] pos) (mCall F mNil) := PE.imp run fun σ H Q q => by
  obtain ⟨w, env, g, d, g', R, e, k⟩ := q
  have e : (F []).map (·, g) = some (d, g') := e
  obtain ⟨e3, rfl⟩ := map_some e
  exact ⟨w.I, [], d, R.eI, .nil, e3, fun v I' H' ps r => k v I' H' ps.eI (R.pst ps) r⟩
/-- .. whose answer is a new list -/
def spN (K : PySem.W.Frag) (F : List D → Option (List D)) : Sp := fun vs H Q _ => ∃ I ds d, Same I H ∧ RpA K I vs ds ∧ F ds = some d ∧ ∀ p us I' H', Pst I H I' H' → H p = none → I' p = none → H' p = some (.lst us) → RpA K I' us d → d.length ≤ sizeLine → Q (.ref p) H'
theorem df_callN {x : Str} {F : List D → Option (List D)} {p : Pos}
    (run : PE X (.Call (.Name x p) (e :: es) [] pos) (tCall (spN X.K F) [] E0 (tA X.K S ml))) : DF X S (.Call (.Name x p) (e :: es) [] pos) (mCallF F ml) := PE.imp run fun σ H Q q => by
  obtain ⟨w, env, g, d, g', R, e, k⟩ := q
  obtain ⟨xs, g1, e1, e⟩ := bD_some e
  obtain ⟨e3, rfl⟩ := map_some e
  refine ⟨w, env, g, xs, g', R, e1, fun vs I1 H1 s1 R1 p1 => ?_⟩
  exact ⟨I1, xs, d, R1.eI, by rw [List.append_nil]; exact p1, e3, fun p us I' H' ps h0 hi hp ra z => k p us I' H' (s1.trans ps.eI) (R1.pst ps) ⟨hi, (R1.nob h0).h0, (R1.nob h0).f, (R1.nob h0).o⟩ hp ra z⟩
theorem df_callN0 {x : Str} {F : List D → Option (List D)} {p : Pos}
    (run : PE X (.Call (.Name x p) [] [] pos) (tCall (spN X.K F) [] E0 tNil)) : DF X S (.Call (.Name x p) [] [] pos) (mCallF F mNil) := PE.imp run fun σ H Q q => by
  obtain ⟨w, env, g, d, g', R, e, k⟩ := q
  have e : (F []).map (·, g) = some (d, g') := e
  obtain ⟨e3, rfl⟩ := map_some e
  exact ⟨w.I, [], d, R.eI, .nil, e3, fun p us I' H' ps h0 hi hp ra z => k p us I' H' ps.eI (R.pst ps) ⟨hi, (R.nob h0).h0, (R.nob h0).f, (R.nob h0).o⟩ hp ra z⟩

/-! ### a def that is handed the ghost state -/
structure Gst {G : Type} (S : Gs G) (I H : Hp) (g : G) (I' H' : Hp) (g' : G) : Prop where
  eI : Same I I'
  eH : ∀ a o, H a = some o → ¬ S.fp g a → H' a = some o
  sub : Same I' H'
  ag : ∀ a, H a ≠ none → I' a = I a
  fp' : ∀ a, S.fp g' a ↔ S.fp g a
  rt : S.root g' = S.root g
  ok : S.ok g' H'
theorem Rel.gst {K : PySem.W.Frag} {w : Wd} {env : Env} {g g' : G} {σ : St} {H H' I' : Hp} (R : Rel K S w env g σ H) (p : Gst S w.I H g I' H' g') : Rel K S (w.im I') env g' σ H' where
  e0 := fun a o e => p.eH a o (R.e0 a o e) fun z => by
    have := R.f0 a ((R.gfp a).mp z)
    rw [e] at this; cases this
  eI := p.sub
  ag := fun a o e => (p.ag a (by rw [R.e0 a o e]; simp)).trans (R.ag a o e)
  ge := R.ge.trans p.eI
  gfp := fun a => (p.fp' a).trans (R.gfp a)
  grt := p.rt.trans R.grt
  gok := p.ok
  fI := fun a ha => (p.ag a (S.dom R.gok ((R.gfp a).mpr ha))).trans (R.fI a ha)
  f0 := R.f0
  len := R.len
  slot := fun i => by
    have q := R.slot i
    cases e : env.at i with
    | un => trivial
    | sh d => rw [e] at q; obtain ⟨v, e1, r⟩ := q; exact ⟨v, e1, r.mono p.eI⟩
    | kd d => rw [e] at q; obtain ⟨v, e1, r⟩ := q; exact ⟨v, e1, r.mono p.eI⟩
    | st => rw [e] at q; exact q
    | raw v => rw [e] at q; exact q
    | ow ds =>
      rw [e] at q
      obtain ⟨a, vs, e1, hp, hi, h0, hf, r, z⟩ := q
      exact ⟨a, vs, e1, p.eH _ _ hp fun z => hf ((R.gfp a).mp z), (p.ag a (by rw [hp]; simp)).trans hi, h0, hf, r.mono p.eI, z⟩
  dis := R.dis
/-- the arguments of such a def -/
def ArgOk (K : PySem.W.Frag) (I : Hp) (rt : V) (v : V) : SV → Prop
  | .sh d => Rp K I v d
  | .kd d => KdOk K I v d
  | .st => v = rt
  | .raw u => v = u
  | _ => False
inductive ArgsOk (K : PySem.W.Frag) (I : Hp) (rt : V) : List V → List SV → Prop
  | nil : ArgsOk K I rt [] []
  | cons {v vs a as} : ArgOk K I rt v a → ArgsOk K I rt vs as → ArgsOk K I rt (v :: vs) (a :: as)
theorem ArgOk.mono {K : PySem.W.Frag} {I I' : Hp} {rt v : V} {a : SV} (e : Same I I') (h : ArgOk K I rt v a) : ArgOk K I' rt v a := by
  cases a with
  | sh d => exact Rp.mono e h
  | kd d => exact KdOk.mono e h
  | _ => exact h
theorem ArgsOk.len {K : PySem.W.Frag} {I : Hp} {rt : V} : ∀ {vs : List V} {as : List SV}, ArgsOk K I rt vs as → vs.length = as.length
  | _, _, .nil => rfl
  | _, _, .cons _ t => by rw [List.length_cons, List.length_cons, ArgsOk.len t]
abbrev MG (G : Type) := Env → G → Option (List SV × G)
def tG {G : Type} (K : PySem.W.Frag) (S : Gs G) (m : MG G) : TA := fun σ H Q => ∃ w env g as g', Rel K S w env g σ H ∧ m env g = some (as, g') ∧
  ∀ vs I' H', Same w.I I' → Rel K S (w.im I') env g' σ H' → ArgsOk K I' w.rt vs as → Q vs H'
abbrev DG {G : Type} (X : Cx) (S : Gs G) (es : List Expr) (m : MG G) : Prop := PA X es (tG X.K S m)
def gNil : MG G := fun _ g => some ([], g)
def gCons (ma : ME G) (ml : MG G) : MG G := fun env g => bD (ma env g) fun x g1 => bD (ml env g1) fun xs g2 => some (.sh x :: xs, g2)
def gConsS (i : Nat) (ml : MG G) : MG G := fun env g => match env.at i with
  | .st => bD (ml env g) fun xs g2 => some (.st :: xs, g2)
  | .raw v => bD (ml env g) fun xs g2 => some (.raw v :: xs, g2)
  | _ => none
theorem dg_nil : DG X S [] gNil := PA.imp pa_nil fun _ H _ ⟨w, _, _, _, _, R, e, k⟩ => by cases e; exact k [] w.I H (Same.refl _) R .nil
theorem dg_cons {mg : MG G} (ha : DE X S e ma) (hr : DG X S es mg) (hs : starEach (e :: es) X.env = (false, eval e X.env) :: starEach es X.env := by rfl) : DG X S (e :: es) (gCons ma mg) := PA.imp (pa_cons ha hr hs) fun σ H Q h => by
  obtain ⟨w, env, g, d, g', R, e, k⟩ := h
  obtain ⟨x, g1, e1, e⟩ := bD_some e
  obtain ⟨y, g2, e2, e⟩ := bD_some e
  cases e
  exact ⟨w, env, g, x, g1, R, e1, fun v I1 H1 s1 R1 p1 => ⟨w.im I1, env, g1, y, g', R1, e2, fun vs I2 H2 s2 R2 p2 => k (v :: vs) I2 H2 (s1.trans s2) R2 (.cons (p1.mono s2) p2)⟩⟩
theorem dg_st {mg : MG G} {i : Nat} {x : Str} {pos' : Pos} (hr : DG X S es mg) (hN : X.N[i]? = some x := by rfl) (hv : Vis X.env.scope x := by first | exact Or.inl rfl | exact Or.inr (Or.inl rfl) | exact Or.inr (Or.inr rfl)) (hd : (x == ("__debug__" : Str)) = false := by decide)
    (hcd : (x == ("__classdict__" : Str)) = false := by decide) (hs : starEach (.Name x pos' :: es) X.env = (false, eval (.Name x pos') X.env) :: starEach es X.env := by rfl) : DG X S (.Name x pos' :: es) (gConsS i mg) := PA.imp (pa_cons (pe_var hN hv hd hcd) hr hs) fun σ H Q h => by
  obtain ⟨w, env, g, d, g', R, e, k⟩ := h
  have q := R.slot i
  unfold gConsS at e
  cases z : env.at i with
  | st =>
    rw [z] at e q
    obtain ⟨y, g2, e2, e⟩ := bD_some e
    cases e
    exact ⟨_, q, w, env, g, y, g', R, e2, fun vs I2 H2 s2 R2 p2 => k _ I2 H2 s2 R2 (.cons rfl p2)⟩
  | raw v =>
    rw [z] at e q
    obtain ⟨y, g2, e2, e⟩ := bD_some e
    cases e
    exact ⟨_, q, w, env, g, y, g', R, e2, fun vs I2 H2 s2 R2 p2 => k _ I2 H2 s2 R2 (.cons rfl p2)⟩
  | _ => rw [z] at e; cases e
def spG {G : Type} (K : PySem.W.Frag) (S : Gs G) (F : List SV → G → Option (D × G)) : Sp := fun vs H Q _ => ∃ I g as d g', Same I H ∧ S.ok g H ∧ (∀ a, S.fp g a → I a = none) ∧ ArgsOk K I (S.root g) vs as ∧ F as g = some (d, g') ∧
  ∀ v I' H', Gst S I H g I' H' g' → Rp K I' v d → Q v H'
def mCallG (F : List SV → G → Option (D × G)) (mg : MG G) : ME G := fun env g => bD (mg env g) fun as g1 => F as g1
theorem de_callG {x : Str} {F : List SV → G → Option (D × G)} {p : Pos} {mg : MG G}
    (run : PE X (.Call (.Name x p) (e :: es) [] pos) (tCall (spG X.K S F) [] E0 (tG X.K S mg))) : DE X S (.Call (.Name x p) (e :: es) [] pos) (mCallG F mg) := PE.imp run fun σ H Q q => by
  obtain ⟨w, env, g, d, g', R, e, k⟩ := q
  obtain ⟨as, g1, e1, e⟩ := bD_some e
  refine ⟨w, env, g, as, g1, R, e1, fun vs I1 H1 s1 R1 p1 => ?_⟩
  refine ⟨I1, g1, as, d, g', R1.eI, R1.gok, fun a ha => R1.fI a ((R1.gfp a).mp ha), ?_, e, fun v I' H' ps r => k v I' H' (s1.trans ps.eI) (R1.gst ps) r⟩
  rw [List.append_nil, R1.grt]
  exact p1
end
end Pd

/-! Pd: statements, loops, comprehensions, defs. -/
namespace Pd
open PySem PySem.Spec L2

/-- how a statement ends: goes on, breaks, continues, returns data, returns a new list -/
inductive Ct where
  | nx | br | co | re (d : D) | rl (ds : List D)
abbrev MS (G : Type) := Env → G → Option (Ct × Env × G)
section
variable {G : Type} {X : Cx} {S : Gs G} {a b c e : Expr} {es rest : List Expr} {pos : Pos} {ma mb mc : ME G} {mt mu : MT G} {ml : ML G} {st : Stmt} {sts body : List Stmt} {m m1 m2 : MS G}
variable {K : PySem.W.Frag} {w : Wd} {env env' : Env} {g g' : G} {σ : St} {H H' I' : Hp}

/-! ### stores to slots -/
theorem at_set (env : Env) (i k : Nat) (sv : SV) : Env.at (env.set i sv) k = if k = i ∧ i < env.length then sv else env.at k := by
  show (env.set i sv).getD k .un = if k = i ∧ i < env.length then sv else env.getD k .un
  rw [List.getD_eq_getElem?_getD, List.getD_eq_getElem?_getD]
  by_cases h : k = i
  · subst h
    by_cases z : k < env.length
    · rw [List.getElem?_set_self z, if_pos ⟨rfl, z⟩]; rfl
    · rw [if_neg (fun q => z q.2), List.set_eq_of_length_le (by omega)]
  · rw [List.getElem?_set_ne (Ne.symm h), if_neg (fun q => h q.1)]
theorem get_set {α : Type} (σ : List (Option α)) (i k : Nat) (v : Option α) : (σ.set i v)[k]? = if k = i ∧ i < σ.length then some v else σ[k]? := by
  by_cases h : k = i
  · subst h
    by_cases z : k < σ.length
    · rw [List.getElem?_set_self z, if_pos ⟨rfl, z⟩]
    · rw [if_neg (fun q => z q.2), List.set_eq_of_length_le (by omega)]
  · rw [List.getElem?_set_ne (Ne.symm h), if_neg (fun q => h q.1)]
/-- a slot of another: the same in both -/
theorem SlotOk.of_eq {σ' : St} {i : Nat} {sv : SV} (e : σ'[i]? = σ[i]?) (h : SlotOk K w σ H i sv) : SlotOk K w σ' H i sv := by
  cases sv with
  | un => trivial
  | sh d => obtain ⟨v, e1, r⟩ := h; exact ⟨v, e.trans e1, r⟩
  | kd d => obtain ⟨v, e1, r⟩ := h; exact ⟨v, e.trans e1, r⟩
  | st => exact Eq.trans e h
  | raw v => exact Eq.trans e h
  | ow ds => obtain ⟨p, vs, e1, r⟩ := h; exact ⟨p, vs, e.trans e1, r⟩
theorem Rel.put {i : Nat} {v : V} {sv : SV} (R : Rel K S w env g σ H) (h1 : ∀ k, (σ.set i (some v))[k]? = some (some v) → k = i → SlotOk K w (σ.set i (some v)) H k sv)
    (h2 : ∀ p ds, sv = .ow ds → v = .ref p → ∀ j es, env.at j = .ow es → σ[j]? ≠ some (some (.ref p))) : Rel K S w (env.set i sv) g (σ.set i (some v)) H where
  e0 := R.e0
  eI := R.eI
  ag := R.ag
  ge := R.ge
  gfp := R.gfp
  grt := R.grt
  gok := R.gok
  fI := R.fI
  f0 := R.f0
  len := by rw [List.length_set, List.length_set]; exact R.len
  slot := fun k => by
    rw [at_set]
    by_cases h : k = i ∧ i < env.length
    · rw [if_pos h]
      exact h1 k (by rw [get_set, if_pos ⟨h.1, by rw [R.len]; exact h.2⟩]) h.1
    · rw [if_neg h]
      exact (R.slot k).of_eq (by rw [get_set, if_neg (by rw [R.len]; exact h)])
  dis := fun k j p ds es hkj e1 e2 q1 q2 => by
    rw [at_set] at e1 e2
    rw [get_set, R.len] at q1 q2
    by_cases hk : k = i ∧ i < env.length
    · have hj : ¬ (j = i ∧ i < env.length) := fun z => hkj (hk.1.trans z.1.symm)
      rw [if_pos hk] at e1 q1
      rw [if_neg hj] at e2 q2
      cases q1
      exact h2 p ds e1 rfl j es e2 q2
    · rw [if_neg hk] at e1 q1
      by_cases hj : j = i ∧ i < env.length
      · rw [if_pos hj] at e2 q2
        cases q2
        exact h2 p es e2 rfl k ds e1 q1
      · rw [if_neg hj] at e2 q2
        exact R.dis k j p ds es hkj e1 e2 q1 q2
theorem Rel.putD {i : Nat} {v : V} {d : D} (R : Rel K S w env g σ H) (r : Rp K w.I v d) : Rel K S w (env.set i (.sh d)) g (σ.set i (some v)) H :=
  R.put (fun k e _ => ⟨v, e, r⟩) fun p ds z => nomatch z
theorem Rel.putRaw {i : Nat} {v : V} (R : Rel K S w env g σ H) : Rel K S w (env.set i (.raw v)) g (σ.set i (some v)) H :=
  R.put (fun k e _ => e) fun p ds z => nomatch z
theorem Rel.putL {i : Nat} {p : Addr} {vs : List V} {ds : List D} (R : Rel K S w env g σ H) (n : Nob w env σ p) (hp : H p = some (.lst vs)) (ra : RpA K w.I vs ds) (hz : ds.length ≤ sizeLine) : Rel K S w (env.set i (.ow ds)) g (σ.set i (some (.ref p))) H :=
  R.put (fun k e _ => ⟨p, vs, e, hp, n.i, n.h0, n.f, ra, hz⟩) fun q es z e j fs ej => by cases e; exact n.o j fs ej
/-- a list of one's own is written -/
theorem Rel.setOw {j : Nat} {p : Addr} {vs us : List V} {ds es : List D} (R : Rel K S w env g σ H) (ej : env.at j = .ow ds) (sj : σ[j]? = some (some (.ref p))) (hp : H p = some (.lst vs)) (hi : w.I p = none) (h0 : w.H0 p = none) (hf : ¬ w.fp p)
    (ra : RpA K w.I us es) (hz : es.length ≤ sizeLine) : Rel K S w (env.set j (.ow es)) g σ (upd H p (.lst us)) where
  e0 := fun a o e => by
    have z : a ≠ p := fun z => by rw [z, h0] at e; cases e
    rw [upd_ne z]; exact R.e0 a o e
  eI := fun a o e => by
    have z : a ≠ p := fun z => by rw [z, hi] at e; cases e
    rw [upd_ne z]; exact R.eI a o e
  ag := R.ag
  ge := R.ge
  gfp := R.gfp
  grt := R.grt
  gok := S.loc (fun a ha => by
    have z : a ≠ p := fun z => hf (z ▸ (R.gfp a).mp ha)
    exact upd_ne z) R.gok
  fI := R.fI
  f0 := R.f0
  len := by rw [List.length_set]; exact R.len
  slot := fun k => by
    rw [at_set]
    by_cases h : k = j ∧ j < env.length
    · rw [if_pos h]
      refine ⟨p, us, by rw [h.1]; exact sj, upd_same, hi, h0, hf, ra, hz⟩
    · rw [if_neg h]
      have q := R.slot k
      cases e : env.at k with
      | un => trivial
      | sh d => rw [e] at q; exact q
      | kd d => rw [e] at q; exact q
      | st => rw [e] at q; exact q
      | raw v => rw [e] at q; exact q
      | ow fs =>
        rw [e] at q
        obtain ⟨a, ws, e1, hp', r⟩ := q
        have hkj : j ≠ k := fun z => by
          subst z
          refine h ⟨rfl, ?_⟩
          have := (List.getElem?_eq_some_iff.mp sj).1
          rw [R.len] at this; exact this
        have ne : a ≠ p := fun z => R.dis j k p ds fs hkj ej e sj (z ▸ e1)
        exact ⟨a, ws, e1, (upd_ne ne).trans hp', r⟩
  dis := fun k l q fs hs hkl e1 e2 q1 q2 => by
    have un : ∀ k fs, Env.at (env.set j (.ow es)) k = .ow fs → ∃ gs, env.at k = .ow gs := fun k fs e => by
      rw [at_set] at e
      by_cases h : k = j ∧ j < env.length
      · exact ⟨ds, by rw [h.1]; exact ej⟩
      · rw [if_neg h] at e; exact ⟨fs, e⟩
    obtain ⟨gs, f1⟩ := un k fs e1
    obtain ⟨gs', f2⟩ := un l hs e2
    exact R.dis k l q gs gs' hkl f1 f2 q1 q2
/-- a slot's own list becomes one that stands -/
def Env.frz (env : Env) (j : Nat) : Env := match env.at j with
  | .ow ds => env.set j (.sh (.list ds))
  | _ => env
theorem Rel.frz (j : Nat) (R : Rel K S w env g σ H) : ∃ I', Same w.I I' ∧ Rel K S (w.im I') (env.frz j) g σ H := by
  unfold Env.frz
  cases e : env.at j with
  | ow ds =>
    have q := R.slot j
    rw [e] at q
    obtain ⟨p, vs, e1, hp, hi, h0, hf, ra, hz⟩ := q
    refine ⟨upd w.I p (.lst vs), same_new hi, ?_⟩
    exact {
      e0 := R.e0
      eI := fun b u q => by
        have q : upd w.I p (.lst vs) b = some u := q
        by_cases z : b = p
        · subst z; rw [upd_same] at q; rw [hp]; exact q
        · rw [upd_ne z] at q; exact R.eI b u q
      ag := fun a u e => by
        have z : a ≠ p := fun z => by rw [z, h0] at e; cases e
        exact (upd_ne z).trans (R.ag a u e)
      ge := R.ge.trans (same_new hi)
      gfp := R.gfp
      grt := R.grt
      gok := R.gok
      fI := fun a ha => by
        have z : a ≠ p := fun z => hf (z ▸ ha)
        exact (upd_ne z).trans (R.fI a ha)
      f0 := R.f0
      len := by rw [List.length_set]; exact R.len
      slot := fun k => by
        rw [at_set]
        by_cases h : k = j ∧ j < env.length
        · rw [if_pos h]
          exact ⟨.ref p, by rw [h.1]; exact e1, .lst upd_same (ra.mono (same_new hi)) hz⟩
        · rw [if_neg h]
          have q := R.slot k
          cases e' : env.at k with
          | un => trivial
          | sh d => rw [e'] at q; obtain ⟨v, f1, r⟩ := q; exact ⟨v, f1, r.mono (same_new hi)⟩
          | kd d => rw [e'] at q; obtain ⟨v, f1, r⟩ := q; exact ⟨v, f1, r.mono (same_new hi)⟩
          | st => rw [e'] at q; exact q
          | raw v => rw [e'] at q; exact q
          | ow fs =>
            rw [e'] at q
            obtain ⟨a, ws, f1, hp', hi', h0', hf', r, z⟩ := q
            have hkj : j ≠ k := fun z => by
              subst z
              refine h ⟨rfl, ?_⟩
              have := (List.getElem?_eq_some_iff.mp e1).1
              rw [R.len] at this; exact this
            have ne : a ≠ p := fun z => R.dis j k p ds fs hkj e e' e1 (z ▸ f1)
            exact ⟨a, ws, f1, hp', (upd_ne ne).trans hi', h0', hf', r.mono (same_new hi), z⟩
      dis := fun k l q fs hs hkl e1 e2 q1 q2 => by
        have un : ∀ k fs, Env.at (env.set j (.sh (.list ds))) k = .ow fs → env.at k = .ow fs := fun k fs e => by
          rw [at_set] at e
          by_cases h : k = j ∧ j < env.length
          · rw [if_pos h] at e; cases e
          · rw [if_neg h] at e; exact e
        exact R.dis k l q fs hs hkl (un k fs e1) (un l hs e2) q1 q2 }
  | _ => exact ⟨w.I, Same.refl _, R⟩

/-! ### a statement's reading -/
def Post {G : Type} (K : PySem.W.Frag) (S : Gs G) (w : Wd) (env' : Env) (g' : G) (D : Ends) : Ct → Prop
  | .nx => ∀ σ' I' H', Same w.I I' → Rel K S (w.im I') env' g' σ' H' → D.nx σ' H'
  | .br => ∀ σ' I' H', Same w.I I' → Rel K S (w.im I') env' g' σ' H' → D.bk σ' H'
  | .co => ∀ σ' I' H', Same w.I I' → Rel K S (w.im I') env' g' σ' H' → D.ct σ' H'
  | .re d => ∀ v σ' I' H', Same w.I I' → Rel K S (w.im I') env' g' σ' H' → Rp K I' v d → D.rt v H'
  | .rl ds => ∀ p vs σ' I' H', Same w.I I' → Rel K S (w.im I') env' g' σ' H' → Nob (w.im I') env' σ' p → H' p = some (.lst vs) → RpA K I' vs ds → ds.length ≤ sizeLine → D.rt (.ref p) H'
theorem Post.mono {D : Ends} {c : Ct} (s : Same w.I I') (h : Post K S w env' g' D c) : Post K S (w.im I') env' g' D c := by
  cases c with
  | nx => exact fun σ' I2 H2 s2 R => h σ' I2 H2 (s.trans s2) R
  | br => exact fun σ' I2 H2 s2 R => h σ' I2 H2 (s.trans s2) R
  | co => exact fun σ' I2 H2 s2 R => h σ' I2 H2 (s.trans s2) R
  | re d => exact fun v σ' I2 H2 s2 R => h v σ' I2 H2 (s.trans s2) R
  | rl ds => exact fun p vs σ' I2 H2 s2 R => h p vs σ' I2 H2 (s.trans s2) R
def tS {G : Type} (K : PySem.W.Frag) (S : Gs G) (m : MS G) : TS := fun D σ H => ∃ w env g c env' g', Rel K S w env g σ H ∧ m env g = some (c, env', g') ∧ Post K S w env' g' D c
abbrev DS {G : Type} (X : Cx) (S : Gs G) (st : Stmt) (m : MS G) : Prop := PS X st (tS X.K S m)
abbrev DB {G : Type} (X : Cx) (S : Gs G) (st : List Stmt) (m : MS G) : Prop := PSs X st (tS X.K S m)

def mSkip : MS G := fun env g => some (.nx, env, g)
def mSeq (m1 m2 : MS G) : MS G := fun env g => match m1 env g with
  | some (.nx, env1, g1) => m2 env1 g1
  | x => x
theorem db_nil : DB X S [] mSkip := PSs.imp pss_nil fun D σ H ⟨w, env, g, c, env', g', R, e, k⟩ => by
  cases e
  exact k σ w.I H (Same.refl _) R
theorem ts_seq {D : Ends} (h : tS X.K S (mSeq m1 m2) D σ H) : tSeq (tS X.K S m1) (tS X.K S m2) D σ H := by
  obtain ⟨w, env, g, c, env', g', R, e, k⟩ := h
  unfold mSeq at e
  cases e1 : m1 env g with
  | none => rw [e1] at e; cases e
  | some r =>
    obtain ⟨c1, env1, g1⟩ := r
    rw [e1] at e
    refine ⟨w, env, g, c1, env1, g1, R, e1, ?_⟩
    cases c1 with
    | nx => exact fun σ' I' H' s' R' => ⟨w.im I', env1, g1, c, env', g', R', e, k.mono s'⟩
    | _ => cases e; exact k
theorem db_cons (h1 : DS X S st m1) (h2 : DB X S sts m2) : DB X S (st :: sts) (mSeq m1 m2) := PSs.imp (pss_cons h1 h2) fun _ _ _ h => ts_seq h
theorem db_one (h : DS X S st m) : DB X S [st] m := pss_one h
def mBreak : MS G := fun env g => some (.br, env, g)
def mCont : MS G := fun env g => some (.co, env, g)
theorem ds_pass : DS X S (.Pass pos) mSkip := PS.imp ps_pass fun D σ H ⟨w, env, g, c, env', g', R, e, k⟩ => by cases e; exact k σ w.I H (Same.refl _) R
theorem ds_break : DS X S (.Break pos) mBreak := PS.imp ps_break fun D σ H ⟨w, env, g, c, env', g', R, e, k⟩ => by cases e; exact k σ w.I H (Same.refl _) R
theorem ds_continue : DS X S (.Continue pos) mCont := PS.imp ps_continue fun D σ H ⟨w, env, g, c, env', g', R, e, k⟩ => by cases e; exact k σ w.I H (Same.refl _) R
def mDrop (ma : ME G) : MS G := fun env g => bD (ma env g) fun _ g1 => some (.nx, env, g1)
theorem ds_expr (h : DE X S e ma) (hs : swapsWith e none pos.line X.env = pure false := by rfl) : DS X S (.Expr e pos) (mDrop ma) := PS.imp (ps_expr h hs) fun D σ H ⟨w, env, g, c, env', g', R, e, k⟩ => by
  obtain ⟨x, g1, e1, e⟩ := bD_some e
  cases e
  exact ⟨w, env, g, x, g', R, e1, fun v I' H' s' R' _ => k σ I' H' s' R'⟩
def mRet (ma : ME G) : MS G := fun env g => bD (ma env g) fun d g1 => some (.re d, env, g1)
theorem ds_ret (h : DE X S e ma) : DS X S (.Return (some e) pos) (mRet ma) := PS.imp (ps_ret h) fun D σ H ⟨w, env, g, c, env', g', R, e, k⟩ => by
  obtain ⟨x, g1, e1, e⟩ := bD_some e
  cases e
  exact ⟨w, env, g, x, g', R, e1, fun v I' H' s' R' p => k v σ I' H' s' R' p⟩
def mRetN : MS G := fun env g => some (.re .none, env, g)
theorem ds_retN : DS X S (.Return none pos) mRetN := PS.imp ps_retN fun D σ H ⟨w, env, g, c, env', g', R, e, k⟩ => by
  cases e
  exact k .non σ w.I H (Same.refl _) R .non
def mRetF (ml : ML G) : MS G := fun env g => bD (ml env g) fun ds g1 => some (.rl ds, env, g1)
theorem ds_retF (h : DF X S e ml) : DS X S (.Return (some e) pos) (mRetF ml) := PS.imp (ps_ret h) fun D σ H ⟨w, env, g, c, env', g', R, e, k⟩ => by
  obtain ⟨x, g1, e1, e⟩ := bD_some e
  cases e
  exact ⟨w, env, g, x, g', R, e1, fun p vs I' H' s' R' n hp ra hz => k p vs σ I' H' s' R' n hp ra hz⟩
/-- a slot that is not asked any more -/
theorem Rel.forget {i : Nat} (R : Rel K S w env g σ H) : Rel K S w (env.set i .un) g σ H where
  e0 := R.e0
  eI := R.eI
  ag := R.ag
  ge := R.ge
  gfp := R.gfp
  grt := R.grt
  gok := R.gok
  fI := R.fI
  f0 := R.f0
  len := by rw [List.length_set]; exact R.len
  slot := fun k => by
    rw [at_set]
    by_cases h : k = i ∧ i < env.length
    · rw [if_pos h]; trivial
    · rw [if_neg h]; exact R.slot k
  dis := fun k j p ds es hkj e1 e2 q1 q2 => by
    rw [at_set] at e1 e2
    by_cases hk : k = i ∧ i < env.length
    · rw [if_pos hk] at e1; cases e1
    · by_cases hj : j = i ∧ i < env.length
      · rw [if_pos hj] at e2; cases e2
      · rw [if_neg hk] at e1; rw [if_neg hj] at e2
        exact R.dis k j p ds es hkj e1 e2 q1 q2
/-- return a list of one's own -/
def mRetOw (j : Nat) : MS G := fun env g => match env.at j with
  | .ow ds => some (.rl ds, env.set j .un, g)
  | .sh d => some (.re d, env, g)
  | _ => none
theorem ds_retOw (j : Nat) {x : Str} {pos' : Pos} (hN : X.N[j]? = some x := by rfl) (hv : Vis X.env.scope x := by first | exact Or.inl rfl | exact Or.inr (Or.inl rfl) | exact Or.inr (Or.inr rfl)) (hd : (x == ("__debug__" : Str)) = false := by decide)
    (hcd : (x == ("__classdict__" : Str)) = false := by decide) : DS X S (.Return (some (.Name x pos')) pos) (mRetOw j) := PS.imp (ps_ret (pe_var hN hv hd hcd)) fun D σ H ⟨w, env, g, c, env', g', R, e, k⟩ => by
  have q := R.slot j
  unfold mRetOw at e
  cases z : env.at j with
  | ow ds =>
    rw [z] at e q
    cases e
    obtain ⟨p, vs, e1, hp, hi, h0, hf, ra, hz⟩ := q
    have jl : j < env.length := by rw [← R.len]; exact (List.getElem?_eq_some_iff.mp e1).1
    refine ⟨_, e1, k p vs σ w.I H (Same.refl _) R.forget ⟨hi, h0, hf, fun i es ei si => ?_⟩ hp ra hz⟩
    rw [at_set] at ei
    by_cases hij : i = j ∧ j < env.length
    · rw [if_pos hij] at ei; cases ei
    · rw [if_neg hij] at ei
      exact R.dis j i p ds es (fun q => hij ⟨q.symm, jl⟩) z ei e1 si
  | sh d =>
    rw [z] at e q
    cases e
    obtain ⟨v, e1, r⟩ := q
    exact ⟨v, e1, k v σ w.I H (Same.refl _) R r⟩
  | _ => rw [z] at e; cases e
def mIfS (mt : MT G) (m1 m2 : MS G) : MS G := fun env g => bD (mt env g) fun b g1 => if b = true then m1 env g1 else m2 env g1
theorem ds_if {sts2 : List Stmt} (hc : DT X S c mt) (h1 : DB X S sts m1) (h2 : DB X S sts2 m2) : DS X S (.If c sts sts2 pos) (mIfS mt m1 m2) := PS.imp (ps_if hc h1 h2) fun D σ H ⟨w, env, g, c, env', g', R, e, k⟩ => by
  obtain ⟨x, g1, e1, e⟩ := bD_some e
  refine ⟨w, env, g, x, g1, R, e1, fun I' H' s' R' => ?_⟩
  cases x with
  | true => exact ⟨w.im I', env, g1, c, env', g', R', e, k.mono s'⟩
  | false => exact ⟨w.im I', env, g1, c, env', g', R', e, k.mono s'⟩
/-- a list of one's own is handed out from here on -/
def mFrz (j : Nat) (m : MS G) : MS G := fun env g => m (env.frz j) g
theorem ds_frz (j : Nat) (h : DS X S st m) : DS X S st (mFrz j m) := PS.imp h fun D σ H ⟨w, env, g, c, env', g', R, e, k⟩ => by
  obtain ⟨I', s', R'⟩ := R.frz j
  exact ⟨w.im I', env.frz j, g, c, env', g', R', e, k.mono s'⟩

/-! ### x = e -/
def mSet (i : Nat) (ma : ME G) : MS G := fun env g => bD (ma env g) fun d g1 => some (.nx, env.set i (.sh d), g1)
def mSetF (i : Nat) (ml : ML G) : MS G := fun env g => bD (ml env g) fun ds g1 => some (.nx, env.set i (.ow ds), g1)
theorem ts_set {i : Nat} {D : Ends} (h : tS X.K S (mSet i ma) D σ H) : tAsg (tE X.K S ma) (gName i) D σ H := by
  obtain ⟨w, env, g, c, env', g', R, e, k⟩ := h
  obtain ⟨x, g1, e1, e⟩ := bD_some e
  cases e
  exact ⟨w, env, g, x, g', R, e1, fun v I' H' s' R' p => k _ I' H' s' (R'.putD p)⟩
theorem ts_setF {i : Nat} {D : Ends} (h : tS X.K S (mSetF i ml) D σ H) : tAsg (tF X.K S ml) (gName i) D σ H := by
  obtain ⟨w, env, g, c, env', g', R, e, k⟩ := h
  obtain ⟨x, g1, e1, e⟩ := bD_some e
  cases e
  exact ⟨w, env, g, x, g', R, e1, fun p vs I' H' s' R' n hp ra hz => k _ I' H' s' (R'.putL n hp ra hz)⟩
theorem ds_set {i : Nat} {x : Str} {pos' : Pos} (hN : X.N.Nodup) (hi : X.N[i]? = some x) (hx : Loc X.env.scope x) (he : DE X S e ma) (hs : swapsWith e (some (.Name x pos')) pos.line X.env = pure false := by rfl)
    (hf : X.fn x = true ∨ X.env.scope.names.lookup x = some .local := by first | exact .inl rfl | exact .inr rfl | assumption) : DS X S (.Assign [.Name x pos'] e pos) (mSet i ma) := PS.imp (ps_set hN hi hx he hs hf) fun _ _ _ h => ts_set h
theorem ds_setF {i : Nat} {x : Str} {pos' : Pos} (hN : X.N.Nodup) (hi : X.N[i]? = some x) (hx : Loc X.env.scope x) (he : DF X S e ml) (hs : swapsWith e (some (.Name x pos')) pos.line X.env = pure false := by rfl)
    (hf : X.fn x = true ∨ X.env.scope.names.lookup x = some .local := by first | exact .inl rfl | exact .inr rfl | assumption) : DS X S (.Assign [.Name x pos'] e pos) (mSetF i ml) := PS.imp (ps_set hN hi hx he hs hf) fun _ _ _ h => ts_setF h

/-! ### targets -/
abbrev MTg (G : Type) := D → Env → G → Option (Env × G)
def tTg {G : Type} (K : PySem.W.Frag) (S : Gs G) (idx : List Nat) (b : MTg G) : TG := fun v σ H Q => ∃ w env g d env' g', Rel K S w env g σ H ∧ Rp K w.I v d ∧ b d env g = some (env', g') ∧
  ∀ σ' I' H', Same w.I I' → Rel K S (w.im I') env' g' σ' H' → σ'.length = σ.length → (∀ k, k ∉ idx → σ'[k]? = σ[k]?) → Q σ' H'
structure DTg {G : Type} (X : Cx) (S : Gs G) (tg : Expr) (idx : List Nat) (b : MTg G) : Prop where
  pg : PG X tg (tTg X.K S idx b)
  ok : ∀ d env g env' g', b d env g = some (env', g') → env'.length = env.length ∧ ∀ k, k ∉ idx → env'.at k = env.at k
def bName (i : Nat) : MTg G := fun d env g => some (env.set i (.sh d), g)
theorem PG.imp {tg : Expr} {t t' : TG} (h : PG X tg t) (i : ∀ v σ H Q, t' v σ H Q → t v σ H Q) : PG X tg t' := ⟨fun pins s σ H v u Q I r q => h.run pins s σ H v u Q I r (i _ _ _ _ q)⟩
theorem dg_name {i : Nat} {x : Str} (hN : X.N.Nodup) (hi : X.N[i]? = some x) (hx : Loc X.env.scope x) (hf : X.fn x = true ∨ X.env.scope.names.lookup x = some .local := by first | exact .inl rfl | exact .inr rfl | assumption) : DTg X S (.Name x pos) [i] (bName i) where
  pg := PG.imp (pg_name hN hi hx hf) fun v σ H Q ⟨w, env, g, d, env', g', R, p, e, k⟩ => by
    cases e
    exact k _ w.I _ (Same.refl _) (R.putD p) (by rw [List.length_set]) fun j hj => by rw [get_set, if_neg (fun z => hj (by simp [z.1]))]
  ok := fun d env g env' g' e => by
    cases e
    exact ⟨by rw [List.length_set], fun k hk => by rw [at_set, if_neg (fun z => hk (by simp [z.1]))]⟩
abbrev MTgs (G : Type) := List D → Env → G → Option (Env × G)
def tTgs {G : Type} (K : PySem.W.Frag) (S : Gs G) (idx : List Nat) (b : MTgs G) : TGs := fun vs σ H Q => ∃ w env g ds env' g', Rel K S w env g σ H ∧ RpA K w.I vs ds ∧ b ds env g = some (env', g') ∧
  ∀ σ' I' H', Same w.I I' → Rel K S (w.im I') env' g' σ' H' → σ'.length = σ.length → (∀ k, k ∉ idx → σ'[k]? = σ[k]?) → Q σ' H'
structure DTgs {G : Type} (X : Cx) (S : Gs G) (tgs : List Expr) (idx : List Nat) (b : MTgs G) : Prop where
  pg : PGs X tgs (tTgs X.K S idx b)
  ok : ∀ d env g env' g', b d env g = some (env', g') → env'.length = env.length ∧ ∀ k, k ∉ idx → env'.at k = env.at k
theorem PGs.imp {tg : List Expr} {t t' : TGs} (h : PGs X tg t) (i : ∀ v σ H Q, t' v σ H Q → t v σ H Q) : PGs X tg t' := ⟨fun pins s σ H v u Q I r q => h.run pins s σ H v u Q I r (i _ _ _ _ q)⟩
def bNil : MTgs G := fun ds env g => match ds with
  | [] => some (env, g)
  | _ => none
def bCons (b : MTg G) (bs : MTgs G) : MTgs G := fun ds env g => match ds with
  | d :: r => (b d env g).bind fun q => bs r q.1 q.2
  | _ => none
theorem dgs_nil : DTgs X S [] [] bNil where
  pg := PGs.imp pgs_nil fun v σ H Q ⟨w, env, g, d, env', g', R, p, e, k⟩ => by
    cases p with
    | nil => cases e; exact ⟨rfl, k σ w.I H (Same.refl _) R rfl fun _ _ => rfl⟩
    | cons _ _ => cases e
  ok := fun d env g env' g' e => by
    cases d with
    | nil => cases e; exact ⟨rfl, fun _ _ => rfl⟩
    | cons _ _ => cases e
theorem dgs_cons {i1 i2 : List Nat} {b1 : MTg G} {b2 : MTgs G} (h1 : DTg X S e i1 b1) (h2 : DTgs X S es i2 b2) (hs : (assignEach (e :: es) X.env).map (·.2) = assign e X.env :: (assignEach es X.env).map (·.2) := by rfl) : DTgs X S (e :: es) (i1 ++ i2) (bCons b1 b2) where
  pg := PGs.imp (pgs_cons h1.pg h2.pg hs) fun v σ H Q ⟨w, env, g, d, env', g', R, p, e, k⟩ => by
    cases p with
    | nil => cases e
    | cons p ps =>
      obtain ⟨⟨env1, g1⟩, e1, e⟩ := Option.bind_eq_some_iff.mp e
      refine ⟨_, _, rfl, w, env, g, _, env1, g1, R, p, e1, fun σ1 I1 H1 s1 R1 l1 f1 => ⟨w.im I1, env1, g1, _, env', g', R1, ps.mono s1, e, fun σ2 I2 H2 s2 R2 l2 f2 => k σ2 I2 H2 (s1.trans s2) R2 (l2.trans l1) fun j hj => ?_⟩⟩
      rw [List.mem_append] at hj
      exact (f2 j fun z => hj (.inr z)).trans (f1 j fun z => hj (.inl z))
  ok := fun d env g env' g' e => by
    cases d with
    | nil => cases e
    | cons d ds =>
      obtain ⟨⟨env1, g1⟩, e1, e⟩ := Option.bind_eq_some_iff.mp e
      have h3 := h1.ok _ _ _ _ _ e1
      have h4 := h2.ok _ _ _ _ _ e
      refine ⟨h4.1.trans h3.1, fun k hk => ?_⟩
      rw [List.mem_append] at hk
      exact (h4.2 k fun z => hk (.inr z)).trans (h3.2 k fun z => hk (.inl z))
def bTup (n : Nat) (bs : MTgs G) : MTg G := fun d env g => match d with
  | .tuple ds => if ds.length = n then bs ds env g else none
  | _ => none
theorem dg_tup {k n : Nat} {idx : List Nat} {bs : MTgs G} (hc : X.calm = true) (h : DTgs X S es idx bs) (hn : (assignEach es X.env).length = n := by rfl) (hst : (assignEach es X.env).findIdx? (·.1) = none := by rfl) : DTg X S (.Tuple es k pos) idx (bTup n bs) where
  pg := PG.imp (pg_tup hc h.pg hn hst) fun v σ H Q ⟨w, env, g, d, env', g', R, p, e, k⟩ => by
    cases p with
    | tup hp ra hz =>
      have e : (if _ = n then _ else none) = some (env', g') := e
      split at e
      · rename_i hl
        exact ⟨_, _, rfl, same_t R.eI hp, by rw [ra.len]; exact hl, w, env, g, _, env', g', R, ra, e, k⟩
      · cases e
    | _ => cases e
  ok := fun d env g env' g' e => by
    cases d with
    | tuple ds =>
      have e : (if _ = n then _ else none) = some (env', g') := e
      split at e
      · exact h.ok _ _ _ _ _ e
      · cases e
    | _ => cases e
/-- a, b = c, d of plain names -/
def mPar (i j : Nat) (ml : ML G) : MS G := fun env g => bD (ml env g) fun ds g1 => match ds with
  | [x, y] => some (.nx, (env.set i (.sh x)).set j (.sh y), g1)
  | _ => none
theorem ds_par {i j : Nat} {x y : Str} {a b : Expr} {px py pt : Pos} {kt k2 pt2} (hc : X.calm = true) (hN : X.N.Nodup) (hi : X.N[i]? = some x) (hj : X.N[j]? = some y) (hij : i ≠ j)
    (hx : X.env.scope.names.lookup x = some .local) (hy : X.env.scope.names.lookup y = some .local) (ha : DA X S [a, b] ml)
    (hw : swappedStores [.Tuple [.Name x px, .Name y py] kt pt] (.Tuple [a, b] k2 pt2) X.env = pure (some [x, y]))
    (hs : swapsWithSole [.Tuple [.Name x px, .Name y py] kt pt] (.Tuple [a, b] k2 pt2) pos.line X.env = pure false := by rfl) :
    DS X S (.Assign [.Tuple [.Name x px, .Name y py] kt pt] (.Tuple [a, b] k2 pt2) pos) (mPar i j ml) := PS.imp (ps_par hc hN hi hj hij hx hy ha hw hs) fun D σ H ⟨w, env, g, c, env', g', R, e, k⟩ => by
  obtain ⟨ds, g1, e1, e⟩ := bD_some e
  split at e
  · cases e
    refine ⟨w, env, g, _, g', R, e1, fun vs I' H' s' R' ra => ?_⟩
    cases ra with
    | cons r1 ra =>
      cases ra with
      | cons r2 ra =>
        cases ra
        exact ⟨_, _, rfl, k _ I' H' s' ((R'.putD r1).putD r2)⟩
  · cases e
/-- a, b = e -/
def mAsg (b : MTg G) (ma : ME G) : MS G := fun env g => bD (ma env g) fun d g1 => (b d env g1).map fun q => (.nx, q.1, q.2)
theorem ds_asg {tg : Expr} {idx : List Nat} {bt : MTg G} (he : DE X S e ma) (hg : DTg X S tg idx bt) (hs : swapsWithSole [tg] e pos.line X.env = pure false := by rfl) (hw : swappedStores [tg] e X.env = pure none := by rfl)
    (h1 : (assignEach [tg] X.env).map (·.2) = [assign tg X.env] := by rfl) : DS X S (.Assign [tg] e pos) (mAsg bt ma) := PS.imp (ps_asg he hg.pg hs hw h1) fun D σ H ⟨w, env, g, c, env', g', R, e, k⟩ => by
  obtain ⟨x, g1, e1, e⟩ := bD_some e
  obtain ⟨⟨env1, g2⟩, e2, e⟩ := Option.map_eq_some_iff.mp e
  cases e
  exact ⟨w, env, g, x, g1, R, e1, fun v I' H' s' R' p => ⟨w.im I', env, g1, x, env1, g2, R', p, e2, fun σ' I2 H2 s2 R2 _ _ => k σ' I2 H2 (s'.trans s2) R2⟩⟩
end
end Pd

/-! Pd: what is walked, loops, comprehensions. -/
namespace Pd
open PySem PySem.Spec L2
section
variable {G : Type} {X : Cx} {S : Gs G} {a b c e : Expr} {es rest : List Expr} {pos : Pos} {ma mb mc : ME G} {mt mu : MT G} {ml : ML G} {st : Stmt} {sts body : List Stmt} {m m1 m2 : MS G} {tg iter : Expr}
variable {K : PySem.W.Frag} {w : Wd} {env env' : Env} {g g' : G} {σ : St} {H H' I' : Hp}

/-! ### what is walked: it yields data, whatever stands behind -/
structure ItOk (K : PySem.W.Frag) (J : It) (I : Hp) (ds : List D) : Prop where
  go : ∀ i I' H', i < ds.length → Same I I' → Same I' H' → J.go i H'
  yl : ∀ i I' H' x H'' d, ds[i]? = some d → Same I I' → Same I' H' → J.yld i H' x H'' → ∃ I'', Pst I' H' I'' H'' ∧ Rp K I'' x d
  st : ∀ i I' H', ds.length ≤ i → Same I I' → Same I' H' → J.stop i H'
def tI {G : Type} (K : PySem.W.Frag) (S : Gs G) (m : ML G) : TI := fun σ H R => ∃ w env g ds g', Rel K S w env g σ H ∧ m env g = some (ds, g') ∧
  ∀ J I' H', Same w.I I' → Rel K S (w.im I') env g' σ H' → ItOk K J I' ds → ds.length ≤ sizeLine → R J H'
abbrev DI {G : Type} (X : Cx) (S : Gs G) (tg iter : Expr) (m : ML G) : Prop := PI X tg iter (tI X.K S m)
theorem PI.imp {t t' : TI} (h : PI X tg iter t) (i : ∀ σ H R, t' σ H R → t σ H R) : PI X tg iter t' := ⟨fun pins s σ H R I q => h.run pins s σ H R I (i _ _ _ q)⟩
def mItL (ma : ME G) : ML G := fun env g => bD (ma env g) fun x g1 => match x with
  | .list ds => some (ds, g1)
  | _ => none
def mItT (ma : ME G) : ML G := fun env g => bD (ma env g) fun x g1 => match x with
  | .tuple ds => some (ds, g1)
  | _ => none
def mItS (ma : ME G) : ML G := fun env g => bD (ma env g) fun x g1 => match x with
  | .str z => some (z.cps.toList.map fun c => .str ⟨#[c]⟩, g1)
  | _ => none
theorem lst_seq {K : PySem.W.Frag} {H : Hp} {p : Addr} {vs xs : List V} (hp : H p = some (.lst vs)) (h : Rd H p (.lst xs)) : xs = vs := by
  rcases h with h | ⟨o, h⟩
  · rw [hp] at h; cases h; rfl
  · rw [hp] at h; cases h
theorem itl_ok {p : Addr} {vs : List V} {ds : List D} {I : Hp} (hp : I p = some (.lst vs)) (ra : RpA K I vs ds) : ItOk K (Itl K p) I ds where
  go := fun i I' H' hi s1 s2 => by
    have hv : i < vs.length := by rw [ra.len]; exact hi
    exact ⟨vs, vs[i], SqL.of (s2 _ _ (s1 _ _ hp)), by simp [hv]⟩
  yl := fun i I' H' x H'' d hd s1 s2 y => by
    obtain ⟨e, y⟩ := y
    subst e
    have hx := y vs (SqL.of (s2 _ _ (s1 _ _ hp)))
    obtain ⟨d', e1, r⟩ := ra.getV hx
    rw [hd] at e1
    cases e1
    exact ⟨I', Pst.refl s2, r.mono s1⟩
  st := fun i I' H' hi s1 s2 => ⟨vs, SqL.of (s2 _ _ (s1 _ _ hp)), by rw [ra.len]; exact hi⟩
theorem itt_ok {p : Addr} {vs : List V} {ds : List D} {I : Hp} (hp : SqT K I p vs) (ra : RpA K I vs ds) : ItOk K (Itt K p) I ds where
  go := fun i I' H' hi s1 s2 => by
    have hv : i < vs.length := by rw [ra.len]; exact hi
    exact ⟨vs, vs[i], same_t s2 (same_t s1 hp), by simp [hv]⟩
  yl := fun i I' H' x H'' d hd s1 s2 y => by
    obtain ⟨e, y⟩ := y
    subst e
    have hx := y vs (same_t s2 (same_t s1 hp))
    obtain ⟨d', e1, r⟩ := ra.getV hx
    rw [hd] at e1
    cases e1
    exact ⟨I', Pst.refl s2, r.mono s1⟩
  st := fun i I' H' hi s1 s2 => ⟨vs, same_t s2 (same_t s1 hp), by rw [ra.len]; exact hi⟩
theorem di_list (ha : DE X S a ma) : DI X S tg a (mItL ma) := PI.imp (pi_list ha) fun σ H R ⟨w, env, g, ds, g', Re, e, k⟩ => by
  obtain ⟨x, g1, e1, e⟩ := bD_some e
  cases x with
  | list xs =>
    cases e
    refine ⟨w, env, g, _, g', Re, e1, fun v I' H' s' R' p => ?_⟩
    cases p with
    | lst hp ra hz => exact ⟨_, rfl, ⟨_, SqL.of (R'.eI _ _ hp)⟩, k _ I' H' s' R' (itl_ok hp ra) hz⟩
  | _ => cases e
theorem di_tup (ha : DE X S a ma) : DI X S tg a (mItT ma) := PI.imp (pi_tup ha) fun σ H R ⟨w, env, g, ds, g', Re, e, k⟩ => by
  obtain ⟨x, g1, e1, e⟩ := bD_some e
  cases x with
  | tuple xs =>
    cases e
    refine ⟨w, env, g, _, g', Re, e1, fun v I' H' s' R' p => ?_⟩
    cases p with
    | tup hp ra hz => exact ⟨_, rfl, ⟨_, same_t R'.eI hp⟩, k _ I' H' s' R' (itt_ok hp ra) hz⟩
  | _ => cases e
theorem di_str (ha : DE X S a ma) : DI X S tg a (mItS ma) := PI.imp (pi_str ha) fun σ H R ⟨w, env, g, ds, g', Re, e, k⟩ => by
  obtain ⟨x, g1, e1, e⟩ := bD_some e
  cases x with
  | str z =>
    cases e
    refine ⟨w, env, g, _, g', Re, e1, fun v I' H' s' R' p => ?_⟩
    cases p with
    | str hz =>
      have hl : (z.cps.toList.map fun c => (PyData.str ⟨#[c]⟩ : D)).length = z.cps.size := by rw [List.length_map, Array.length_toList]
      refine ⟨z, rfl, k _ I' H' s' R' ⟨fun i I2 H2 hi _ _ => ?_, fun i I2 H2 x H3 d hd _ s2 y => ?_, fun i I2 H2 hi _ _ => ?_⟩ ?_⟩
      · show i < z.cps.size
        rw [hl] at hi; exact hi
      · obtain ⟨e, c, ec, ex⟩ := y
        subst e; subst ex
        rw [List.getElem?_map, Array.getElem?_toList, ec] at hd
        cases hd
        exact ⟨I2, Pst.refl s2, .str (sok_char hz (by rw [← Array.getElem?_toList] at ec; exact List.mem_of_getElem? ec))⟩
      · show z.cps.size ≤ i
        rw [hl] at hi; exact hi
      · rw [hl]; exact hz.1
  | _ => cases e
/-- lo, lo + 1, .. -/
def rng (lo : Int) (n : Nat) : List D := (List.range n).map fun (k : Nat) => .int (lo + (k : Int))
theorem rng_get {lo : Int} {n i : Nat} (h : i < n) : (rng lo n)[i]? = some (.int (lo + (i : Int))) := by
  unfold rng
  rw [List.getElem?_map, List.getElem?_range h]; rfl
theorem rng_len (lo : Int) (n : Nat) : (rng lo n).length = n := by unfold rng; rw [List.length_map, List.length_range]
theorem itr_ok (lo : Int) (n : Nat) (I : Hp) : ItOk K (Itr lo n) I (rng lo n) where
  go := fun i I' H' hi _ _ => by rw [rng_len] at hi; exact hi
  yl := fun i I' H' x H'' d hd s1 s2 y => by
    obtain ⟨e, ex⟩ := y
    subst e; subst ex
    have hi : i < n := by
      have := (List.getElem?_eq_some_iff.mp hd).1
      rw [rng_len] at this; exact this
    rw [rng_get hi] at hd
    cases hd
    exact ⟨I', Pst.refl s2, .int _⟩
  st := fun i I' H' hi _ _ => by rw [rng_len] at hi; exact hi
def mRng1 (ml : ML G) : ML G := fun env g => bD (ml env g) fun xs g1 => match xs with
  | [.int j] => if -16777216 < j ∧ j < 16777216 then some (rng 0 j.toNat, g1) else none
  | _ => none
def mRng2 (ml : ML G) : ML G := fun env g => bD (ml env g) fun xs g1 => match xs with
  | [.int i, .int j] => if (-16777216 < i ∧ i < 16777216) ∧ -16777216 < j ∧ j < 16777216 ∧ j - i < 16777216 then some (rng i (j - i).toNat, g1) else none
  | _ => none
theorem line_val : sizeLine = 16777216 := sizeLine_eq
theorem di_range1 {p : Pos} (hg : Gl X "range") (hm : X.mg "range" = none) (ha : DA X S [a] ml) (hs : starEach [a] X.env = [(false, eval a X.env)] := by rfl) : DI X S tg (.Call (.Name "range" p) [a] [] pos) (mRng1 ml) := PI.imp (pi_range1 hg hm ha hs) fun σ H R ⟨w, env, g, ds, g', Re, e, k⟩ => by
  obtain ⟨x, g1, e1, e⟩ := bD_some e
  split at e
  · rename_i j
    split at e
    · rename_i hj
      cases e
      refine ⟨w, env, g, _, g', Re, e1, fun vs I' H' s' R' p => ?_⟩
      cases p with
      | cons p q =>
        cases p
        cases q
        exact ⟨j, rfl, by omega, by omega, k _ I' H' s' R' (itr_ok 0 j.toNat I') (by rw [rng_len, line_val]; omega)⟩
    · cases e
  · cases e
theorem di_range2 {p : Pos} (hg : Gl X "range") (hm : X.mg "range" = none) (ha : DA X S [a, b] ml) (hs : starEach [a, b] X.env = [(false, eval a X.env), (false, eval b X.env)] := by rfl) (hs2 : starEach [b] X.env = [(false, eval b X.env)] := by rfl) :
    DI X S tg (.Call (.Name "range" p) [a, b] [] pos) (mRng2 ml) := PI.imp (pi_range2 hg hm ha hs hs2) fun σ H R ⟨w, env, g, ds, g', Re, e, k⟩ => by
  obtain ⟨x, g1, e1, e⟩ := bD_some e
  split at e
  · rename_i i j
    split at e
    · rename_i hj
      cases e
      refine ⟨w, env, g, _, g', Re, e1, fun vs I' H' s' R' p => ?_⟩
      cases p with
      | cons p q =>
        cases p
        cases q with
        | cons p q =>
          cases p
          cases q
          exact ⟨i, j, rfl, ⟨by omega, by omega, by omega, by omega⟩, k _ I' H' s' R' (itr_ok i (j - i).toNat I') (by rw [rng_len, line_val]; omega)⟩
    · cases e
  · cases e
/-- pairs of the place and the item -/
def enm : Nat → List D → List D
  | _, [] => []
  | n, d :: ds => .tuple [.int (n : Int), d] :: enm (n + 1) ds
theorem enm_get : ∀ {n : Nat} {ds : List D} {i : Nat} {t : D}, (enm n ds)[i]? = some t → ∃ d, ds[i]? = some d ∧ t = .tuple [.int ((n + i : Nat) : Int), d]
  | _, [], _, _, h => by simp [enm] at h
  | n, d :: ds, 0, t, h => by
    simp only [enm, List.getElem?_cons_zero, Option.some.injEq] at h
    exact ⟨d, rfl, h.symm⟩
  | n, d :: ds, i + 1, t, h => by
    simp only [enm, List.getElem?_cons_succ] at h
    obtain ⟨x, h1, h2⟩ := enm_get h
    exact ⟨x, by simpa using h1, by rw [h2]; congr 3; omega⟩
theorem enm_len : ∀ (n : Nat) (ds : List D), (enm n ds).length = ds.length
  | _, [] => rfl
  | n, d :: ds => by simp only [enm, List.length_cons, enm_len (n + 1) ds]
theorem ite_ok {p : Addr} {vs : List V} {ds : List D} {I : Hp} (hp : I p = some (.lst vs)) (ra : RpA K I vs ds) : ItOk K (Ite K p) I (enm 0 ds) where
  go := fun i I' H' hi s1 s2 => by
    rw [enm_len] at hi
    have hv : i < vs.length := by rw [ra.len]; exact hi
    exact ⟨vs, vs[i], SqL.of (s2 _ _ (s1 _ _ hp)), by simp [hv]⟩
  yl := fun i I' H' x H'' d hd s1 s2 y => by
    obtain ⟨T, u, ex, hT, eH, y⟩ := y
    subst ex; subst eH
    obtain ⟨d0, h1, rfl⟩ := enm_get hd
    have hx := y vs (SqL.of (s2 _ _ (s1 _ _ hp)))
    obtain ⟨d', e1, r⟩ := ra.getV hx
    rw [h1] at e1
    cases e1
    have ps := Pst.new (p := T) (o := .tup [.int (i : Nat), u]) s2 hT
    refine ⟨_, ps, .tup (SqT.of upd_same) ?_ (by show 2 ≤ sizeLine; decide)⟩
    rw [Nat.zero_add]
    exact .cons (.int _) (.cons ((r.mono s1).mono ps.eI) .nil)
  st := fun i I' H' hi s1 s2 => ⟨vs, SqL.of (s2 _ _ (s1 _ _ hp)), by rw [enm_len] at hi; rw [ra.len]; exact hi⟩
def mEnum (ml : ML G) : ML G := fun env g => bD (ml env g) fun xs g1 => match xs with
  | [.list ds] => some (enm 0 ds, g1)
  | _ => none
theorem di_enum {p tpos : Pos} {elts : List Expr} {kk : Nat} (hg : Gl X "enumerate") (hm : X.mg "enumerate" = none) (ha : DA X S [a] ml) (hs : starEach [a] X.env = [(false, eval a X.env)] := by rfl) :
    DI X S (.Tuple elts kk tpos) (.Call (.Name "enumerate" p) [a] [] pos) (mEnum ml) := PI.imp (pi_enum hg hm ha hs) fun σ H R ⟨w, env, g, ds, g', Re, e, k⟩ => by
  obtain ⟨x, g1, e1, e⟩ := bD_some e
  split at e
  · cases e
    refine ⟨w, env, g, _, g', Re, e1, fun vs I' H' s' R' p => ?_⟩
    cases p with
    | cons p q =>
      cases q
      cases p with
      | lst hp ra hz => exact ⟨_, _, rfl, SqL.of (R'.eI _ _ hp), k _ I' H' s' R' (ite_ok hp ra) (by rw [enm_len]; exact hz)⟩
  · cases e
def zipD : List D → List D → List D
  | x :: xs, y :: ys => .tuple [x, y] :: zipD xs ys
  | _, _ => []
theorem zipD_get : ∀ {xs ys : List D} {i : Nat} {t : D}, (zipD xs ys)[i]? = some t → ∃ x y, xs[i]? = some x ∧ ys[i]? = some y ∧ t = .tuple [x, y]
  | [], _, _, _, h => by simp [zipD] at h
  | _ :: _, [], _, _, h => by simp [zipD] at h
  | x :: xs, y :: ys, 0, t, h => by
    simp only [zipD, List.getElem?_cons_zero, Option.some.injEq] at h
    exact ⟨x, y, rfl, rfl, h.symm⟩
  | x :: xs, y :: ys, i + 1, t, h => by
    simp only [zipD, List.getElem?_cons_succ] at h
    obtain ⟨u, v, h1, h2, h3⟩ := zipD_get h
    exact ⟨u, v, by simpa using h1, by simpa using h2, h3⟩
theorem zipD_len : ∀ (xs ys : List D), (zipD xs ys).length = min xs.length ys.length
  | [], _ => by simp [zipD]
  | _ :: _, [] => by simp [zipD]
  | x :: xs, y :: ys => by simp only [zipD, List.length_cons, zipD_len xs ys]; omega
theorem itz_ok {p q : Addr} {vs us : List V} {ds es : List D} {I : Hp} (hp : I p = some (.lst vs)) (hq : I q = some (.lst us)) (ra : RpA K I vs ds) (rb : RpA K I us es) : ItOk K (Itz K p q) I (zipD ds es) where
  go := fun i I' H' hi s1 s2 => by
    rw [zipD_len] at hi
    have hv : i < vs.length := by rw [ra.len]; omega
    have hu : i < us.length := by rw [rb.len]; omega
    exact ⟨vs, us, vs[i], us[i], SqL.of (s2 _ _ (s1 _ _ hp)), SqL.of (s2 _ _ (s1 _ _ hq)), by simp [hv], by simp [hu]⟩
  yl := fun i I' H' x H'' d hd s1 s2 y => by
    obtain ⟨T, u, v, ex, hT, eH, y1, y2⟩ := y
    subst ex; subst eH
    obtain ⟨d0, e0, h1, h2, rfl⟩ := zipD_get hd
    obtain ⟨d', f1, r1⟩ := ra.getV (y1 vs (SqL.of (s2 _ _ (s1 _ _ hp))))
    obtain ⟨e', f2, r2⟩ := rb.getV (y2 us (SqL.of (s2 _ _ (s1 _ _ hq))))
    rw [h1] at f1; cases f1
    rw [h2] at f2; cases f2
    have ps := Pst.new (p := T) (o := .tup [u, v]) s2 hT
    exact ⟨_, ps, .tup (SqT.of upd_same) (.cons ((r1.mono s1).mono ps.eI) (.cons ((r2.mono s1).mono ps.eI) .nil)) (by show 2 ≤ sizeLine; decide)⟩
  st := fun i I' H' hi s1 s2 => ⟨vs, us, SqL.of (s2 _ _ (s1 _ _ hp)), SqL.of (s2 _ _ (s1 _ _ hq)), by
    rw [zipD_len] at hi
    have h1 := ra.len
    have h2 := rb.len
    omega⟩
def mZip (ml : ML G) : ML G := fun env g => bD (ml env g) fun xs g1 => match xs with
  | [.list ds, .list es] => some (zipD ds es, g1)
  | _ => none
theorem di_zip {p tpos : Pos} {elts : List Expr} {kk : Nat} (hg : Gl X "zip") (hm : X.mg "zip" = none) (ha : DA X S [a, b] ml) (hs : starEach [a, b] X.env = (false, eval a X.env) :: starEach [b] X.env := by rfl) (hpl : (backTo pos (starEach [b] X.env)).any (·.1) = false := by rfl) :
    DI X S (.Tuple elts kk tpos) (.Call (.Name "zip" p) [a, b] [] pos) (mZip ml) := PI.imp (pi_zip hg hm ha hs hpl) fun σ H R ⟨w, env, g, ds, g', Re, e, k⟩ => by
  obtain ⟨x, g1, e1, e⟩ := bD_some e
  split at e
  · cases e
    refine ⟨w, env, g, _, g', Re, e1, fun vs I' H' s' R' p => ?_⟩
    cases p with
    | cons p q =>
      cases q with
      | cons q r =>
        cases r
        cases p with
        | lst hp ra hz =>
          cases q with
          | lst hq rb hy => exact ⟨_, _, _, _, rfl, SqL.of (R'.eI _ _ hp), SqL.of (R'.eI _ _ hq), k _ I' H' s' R' (itz_ok hp hq ra rb) (by rw [zipD_len]; omega)⟩
  · cases e

/-! ### for -/
def loopL (b : MTg G) (mb : MS G) : List D → Env → G → Option (Ct × Env × G)
  | [], env, g => some (.nx, env, g)
  | d :: ds, env, g => match b d env g with
    | none => none
    | some (env1, g1) => match mb env1 g1 with
      | none => none
      | some (.nx, e, g2) => loopL b mb ds e g2
      | some (.co, e, g2) => loopL b mb ds e g2
      | some (.br, e, g2) => some (.nx, e, g2)
      | some (.re d, e, g2) => some (.re d, e, g2)
      | some (.rl d, e, g2) => some (.rl d, e, g2)
def mFor (ml : ML G) (b : MTg G) (mb : MS G) : MS G := fun env g => bD (ml env g) fun ds g1 => loopL b mb ds env g1
theorem ts_for {idx : List Nat} {bt : MTg G} {mb : MS G} {D : Ends} (h : tS X.K S (mFor ml bt mb) D σ H) : tFor (tI X.K S ml) (tTg X.K S idx bt) (tS X.K S mb) D σ H := by
  obtain ⟨w, env, g, c, env', g', R, e, k⟩ := h
  obtain ⟨ds, g1, e1, e⟩ := bD_some e
  refine ⟨w, env, g, ds, g1, R, e1, fun J I1 H1 s1 R1 ok hz => ?_⟩
  refine ⟨fun i m σ2 H2 => m = ds.length - i ∧ i ≤ ds.length ∧ ∃ I2 env2 g2, Same I1 I2 ∧ Rel X.K S (w.im I2) env2 g2 σ2 H2 ∧ loopL bt mb (ds.drop i) env2 g2 = some (c, env', g'), ⟨ds.length, by omega, Nat.zero_le _, I1, env, g1, Same.refl _, R1, e⟩, ?_⟩
  rintro i m σ2 H2 ⟨rfl, hi, I2, env2, g2, s2, R2, e2⟩
  by_cases hlt : i < ds.length
  · refine .inr ⟨ok.go i I2 H2 hlt s2 R2.eI, fun σ' H' => i + 1 ≤ ds.length ∧ ∃ I2 env2 g2, Same I1 I2 ∧ Rel X.K S (w.im I2) env2 g2 σ' H' ∧ loopL bt mb (ds.drop (i + 1)) env2 g2 = some (c, env', g'), fun σ' H' ⟨q1, q⟩ => ⟨ds.length - (i + 1), by omega, rfl, q1, q⟩, fun x H' y => ?_⟩
    have hd : ds[i]? = some ds[i] := by simp [hlt]
    obtain ⟨I3, ps, r⟩ := ok.yl i I2 H2 x H' _ hd s2 R2.eI y
    rw [List.drop_eq_getElem_cons hlt] at e2
    unfold loopL at e2
    cases eb : bt ds[i] env2 g2 with
    | none => rw [eb] at e2; cases e2
    | some eg =>
      obtain ⟨env3, g3⟩ := eg
      rw [eb] at e2
      dsimp only at e2
      refine ⟨w.im I3, env2, g2, ds[i], env3, g3, R2.pst ps, r, eb, fun σ3 I4 H3 s4 R3 _ _ => ?_⟩
      cases em : mb env3 g3 with
      | none => rw [em] at e2; cases e2
      | some r4 =>
        obtain ⟨c4, env4, g4⟩ := r4
        rw [em] at e2
        have s3 : Same I1 I4 := (s2.trans ps.eI).trans s4
        refine ⟨w.im I4, env3, g3, c4, env4, g4, R3, em, ?_⟩
        cases c4 with
        | nx => exact fun σ' I5 H5 s5 R5 => ⟨by omega, I5, env4, g4, s3.trans s5, R5, e2⟩
        | co => exact fun σ' I5 H5 s5 R5 => ⟨by omega, I5, env4, g4, s3.trans s5, R5, e2⟩
        | br => cases e2; exact fun σ' I5 H5 s5 R5 => k σ' I5 H5 (s1.trans (s3.trans s5)) R5
        | re d => cases e2; exact fun v σ' I5 H5 s5 R5 p => k v σ' I5 H5 (s1.trans (s3.trans s5)) R5 p
        | rl d => cases e2; exact fun p vs σ' I5 H5 s5 R5 n hp ra z => k p vs σ' I5 H5 (s1.trans (s3.trans s5)) R5 n hp ra z
  · have hi' : i = ds.length := by omega
    subst hi'
    rw [List.drop_length] at e2
    cases e2
    exact .inl ⟨ok.st _ I2 H2 (Nat.le_refl _) s2 R2.eI, k σ2 I2 H2 (s1.trans s2) R2⟩
theorem ds_for {idx : List Nat} {bt : MTg G} {mb : MS G} (hp : PassesOwn (model X.prog X.w) X.A X.env X.xe) (hc : X.calm = true) (hi : DI X S tg iter ml) (hg : DTg X S tg idx bt) (hb : DB X S body mb)
    (hs : ∀ x, foldedSetIterable iter X.env x = pure x := by intro _; rfl) : DS X S (.For tg iter body [] pos) (mFor ml bt mb) := PS.imp (ps_for hp hc hi hg.pg hb hs) fun _ _ _ h => ts_for h

/-! ### while -/
def whileN (mt : MT G) (mb : MS G) : Nat → Env → G → Option (Ct × Env × G)
  | 0, _, _ => none
  | n + 1, env, g => match mt env g with
    | none => none
    | some (false, g1) => some (.nx, env, g1)
    | some (true, g1) => match mb env g1 with
      | none => none
      | some (.nx, e, g2) => whileN mt mb n e g2
      | some (.co, e, g2) => whileN mt mb n e g2
      | some (.br, e, g2) => some (.nx, e, g2)
      | some (.re d, e, g2) => some (.re d, e, g2)
      | some (.rl d, e, g2) => some (.rl d, e, g2)
theorem whileN_succ {mt : MT G} {mb : MS G} : ∀ {n : Nat} {env : Env} {g : G} {r}, whileN mt mb n env g = some r → whileN mt mb (n + 1) env g = some r
  | 0, _, _, _, h => by simp [whileN] at h
  | n + 1, env, g, r, h => by
    unfold whileN at h ⊢
    cases e : mt env g with
    | none => rw [e] at h; cases h
    | some q =>
      obtain ⟨b, g1⟩ := q
      rw [e] at h
      cases b with
      | false => exact h
      | true =>
        simp only at h ⊢
        cases e2 : mb env g1 with
        | none => rw [e2] at h; cases h
        | some q =>
          obtain ⟨c, e3, g2⟩ := q
          rw [e2] at h
          cases c with
          | nx => exact whileN_succ h
          | co => exact whileN_succ h
          | _ => exact h
theorem whileN_mono {mt : MT G} {mb : MS G} {n m : Nat} {env : Env} {g : G} {r} (h : whileN mt mb n env g = some r) (hm : n ≤ m) : whileN mt mb m env g = some r := by
  induction hm with
  | refl => exact h
  | step _ ih => exact whileN_succ ih
open Classical in
noncomputable def mWhile (mt : MT G) (mb : MS G) : MS G := fun env g => if h : ∃ n r, whileN mt mb n env g = some r then some (Classical.choose (Classical.choose_spec h)) else none
theorem mWhile_eq {mt : MT G} {mb : MS G} {n : Nat} {env : Env} {g : G} {r} (h : whileN mt mb n env g = some r) : mWhile mt mb env g = some r := by
  have hex : ∃ n r, whileN mt mb n env g = some r := ⟨n, r, h⟩
  unfold mWhile
  rw [dif_pos hex]
  have q := Classical.choose_spec (Classical.choose_spec hex)
  have q1 := whileN_mono q (Nat.le_max_left _ n)
  have q2 := whileN_mono h (Nat.le_max_right (Classical.choose hex) n)
  rw [q1] at q2
  exact q2
theorem mWhile_some {mt : MT G} {mb : MS G} {env : Env} {g : G} {r} (h : mWhile mt mb env g = some r) : ∃ n, whileN mt mb n env g = some r := by
  unfold mWhile at h
  split at h
  · rename_i hex
    cases h
    exact ⟨_, Classical.choose_spec (Classical.choose_spec hex)⟩
  · cases h
theorem ts_while {mb : MS G} {D : Ends} (h : tS X.K S (mWhile mt mb) D σ H) : tWhile (tT X.K S mt) (tS X.K S mb) D σ H := by
  obtain ⟨w, env, g, c, env', g', R, e, k⟩ := h
  obtain ⟨n, e⟩ := mWhile_some e
  refine ⟨fun m σ2 H2 => ∃ I2 env2 g2, Same w.I I2 ∧ Rel X.K S (w.im I2) env2 g2 σ2 H2 ∧ whileN mt mb m env2 g2 = some (c, env', g'), ⟨n, w.I, env, g, Same.refl _, R, e⟩, ?_⟩
  rintro m σ2 H2 ⟨I2, env2, g2, s2, R2, e2⟩
  cases m with
  | zero => simp [whileN] at e2
  | succ m =>
    unfold whileN at e2
    cases et : mt env2 g2 with
    | none => rw [et] at e2; cases e2
    | some q =>
      obtain ⟨b, g3⟩ := q
      rw [et] at e2
      refine ⟨w.im I2, env2, g2, b, g3, R2, et, fun I3 H3 s3 R3 => ?_⟩
      cases b with
      | false =>
        cases e2
        rw [if_neg Bool.false_ne_true]
        exact k σ2 I3 H3 (s2.trans s3) R3
      | true =>
        rw [if_pos rfl]
        refine ⟨fun σ' H' => ∃ I2 env2 g2, Same w.I I2 ∧ Rel X.K S (w.im I2) env2 g2 σ' H' ∧ whileN mt mb m env2 g2 = some (c, env', g'), fun σ' H' q => ⟨m, Nat.lt_succ_self m, q⟩, ?_⟩
        simp only at e2
        cases em : mb env2 g3 with
        | none => rw [em] at e2; cases e2
        | some r4 =>
          obtain ⟨c4, env4, g4⟩ := r4
          rw [em] at e2
          have s4 : Same w.I I3 := s2.trans s3
          refine ⟨w.im I3, env2, g3, c4, env4, g4, R3, em, ?_⟩
          cases c4 with
          | nx => exact fun σ' I5 H5 s5 R5 => ⟨I5, env4, g4, s4.trans s5, R5, e2⟩
          | co => exact fun σ' I5 H5 s5 R5 => ⟨I5, env4, g4, s4.trans s5, R5, e2⟩
          | br => cases e2; exact fun σ' I5 H5 s5 R5 => k σ' I5 H5 (s4.trans s5) R5
          | re d => cases e2; exact fun v σ' I5 H5 s5 R5 p => k v σ' I5 H5 (s4.trans s5) R5 p
          | rl d => cases e2; exact fun p vs σ' I5 H5 s5 R5 n hp ra z => k p vs σ' I5 H5 (s4.trans s5) R5 n hp ra z
theorem ds_while {mb : MS G} (hp : PassesOwn (model X.prog X.w) X.A X.env X.xe) (hc : DT X S c mt) (hb : DB X S body mb) : DS X S (.While c body [] pos) (mWhile mt mb) := PS.imp (ps_while hp hc hb) fun _ _ _ h => ts_while h
end
end Pd

/-! Pd: comprehensions, lists of one's own, defs. -/
namespace Pd
open PySem PySem.Spec L2
section
variable {G : Type} {X : Cx} {S : Gs G} {a b c e : Expr} {es rest : List Expr} {pos : Pos} {ma mb mc : ME G} {mt mu : MT G} {ml : ML G} {st : Stmt} {sts body : List Stmt} {m m1 m2 : MS G} {tg iter : Expr}
variable {K : PySem.W.Frag} {w : Wd} {env env' : Env} {g g' : G} {σ : St} {H H' I' : Hp}

/-! ### comprehensions -/
def Env.wipe (env : Env) : List Nat → Env
  | [] => env
  | v :: vs => (Env.wipe env vs).set v .un
theorem ewipe_len (env : Env) : ∀ vs : List Nat, (env.wipe vs).length = env.length
  | [] => rfl
  | v :: vs => by unfold Env.wipe; rw [List.length_set, ewipe_len env vs]
theorem ewipe_in {env : Env} {k : Nat} : ∀ {vs : List Nat}, k ∈ vs → (env.wipe vs).at k = .un
  | v :: vs, h => by
    unfold Env.wipe
    rw [at_set]
    by_cases z : k = v
    · subst z
      by_cases q : k < (env.wipe vs).length
      · rw [if_pos ⟨rfl, q⟩]
      · rw [if_neg fun z => q z.2]
        show (env.wipe vs).getD k .un = .un
        rw [List.getD_eq_getElem?_getD, List.getElem?_eq_none (by omega)]; rfl
    · rw [if_neg fun q => z q.1]
      rcases List.mem_cons.mp h with e | e
      · exact absurd e z
      · exact ewipe_in e
theorem ewipe_out {env : Env} {k : Nat} : ∀ {vs : List Nat}, k ∉ vs → (env.wipe vs).at k = env.at k
  | [], _ => rfl
  | v :: vs, h => by
    unfold Env.wipe
    rw [at_set, if_neg fun q => h (by simp [q.1])]
    exact ewipe_out fun q => h (List.mem_cons_of_mem _ q)
/-- a state of other slots: where the environment knows something, the same -/
theorem Rel.re {env1 : Env} {σ1 : St} (R : Rel K S w env1 g σ1 H) (hl : σ.length = env.length) (h : ∀ k, env.at k = .un ∨ (env.at k = env1.at k ∧ σ[k]? = σ1[k]?)) : Rel K S w env g σ H where
  e0 := R.e0
  eI := R.eI
  ag := R.ag
  ge := R.ge
  gfp := R.gfp
  grt := R.grt
  gok := R.gok
  fI := R.fI
  f0 := R.f0
  len := hl
  slot := fun k => by
    rcases h k with e | ⟨e, q⟩
    · rw [e]; trivial
    · rw [e]; exact (R.slot k).of_eq q
  dis := fun k j p ds es hkj e1 e2 q1 q2 => by
    rcases h k with e | ⟨e, q⟩
    · rw [e] at e1; cases e1
    · rcases h j with e' | ⟨e', q'⟩
      · rw [e'] at e2; cases e2
      · exact R.dis k j p ds es hkj (e ▸ e1) (e' ▸ e2) (q ▸ q1) (q' ▸ q2)
theorem Rel.wipe (R : Rel K S w env g σ H) (vs : List Nat) : Rel K S w (env.wipe vs) g (L2.wipe σ vs) H := R.re (by rw [wipe_length, ewipe_len]; exact R.len) fun k => by
  by_cases h : k ∈ vs
  · exact .inl (ewipe_in h)
  · exact .inr ⟨ewipe_out h, wipe_out h⟩
theorem wipe_get {σ : St} {k : Nat} : ∀ {vs : List Nat}, k ∈ vs → k < σ.length → (L2.wipe σ vs)[k]? = some none
  | v :: vs, h, hl => by
    unfold L2.wipe
    by_cases z : k = v
    · subst z
      rw [List.getElem?_set_self (by rw [wipe_length]; exact hl)]
    · rw [List.getElem?_set_ne (Ne.symm z)]
      rcases List.mem_cons.mp h with e | e
      · exact absurd e z
      · exact wipe_get e hl
theorem wipe_eq {σ σ2 : St} {vs : List Nat} (hl : σ2.length = (L2.wipe σ vs).length) (h : ∀ k, k ∉ vs → σ2[k]? = (L2.wipe σ vs)[k]?) : L2.wipe σ2 vs = L2.wipe σ vs := by
  apply List.ext_getElem?
  intro k
  rw [wipe_length] at hl
  by_cases hk : k ∈ vs
  · by_cases z : k < σ.length
    · rw [wipe_get hk (by rw [hl]; exact z), wipe_get hk z]
    · rw [List.getElem?_eq_none (by rw [wipe_length]; omega), List.getElem?_eq_none (by rw [wipe_length]; omega)]
  · rw [wipe_out hk, h k hk]
/-- an object that nobody knows, kept in sight -/
abbrev Wd.hold (w : Wd) (p : Addr) (o : HO) : Wd := { w with H0 := upd w.H0 p o }
theorem Rel.hold {p : Addr} {o : HO} (R : Rel K S w env g σ H) (n : Nob w env σ p) (hp : H p = some o) : Rel K S (w.hold p o) env g σ H where
  e0 := fun a u e => by
    have e : upd w.H0 p o a = some u := e
    by_cases z : a = p
    · subst z; rw [upd_same] at e; rw [hp]; exact e
    · rw [upd_ne z] at e; exact R.e0 a u e
  eI := R.eI
  ag := fun a u e => by
    have e : upd w.H0 p o a = some u := e
    by_cases z : a = p
    · subst z
      show w.I a = w.I0 a
      rw [n.i, R.ge.free n.i]
    · rw [upd_ne z] at e; exact R.ag a u e
  ge := R.ge
  gfp := R.gfp
  grt := R.grt
  gok := R.gok
  fI := R.fI
  f0 := fun a ha => by
    have z : a ≠ p := fun z => n.f (z ▸ ha)
    show upd w.H0 p o a = none
    rw [upd_ne z]; exact R.f0 a ha
  len := R.len
  slot := fun i => by
    have q := R.slot i
    cases e : env.at i with
    | un => trivial
    | sh d => rw [e] at q; exact q
    | kd d => rw [e] at q; exact q
    | st => rw [e] at q; exact q
    | raw v => rw [e] at q; exact q
    | ow ds =>
      rw [e] at q
      obtain ⟨a, vs, e1, hp, hi, h0, hf, r, z⟩ := q
      have ne : a ≠ p := fun z => n.o i ds e (z ▸ e1)
      exact ⟨a, vs, e1, hp, hi, (upd_ne ne).trans h0, hf, r, z⟩
  dis := R.dis
/-- .. let go -/
theorem Rel.unhold {p : Addr} {o u : HO} (R : Rel K S (w.hold p o) env g σ H) (n0 : w.H0 p = none) (nI : w.I0 p = none) : Rel K S w env g σ (upd H p u) ∧ Nob w env σ p ∧ H p = some o := by
  have hp : H p = some o := R.e0 p o upd_same
  have nf : ¬ w.fp p := fun z => by
    have q : upd w.H0 p o p = none := R.f0 p z
    rw [upd_same] at q
    cases q
  have ni : w.I p = none := (R.ag p o upd_same).trans nI
  have own : ∀ i ds, env.at i = .ow ds → σ[i]? ≠ some (some (.ref p)) := fun i ds e q => by
    have z := R.slot i
    rw [e] at z
    obtain ⟨a, vs, e1, _, _, h0, _⟩ := z
    rw [q] at e1
    cases e1
    have h0 : upd w.H0 p o p = none := h0
    rw [upd_same] at h0
    cases h0
  refine ⟨?_, ⟨ni, n0, nf, own⟩, hp⟩
  exact {
    e0 := fun a v e => by
      have z : a ≠ p := fun z => by rw [z, n0] at e; cases e
      rw [upd_ne z]
      exact R.e0 a v ((upd_ne z).trans e)
    eI := fun a v e => by
      have z : a ≠ p := fun z => by rw [z, ni] at e; cases e
      rw [upd_ne z]
      exact R.eI a v e
    ag := fun a v e => by
      have z : a ≠ p := fun z => by rw [z, n0] at e; cases e
      exact R.ag a v ((upd_ne z).trans e)
    ge := R.ge
    gfp := R.gfp
    grt := R.grt
    gok := S.loc (fun a ha => by
      have z : a ≠ p := fun z => nf (z ▸ (R.gfp a).mp ha)
      exact upd_ne z) R.gok
    fI := R.fI
    f0 := fun a ha => by
      have z : a ≠ p := fun z => nf (z ▸ ha)
      have q : upd w.H0 p o a = none := R.f0 a ha
      rw [upd_ne z] at q
      exact q
    len := R.len
    slot := fun i => by
      have q := R.slot i
      cases e : env.at i with
      | un => trivial
      | sh d => rw [e] at q; exact q
      | kd d => rw [e] at q; exact q
      | st => rw [e] at q; exact q
      | raw v => rw [e] at q; exact q
      | ow ds =>
        rw [e] at q
        obtain ⟨a, vs, e1, hp', hi, h0, hf, r, z⟩ := q
        have ne : a ≠ p := fun z => own i ds e (z ▸ e1)
        have h0 : upd w.H0 p o a = none := h0
        rw [upd_ne ne] at h0
        exact ⟨a, vs, e1, (upd_ne ne).trans hp', hi, h0, hf, r, z⟩
    dis := R.dis }
def SV.notOw : SV → Bool
  | .ow _ => false
  | _ => true
/-- behind a block: the frame's own slots again -/
theorem Rel.join {I0 I6 H0 H6 : Hp} {g0 g6 : G} {vs : List Nat} (R0 : Rel K S (w.im I0) env g0 σ H0) (R6 : Rel K S (w.im I6) (env.wipe vs) g6 (L2.wipe σ vs) H6) (s : Same I0 I6) (h : ∀ k ∈ vs, (env.at k).notOw = true) : Rel K S (w.im I6) env g6 σ H6 where
  e0 := R6.e0
  eI := R6.eI
  ag := R6.ag
  ge := R6.ge
  gfp := R6.gfp
  grt := R6.grt
  gok := R6.gok
  fI := R6.fI
  f0 := R6.f0
  len := R0.len
  slot := fun k => by
    by_cases hk : k ∈ vs
    · have q := R0.slot k
      have n := h k hk
      cases e : env.at k with
      | un => trivial
      | sh d => rw [e] at q; obtain ⟨v, e1, r⟩ := q; exact ⟨v, e1, r.mono s⟩
      | kd d => rw [e] at q; obtain ⟨v, e1, r⟩ := q; exact ⟨v, e1, r.mono s⟩
      | st => rw [e] at q; exact q
      | raw v => rw [e] at q; exact q
      | ow ds => rw [e] at n; cases n
    · have q := R6.slot k
      rw [ewipe_out hk] at q
      exact q.of_eq (wipe_out hk).symm
  dis := fun k j p ds es hkj e1 e2 q1 q2 => by
    have nk : k ∉ vs := fun z => by have n := h k z; rw [e1] at n; cases n
    have nj : j ∉ vs := fun z => by have n := h j z; rw [e2] at n; cases n
    exact R6.dis k j p ds es hkj (by rw [ewipe_out nk]; exact e1) (by rw [ewipe_out nj]; exact e2) (by rw [wipe_out nk]; exact q1) (by rw [wipe_out nj]; exact q2)
theorem upd_id {H : Hp} {p : Addr} {o : HO} (h : H p = some o) : upd H p o = H := by
  funext b
  by_cases z : b = p
  · rw [z, upd_same, h]
  · rw [upd_ne z]
def compL (b : MTg G) (mt : MT G) (me : ME G) (env : Env) : List D → G → Option (List D × G)
  | [], g => some ([], g)
  | d :: ds, g => match b d env g with
    | none => none
    | some (env1, g1) => match mt env1 g1 with
      | none => none
      | some (false, g2) => compL b mt me env ds g2
      | some (true, g2) => match me env1 g2 with
        | none => none
        | some (x, g3) => match compL b mt me env ds g3 with
          | none => none
          | some (xs, g4) => some (x :: xs, g4)
def mComp (ml : ML G) (vs : List Nat) (b : MTg G) (mt : MT G) (me : ME G) : ML G := fun env g => bD (ml env g) fun ds g1 => if (vs.all fun k => (env.at k).notOw) = true then compL b mt me (env.wipe vs) ds g1 else none
theorem compL_len {b : MTg G} {mt : MT G} {me : ME G} {env : Env} : ∀ {ds : List D} {g : G} {xs : List D} {g' : G}, compL b mt me env ds g = some (xs, g') → xs.length ≤ ds.length
  | [], g, xs, g', h => by simp [compL] at h; rw [h.1]; exact Nat.le_refl 0
  | d :: ds, g, xs, g', h => by
    unfold compL at h
    cases e1 : b d env g with
    | none => rw [e1] at h; cases h
    | some q0 =>
      obtain ⟨env1, g1⟩ := q0
      rw [e1] at h
      dsimp only at h
      cases e2 : mt env1 g1 with
      | none => rw [e2] at h; cases h
      | some q =>
        obtain ⟨t, g2⟩ := q
        rw [e2] at h
        cases t with
        | false => exact Nat.le_trans (compL_len h) (by simp)
        | true =>
          dsimp only at h
          cases e3 : me env1 g2 with
          | none => rw [e3] at h; cases h
          | some q =>
            obtain ⟨x, g3⟩ := q
            rw [e3] at h
            dsimp only at h
            cases e4 : compL b mt me env ds g3 with
            | none => rw [e4] at h; cases h
            | some q =>
              obtain ⟨ys, g4⟩ := q
              rw [e4] at h
              cases h
              have := compL_len e4
              simp only [List.length_cons]
              omega
def mYes : MT G := fun _ g => some (true, g)
structure DTs {G : Type} (X : Cx) (S : Gs G) (ifs : List Expr) (mt : MT G) : Prop where
  pt : PTs X ifs (tT X.K S mt)
theorem dts_nil : DTs X S [] mYes := ⟨⟨fun pins s σ H Q I h => pts_nil.run pins s σ H Q I (by
  obtain ⟨w, env, g, d, g', R, e, k⟩ := h
  cases e
  exact k w.I H (Same.refl _) R)⟩⟩
theorem dts_one (h : DT X S c mt) : DTs X S [c] mt := ⟨pts_one h⟩
theorem tf_comp {idx vs : List Nat} {bt : MTg G} {me : ME G} {Q : VK} (hok : ∀ d env g env' g', bt d env g = some (env', g') → env'.length = env.length ∧ ∀ k, k ∉ idx → env'.at k = env.at k) (hsub : ∀ k ∈ idx, k ∈ vs)
    (h : tF K S (mComp ml vs bt mt me) σ H Q) : tLc (tI K S ml) (tTg K S idx bt) (tT K S mt) (tE K S me) vs σ H Q := by
  obtain ⟨w, env, g, xs, g', R, e, k⟩ := h
  obtain ⟨ds, g1, e1, e⟩ := bD_some e
  split at e
  case isFalse => cases e
  rename_i hown
  have hown : ∀ k ∈ vs, (env.at k).notOw = true := fun k hk => List.all_eq_true.mp hown k hk
  refine ⟨w, env, g, ds, g1, R, e1, fun J I1 H1 s1 R1 ok hz p hp => ?_⟩
  have n0 : w.H0 p = none := R1.e0.free hp
  have nI : w.I0 p = none := by
    have a1 : Same w.I0 I1 := R1.ge
    exact a1.free (R1.eI.free hp)
  -- the word: the list so far at p, the rest of the run
  refine ⟨fun i m H2 => m = ds.length - i ∧ i ≤ ds.length ∧ ∃ I2 g2 acc us as rest, Same I1 I2 ∧ Rel K S (w.im I2) env g2 σ H2 ∧ Nob (w.im I2) env σ p ∧ H2 p = some (.lst us) ∧ RpA K I2 us as ∧ acc = us ∧ as.length ≤ i ∧
    compL bt mt me (env.wipe vs) (ds.drop i) g2 = some (rest, g') ∧ xs = as ++ rest, ⟨ds.length, by omega, Nat.zero_le _, I1, g1, [], [], [], xs, Same.refl _, R1.alloc hp, R1.nob hp, upd_same, .nil, rfl, Nat.le_refl _, e, rfl⟩, ?_⟩
  rintro i m H2 ⟨rfl, hi, I2, g2, acc, us, as, rest, s2, R2, n2, hp2, ra2, rfl, hl2, e2, ex⟩
  by_cases hlt : i < ds.length
  · refine .inr ⟨ok.go i I2 H2 hlt s2 R2.eI, fun H' => i + 1 ≤ ds.length ∧ ∃ I2 g2 acc us as rest, Same I1 I2 ∧ Rel K S (w.im I2) env g2 σ H' ∧ Nob (w.im I2) env σ p ∧ H' p = some (.lst us) ∧ RpA K I2 us as ∧ acc = us ∧ as.length ≤ i + 1 ∧
      compL bt mt me (env.wipe vs) (ds.drop (i + 1)) g2 = some (rest, g') ∧ xs = as ++ rest, fun H' ⟨q1, q⟩ => ⟨ds.length - (i + 1), by omega, rfl, q1, q⟩, fun x H' y => ?_⟩
    have hd : ds[i]? = some ds[i] := by simp [hlt]
    obtain ⟨I3, ps, r⟩ := ok.yl i I2 H2 x H' _ hd s2 R2.eI y
    rw [List.drop_eq_getElem_cons hlt] at e2
    unfold compL at e2
    cases eb : bt ds[i] (env.wipe vs) g2 with
    | none => rw [eb] at e2; cases e2
    | some eg =>
      obtain ⟨env3, g3⟩ := eg
      rw [eb] at e2
      dsimp only at e2
      have R3 := R2.pst ps
      have n3 : Nob (w.im I3) env σ p := ⟨(ps.ag p (by rw [hp2]; simp)).trans n2.i, n2.h0, n2.f, n2.o⟩
      have hp3 : H' p = some (.lst acc) := ps.eH _ _ hp2
      have R4 := (R3.hold n3 hp3).wipe vs
      have hk := hok _ _ _ _ _ eb
      refine ⟨(w.im I3).hold p (.lst acc), env.wipe vs, g2, ds[i], env3, g3, R4, r, eb, fun σ3 I4 H5 s4 R5 l5 f5 => ?_⟩
      have s4 : Same I3 I4 := s4
      have f5' : ∀ k, k ∉ vs → σ3[k]? = (L2.wipe σ vs)[k]? := fun k hk => f5 k fun z => hk (hsub k z)
      refine ⟨wipe_eq l5 f5', ?_⟩
      -- back from the element's state to the frame's
      have back : ∀ I6 H6 g6, Same I3 I6 → Rel K S ((w.im I6).hold p (.lst acc)) env3 g6 σ3 H6 → Rel K S ((w.im I6).hold p (.lst acc)) (env.wipe vs) g6 (L2.wipe σ vs) H6 := fun I6 H6 g6 s6 R6 =>
        R6.re (by rw [wipe_length, ewipe_len]; exact R.len) fun k => by
          by_cases hk' : k ∈ vs
          · exact .inl (ewipe_in hk')
          · exact .inr ⟨(hk.2 k fun z => hk' (hsub k z)).symm, (f5' k hk').symm⟩
      -- behind the element: the list let go
      have next : ∀ I6 H6 g6 (u : List V), Same I3 I6 → Rel K S ((w.im I6).hold p (.lst acc)) env3 g6 σ3 H6 → Rel K S (w.im I6) env g6 σ (upd H6 p (.lst u)) ∧ Nob (w.im I6) env σ p ∧ H6 p = some (.lst acc) := fun I6 H6 g6 u s6 R6 => by
        obtain ⟨q1, q2, q3⟩ := (back I6 H6 g6 s6 R6).unhold (w := w.im I6) (u := .lst u) n0 nI
        exact ⟨Rel.join R3 q1 s6 hown, ⟨q2.i, q2.h0, q2.f, fun j es ej sj => by
          have nj : j ∉ vs := fun z => by have n := hown j z; rw [ej] at n; cases n
          exact q2.o j es (by rw [ewipe_out nj]; exact ej) (by rw [wipe_out nj]; exact sj)⟩, q3⟩
      cases et : mt env3 g3 with
      | none => rw [et] at e2; cases e2
      | some q =>
        obtain ⟨t, g4⟩ := q
        rw [et] at e2
        refine ⟨(w.im I4).hold p (.lst acc), env3, g3, t, g4, R5, et, fun I6 H6 s6 R6 => ?_⟩
        have s6 : Same I4 I6 := s6
        have s6 : Same I3 I6 := s4.trans s6
        cases t with
        | false =>
          refine iteF ?_
          obtain ⟨q1, q2, q3⟩ := next I6 H6 g4 acc s6 R6
          refine ⟨by omega, I6, g4, acc, acc, as, rest, s2.trans (ps.eI.trans s6), ?_, q2, q3, ra2.mono (ps.eI.trans s6), rfl, by omega, e2, ex⟩
          rw [upd_id q3] at q1
          exact q1
        | true =>
          refine iteT ?_
          dsimp only at e2
          cases em : me env3 g4 with
          | none => rw [em] at e2; cases e2
          | some q =>
            obtain ⟨y5, g5⟩ := q
            rw [em] at e2
            dsimp only at e2
            cases ec : compL bt mt me (env.wipe vs) (ds.drop (i + 1)) g5 with
            | none => rw [ec] at e2; cases e2
            | some q =>
              obtain ⟨ys, g7⟩ := q
              rw [ec] at e2
              cases e2
              refine ⟨(w.im I6).hold p (.lst acc), env3, g4, y5, g5, R6, em, fun v I7 H7 s7 R7 p7 => ?_⟩
              have s7 : Same I6 I7 := s7
              obtain ⟨q1, q2, q3⟩ := next I7 H7 g5 (acc ++ [v]) (s6.trans s7) R7
              refine ⟨acc, q3, ?_, by omega, I7, g5, _, _, as ++ [y5], ys, s2.trans (ps.eI.trans (s6.trans s7)), q1, q2, upd_same, (ra2.mono (ps.eI.trans (s6.trans s7))).append (.one p7), rfl, ?_, ec, ?_⟩
              · rw [ra2.len]; omega
              · rw [List.length_append, List.length_singleton]; omega
              · rw [ex, List.append_assoc]; rfl
  · have hi' : i = ds.length := by omega
    subst hi'
    rw [List.drop_length] at e2
    cases e2
    rw [List.append_nil] at ex
    subst ex
    exact .inl ⟨ok.st _ I2 H2 (Nat.le_refl _) s2 R2.eI, k p acc I2 H2 (s1.trans s2) R2 n2 hp2 ra2 (Nat.le_trans hl2 hz)⟩
theorem df_comp {elt : Expr} {ifs : List Expr} {scope : Scope} {own : List (Str × Nat)} {idx : List Nat} {bt : MTg G} {me : ME G} (hc : X.calm = true) (hN : X.N.Nodup) (hi : DI X S tg iter ml) (ok : BlkOk X.N X.env.scope scope own)
    (hg : ∀ (s : Shared) (H : Hp) (C : Addr) (cl : List (Str × Addr)) (fp : List Addr), DTg (X.blk s H scope (compEnvC scope cl C X.env) fp) S tg idx bt) (ht : ∀ (s : Shared) (H : Hp) (C : Addr) (cl : List (Str × Addr)) (fp : List Addr), DTs (X.blk s H scope (compEnvC scope cl C X.env) fp) S ifs mt)
    (he : ∀ (s : Shared) (H : Hp) (C : Addr) (cl : List (Str × Addr)) (fp : List Addr), DE (X.blk s H scope (compEnvC scope cl C X.env) fp) S elt me) (hsub : ∀ k ∈ idx, k ∈ own.map (·.2) := by decide) (hs : ∀ x, foldedSetIterable iter X.env x = pure x := by intro _; rfl) :
    DF X S (.ListComp elt [⟨tg, iter, ifs, 0⟩] scope pos) (mComp ml (own.map (·.2)) bt mt me) :=
  PE.imp (pe_lc hc hN hi ok (fun s H C cl fp => (hg s H C cl fp).pg) (fun s H C cl fp => (ht s H C cl fp).pt) he hs) fun _ _ _ h => tf_comp (hg X.s_0 X.H_0 0 [] []).ok hsub h
/-- x = [.. for ..] on one line -/
theorem ts_setLc {idx vs : List Nat} {bt : MTg G} {me : ME G} {i : Nat} {D : Ends} (hok : ∀ d env g env' g', bt d env g = some (env', g') → env'.length = env.length ∧ ∀ k, k ∉ idx → env'.at k = env.at k) (hsub : ∀ k ∈ idx, k ∈ vs)
    (h : tS K S (mSetF i (mComp ml vs bt mt me)) D σ H) : tAsg (tLc (tI K S ml) (tTg K S idx bt) (tT K S mt) (tE K S me) vs) (gName i) D σ H := by
  obtain ⟨w, env, g, c, env', g', R, e, k⟩ := h
  obtain ⟨x, g1, e1, e⟩ := bD_some e
  cases e
  exact tf_comp hok hsub ⟨w, env, g, x, g', R, e1, fun p vs I' H' s' R' n hp ra hz => k _ I' H' s' (R'.putL n hp ra hz)⟩
theorem ds_setLc {elt : Expr} {ifs : List Expr} {scope : Scope} {own : List (Str × Nat)} {idx : List Nat} {bt : MTg G} {me : ME G} {i : Nat} {y : Str} {py spos : Pos} (hc : X.calm = true) (hN : X.N.Nodup) (hy : X.N[i]? = some y) (hyl : X.env.scope.names.lookup y = some .local)
    (hsw : swapsWith (.ListComp elt [⟨tg, iter, ifs, 0⟩] scope pos) (some (.Name y py)) spos.line X.env = pure true) (hi : DI X S tg iter ml) (ok : BlkOk X.N X.env.scope scope own)
    (hg : ∀ (s : Shared) (H : Hp) (C : Addr) (cl : List (Str × Addr)) (fp : List Addr), DTg (X.blk s H scope (compEnvC scope cl C X.env) fp) S tg idx bt) (ht : ∀ (s : Shared) (H : Hp) (C : Addr) (cl : List (Str × Addr)) (fp : List Addr), DTs (X.blk s H scope (compEnvC scope cl C X.env) fp) S ifs mt)
    (he : ∀ (s : Shared) (H : Hp) (C : Addr) (cl : List (Str × Addr)) (fp : List Addr), DE (X.blk s H scope (compEnvC scope cl C X.env) fp) S elt me) (hsub : ∀ k ∈ idx, k ∈ own.map (·.2) := by decide) (hs : ∀ x, foldedSetIterable iter X.env x = pure x := by intro _; rfl) :
    DS X S (.Assign [.Name y py] (.ListComp elt [⟨tg, iter, ifs, 0⟩] scope pos) spos) (mSetF i (mComp ml (own.map (·.2)) bt mt me)) :=
  PS.imp (ps_setLc hc hN hy hyl hsw hi ok (fun s H C cl fp => (hg s H C cl fp).pg) (fun s H C cl fp => (ht s H C cl fp).pt) he hs) fun _ _ _ h => ts_setLc (hg X.s_0 X.H_0 0 [] []).ok hsub h
/-- .. behind it handed out -/
def mThen (m : MS G) (j : Nat) : MS G := fun env g => match m env g with
  | some (.nx, e, g1) => some (.nx, e.frz j, g1)
  | r => r
theorem ds_then {st : Stmt} {m : MS G} (j : Nat) (h : DS X S st m) : DS X S st (mThen m j) := PS.imp h fun D σ H ⟨w, env, g, c, env', g', R, e, k⟩ => by
  unfold mThen at e
  split at e
  · rename_i e1 g1 em
    cases e
    refine ⟨w, env, g, .nx, e1, g', R, em, fun σ' I' H' s' R' => ?_⟩
    obtain ⟨I2, s2, R2⟩ := R'.frz j
    exact k σ' I2 H' (Same.trans s' s2) R2
  · exact ⟨w, env, g, c, env', g', R, e, k⟩
end
end Pd

/-! Pd: lists of one's own, defs. -/
namespace Pd
open PySem PySem.Spec L2
section
variable {G : Type} {X : Cx} {S : Gs G} {a b c e : Expr} {es rest : List Expr} {pos : Pos} {ma mb mc me : ME G} {mt mu : MT G} {ml : ML G} {st : Stmt} {sts body : List Stmt} {m m1 m2 : MS G} {tg iter : Expr}
variable {K : PySem.W.Frag} {w : Wd} {env env' : Env} {g g' : G} {σ : St} {H H' I' : Hp}

theorem Rel.own {j : Nat} {ds : List D} (R : Rel K S w env g σ H) (e : env.at j = .ow ds) : ∃ p vs, σ[j]? = some (some (.ref p)) ∧ H p = some (.lst vs) ∧ w.I p = none ∧ w.H0 p = none ∧ ¬ w.fp p ∧ RpA K w.I vs ds ∧ ds.length ≤ sizeLine := by
  have q := R.slot j
  rw [e] at q
  exact q
/-- x.append(e) -/
def mApp (j : Nat) (me : ME G) : MS G := fun env g => bD (me env g) fun d g1 => match env.at j with
  | .ow ds => if ds.length < sizeLine then some (.nx, env.set j (.ow (ds ++ [d])), g1) else none
  | _ => none
theorem ts_app {j : Nat} {D : Ends} (h : tS K S (mApp j me) D σ H) : tDrop (tBM K "list" rAppend (tVar j) (tA K S (mCons me mNil))) D σ H := by
  obtain ⟨w, env, g, c, env', g', R, e, k⟩ := h
  obtain ⟨d, g1, e1, e⟩ := bD_some e
  split at e
  · rename_i ds ej
    split at e
    · rename_i hz
      cases e
      obtain ⟨p, vs, sj, hp, _⟩ := R.own ej
      refine ⟨_, sj, .inl ⟨rfl, vs, SqL.of hp⟩, w, env, g, [d], g', R, ?_, fun us I' H' s' R' ra => ?_⟩
      · show bD (me env g) (fun x g1 => bD (mNil env g1) fun xs g2 => some (x :: xs, g2)) = some ([d], g')
        rw [e1]; rfl
      · cases ra with
        | cons r q =>
          cases q
          obtain ⟨p', us, sj', hp', hi, h0, hf, rb, hy⟩ := R'.own ej
          rw [sj] at sj'
          cases sj'
          refine ⟨p, us, _, rfl, rfl, hp', by rw [rb.len]; exact hz, ?_⟩
          exact k σ I' _ s' (R'.setOw ej sj hp' hi h0 hf (rb.append (.one r)) (by rw [List.length_append, List.length_singleton]; omega))
    · cases e
  · cases e
theorem ds_append (j : Nat) {x : Str} {xp ap cp : Pos} (he : DE X S e me) (hN : X.N[j]? = some x := by rfl) (hv : Vis X.env.scope x := by first | exact Or.inl rfl | exact Or.inr (Or.inl rfl) | exact Or.inr (Or.inr rfl)) (hd : (x == ("__debug__" : Str)) = false := by decide)
    (hcd : (x == ("__classdict__" : Str)) = false := by decide)
    (hbase : attributeBase (.Name x xp) "append" X.env (eval (.Name x xp) X.env) = eval (.Name x xp) X.env := by rfl)
    (hfew : ((backTo cp (starEach [e] X.env)).all (fun x => !x.1) && (backToKw cp (keywordEach [] X.env)).all (fun x => x.1.isSome)
      && decide ([e].length + ([] : List Keyword).length + (if ([] : List Keyword).isEmpty then 0 else 1) < 30)) = true := by rfl)
    (hline : (ap.endLine == cp.line) = true := by rfl) (hs : starEach [e] X.env = (false, eval e X.env) :: starEach [] X.env := by rfl) (hplain : (backTo cp (starEach [] X.env)).any (·.1) = false := by rfl)
    (hsw : swapsWith (.Call (.Attribute (.Name x xp) "append" ap) [e] [] cp) none pos.line X.env = pure false := by rfl) :
    DS X S (.Expr (.Call (.Attribute (.Name x xp) "append" ap) [e] [] cp) pos) (mApp j me) :=
  PS.imp (ps_expr (pe_bm PySem.F.plainAttrs_list PySem.F.slot_list_append PySem.F.type_list_append mt_append (pe_var hN hv hd hcd) (da_cons (S := S) he da_nil hs) hbase hfew hline hs hplain) hsw) fun _ _ _ h => ts_app h
/-- x[i] = e -/
def mSetIx (j : Nat) (mi me : ME G) : MS G := fun env g => bD (me env g) fun d g1 => bD (mi env g1) fun i g2 => match env.at j, i with
  | .ow ds, .int i => (ixN ds.length i).map fun k => (.nx, env.set j (.ow (ds.set k d)), g2)
  | _, _ => none
theorem ts_setIx {j : Nat} {mi : ME G} {D : Ends} (h : tS K S (mSetIx j mi me) D σ H) : tAsg (tE K S me) (gSub (tVar j) (tE K S mi) rSetL) D σ H := by
  obtain ⟨w, env, g, c, env', g', R, e, k⟩ := h
  obtain ⟨d, g1, e1, e⟩ := bD_some e
  obtain ⟨i, g2, e2, e⟩ := bD_some e
  split at e
  · rename_i ds i ej
    obtain ⟨n, en, e⟩ := Option.map_eq_some_iff.mp e
    cases e
    refine ⟨w, env, g, d, g1, R, e1, fun v I1 H1 s1 R1 p1 => ?_⟩
    obtain ⟨p, vs, sj, hp, _⟩ := R1.own ej
    refine ⟨_, sj, w.im I1, env, g1, _, g', R1, e2, fun u I2 H2 s2 R2 p2 => ?_⟩
    cases p2
    obtain ⟨p', us, sj', hp', hi, h0, hf, rb, hy⟩ := R2.own ej
    rw [sj] at sj'
    cases sj'
    refine ⟨p, us, i, n, rfl, rfl, hp', by rw [rb.len]; exact en, ?_⟩
    exact k σ I2 _ (s1.trans s2) (R2.setOw ej sj hp' hi h0 hf (rb.set (p1.mono s2) n) (by rw [List.length_set]; exact hy))
  · cases e
theorem ds_setIx (j : Nat) {x : Str} {xp sp : Pos} {i : Expr} {mi : ME G} (hi : DE X S i mi) (he : DE X S e me) (hN : X.N[j]? = some x := by rfl) (hv : Vis X.env.scope x := by first | exact Or.inl rfl | exact Or.inr (Or.inl rfl) | exact Or.inr (Or.inr rfl)) (hd : (x == ("__debug__" : Str)) = false := by decide)
    (hcd : (x == ("__classdict__" : Str)) = false := by decide)
    (ha : ∀ v, assign (.Subscript (.Name x xp) i sp) X.env v = (do
      let ov ← holding [v] (eval (.Name x xp) X.env)
      let iv ← holding [v, ov] (eval i X.env)
      standAt sp
      holding [v, ov, iv] (setItem ov iv v)
      release [v, ov, iv] []) := by intro _; rfl)
    (hs : swapsWithSole [.Subscript (.Name x xp) i sp] e pos.line X.env = pure false := by rfl) (hw : swappedStores [.Subscript (.Name x xp) i sp] e X.env = pure none := by rfl)
    (h1 : (assignEach [.Subscript (.Name x xp) i sp] X.env).map (·.2) = [assign (.Subscript (.Name x xp) i sp) X.env] := by rfl) :
    DS X S (.Assign [.Subscript (.Name x xp) i sp] e pos) (mSetIx j mi me) := PS.imp (ps_asg he (pg_sub (pe_var hN hv hd hcd) hi set_list ha) hs hw h1) fun _ _ _ h => ts_setIx h
/-- x.extend(e), e a list that stands -/
def mExt (j : Nat) (me : ME G) : MS G := fun env g => bD (me env g) fun d g1 => match env.at j, d with
  | .ow ds, .list es => if ds.length + es.length ≤ sizeLine then some (.nx, env.set j (.ow (ds ++ es)), g1) else none
  | _, _ => none
theorem ts_ext {j : Nat} {D : Ends} (h : tS K S (mExt j me) D σ H) : tDrop (tBM K "list" rExtend (tVar j) (tA K S (mCons me mNil))) D σ H := by
  obtain ⟨w, env, g, c, env', g', R, e, k⟩ := h
  obtain ⟨d, g1, e1, e⟩ := bD_some e
  split at e
  · rename_i ds es ej
    split at e
    · rename_i hz
      cases e
      obtain ⟨p, vs, sj, hp, _⟩ := R.own ej
      refine ⟨_, sj, .inl ⟨rfl, vs, SqL.of hp⟩, w, env, g, [.list es], g', R, ?_, fun us I' H' s' R' ra => ?_⟩
      · show bD (me env g) (fun x g1 => bD (mNil env g1) fun xs g2 => some (x :: xs, g2)) = some ([.list es], g')
        rw [e1]; rfl
      · cases ra with
        | cons r q =>
          cases q
          obtain ⟨p', us, sj', hp', hi, h0, hf, rb, hy⟩ := R'.own ej
          rw [sj] at sj'
          cases sj'
          cases r with
          | lst hq rc hx =>
            refine ⟨p, _, us, _, rfl, rfl, hp', R'.eI _ _ hq, by rw [rb.len, rc.len]; exact hz, ?_⟩
            exact k σ I' _ s' (R'.setOw ej sj hp' hi h0 hf (rb.append rc) (by rw [List.length_append]; exact hz))
    · cases e
  · cases e
theorem ds_extend (j : Nat) {x : Str} {xp ap cp : Pos} (he : DE X S e me) (hN : X.N[j]? = some x := by rfl) (hv : Vis X.env.scope x := by first | exact Or.inl rfl | exact Or.inr (Or.inl rfl) | exact Or.inr (Or.inr rfl)) (hd : (x == ("__debug__" : Str)) = false := by decide)
    (hcd : (x == ("__classdict__" : Str)) = false := by decide)
    (hbase : attributeBase (.Name x xp) "extend" X.env (eval (.Name x xp) X.env) = eval (.Name x xp) X.env := by rfl)
    (hfew : ((backTo cp (starEach [e] X.env)).all (fun x => !x.1) && (backToKw cp (keywordEach [] X.env)).all (fun x => x.1.isSome)
      && decide ([e].length + ([] : List Keyword).length + (if ([] : List Keyword).isEmpty then 0 else 1) < 30)) = true := by rfl)
    (hline : (ap.endLine == cp.line) = true := by rfl) (hs : starEach [e] X.env = (false, eval e X.env) :: starEach [] X.env := by rfl) (hplain : (backTo cp (starEach [] X.env)).any (·.1) = false := by rfl)
    (hsw : swapsWith (.Call (.Attribute (.Name x xp) "extend" ap) [e] [] cp) none pos.line X.env = pure false := by rfl) :
    DS X S (.Expr (.Call (.Attribute (.Name x xp) "extend" ap) [e] [] cp) pos) (mExt j me) :=
  PS.imp (ps_expr (pe_bm PySem.F.plainAttrs_list PySem.F.slot_list_extend PySem.F.type_list_extend mt_extend (pe_var hN hv hd hcd) (da_cons (S := S) he da_nil hs) hbase hfew hline hs hplain) hsw) fun _ _ _ h => ts_ext h

/-! ### lent for one look: the answer holds no list -/
def Env.lend (js : List Nat) (env : Env) : Env := js.foldl Env.frz env
theorem frz_at (env : Env) (j k : Nat) : (env.frz j).at k = env.at k ∨ ∃ ds, env.at k = .ow ds ∧ (env.frz j).at k = .sh (.list ds) := by
  unfold Env.frz
  split
  · rename_i ds e
    rw [at_set]
    by_cases z : k = j ∧ j < env.length
    · rw [if_pos z, z.1]
      exact .inr ⟨ds, e, rfl⟩
    · rw [if_neg z]; exact .inl rfl
  · exact .inl rfl
theorem lend_at : ∀ (js : List Nat) (env : Env) (k : Nat), (env.lend js).at k = env.at k ∨ ∃ ds, env.at k = .ow ds ∧ (env.lend js).at k = .sh (.list ds)
  | [], env, k => .inl rfl
  | j :: js, env, k => by
    show (Env.lend js (env.frz j)).at k = env.at k ∨ ∃ ds, env.at k = .ow ds ∧ (Env.lend js (env.frz j)).at k = .sh (.list ds)
    rcases lend_at js (env.frz j) k with h1 | ⟨ds, h1, h2⟩
    · rcases frz_at env j k with h | ⟨ds, h, h'⟩
      · exact .inl (h1.trans h)
      · exact .inr ⟨ds, h, h1.trans h'⟩
    · rcases frz_at env j k with h | ⟨es, h, h'⟩
      · exact .inr ⟨ds, h.symm.trans h1, h2⟩
      · rw [h'] at h1; cases h1
theorem Rel.lend : ∀ (js : List Nat) {w : Wd} {env : Env}, Rel K S w env g σ H → ∃ I', Same w.I I' ∧ Rel K S (w.im I') (env.lend js) g σ H
  | [], w, env, R => ⟨w.I, Same.refl _, R⟩
  | j :: js, w, env, R => by
    obtain ⟨I1, s1, R1⟩ := R.frz j
    obtain ⟨I2, s2, R2⟩ := Rel.lend js R1
    exact ⟨I2, s1.trans s2, R2⟩
def Env.noOw (env : Env) : Bool := (List.range env.length).all fun k => (env.at k).notOw
theorem noOw_at {env : Env} (h : env.noOw = true) (k : Nat) : (env.at k).notOw = true := by
  by_cases z : k < env.length
  · exact List.all_eq_true.mp h k (List.mem_range.mpr z)
  · show (env.getD k .un).notOw = true
    rw [List.getD_eq_getElem?_getD, List.getElem?_eq_none (by omega)]; rfl
theorem Rel.unlend {js : List Nat} {I1 I2 : Hp} (R : Rel K S w env g σ H) (RL : Rel K S (w.im I1) (env.lend js) g σ H) (R2 : Rel K S (w.im I2) (env.lend js) g' σ H') (s0 : Same w.I I1) (s : Same I1 I2) (no : (env.lend js).noOw = true) : Rel K S w env g' σ H' where
  e0 := R2.e0
  eI := s0.trans (s.trans R2.eI)
  ag := R.ag
  ge := R.ge
  gfp := R2.gfp
  grt := R2.grt
  gok := R2.gok
  fI := R.fI
  f0 := R.f0
  len := R.len
  slot := fun k => by
    have q := R.slot k
    cases e : env.at k with
    | un => trivial
    | sh d => rw [e] at q; exact q
    | kd d => rw [e] at q; exact q
    | st => rw [e] at q; exact q
    | raw v => rw [e] at q; exact q
    | ow ds =>
      rw [e] at q
      obtain ⟨p, vs, e1, hp, hi, h0, hf, r, z⟩ := q
      refine ⟨p, vs, e1, ?_, hi, h0, hf, r, z⟩
      rcases lend_at js env k with h | ⟨es, h, h'⟩
      · have n := noOw_at no k
        rw [h, e] at n; cases n
      · have ql := RL.slot k
        rw [h'] at ql
        obtain ⟨v, f1, rp⟩ := ql
        rw [e1] at f1
        cases f1
        cases rp with
        | lst hq _ _ =>
          have hq1 := RL.eI _ _ hq
          rw [hp] at hq1
          cases hq1
          exact R2.eI _ _ (s _ _ hq)
  dis := R.dis
def scal0 : D → Bool
  | .none | .bool _ | .int _ | .str _ => true
  | _ => false
theorem scal0_rp {I J : Hp} {v : V} {d : D} (h : Rp K I v d) (z : scal0 d = true) : Rp K J v d := by
  cases h with
  | non => exact .non
  | bl b => exact .bl b
  | int i => exact .int i
  | str h => exact .str h
  | _ => cases z
def mLend (js : List Nat) (ma : ME G) : ME G := fun env g => if (env.lend js).noOw = true then bD (ma (env.lend js) g) fun d g1 => if scal0 d = true then some (d, g1) else none else none
def mLendT (js : List Nat) (mt : MT G) : MT G := fun env g => if (env.lend js).noOw = true then mt (env.lend js) g else none
theorem de_lend (js : List Nat) (h : DE X S e ma) : DE X S e (mLend js ma) := PE.imp h fun σ H Q ⟨w, env, g, d, g', R, e, k⟩ => by
  unfold mLend at e
  split at e
  case isFalse => cases e
  rename_i no
  obtain ⟨x, g1, e1, e⟩ := bD_some e
  split at e
  case isFalse => cases e
  rename_i sc
  cases e
  obtain ⟨I1, s1, RL⟩ := R.lend js
  exact ⟨w.im I1, env.lend js, g, d, g', RL, e1, fun v I' H' s' R' p => k v w.I H' (Same.refl _) (R.unlend RL R' s1 s' no) (scal0_rp p sc)⟩
theorem dt_lend (js : List Nat) (h : DT X S e mt) : DT X S e (mLendT js mt) := PT.imp h fun σ H Q ⟨w, env, g, d, g', R, e, k⟩ => by
  unfold mLendT at e
  split at e
  case isFalse => cases e
  rename_i no
  obtain ⟨I1, s1, RL⟩ := R.lend js
  exact ⟨w.im I1, env.lend js, g, d, g', RL, e, fun I' H' s' R' => k w.I H' (Same.refl _) (R.unlend RL R' s1 s' no)⟩
/-- x[i], x a list of one's own -/
def mIxOw (j : Nat) (mi : ME G) : ME G := fun env g => bD (mi env g) fun i g1 => match env.at j, i with
  | .ow ds, .int i => (atI ds i).map (·, g1)
  | _, _ => none
theorem de_ixOw (j : Nat) {x : Str} {xp : Pos} {i : Expr} {mi : ME G} (hi : DE X S i mi) (hN : X.N[j]? = some x := by rfl) (hv : Vis X.env.scope x := by first | exact Or.inl rfl | exact Or.inr (Or.inl rfl) | exact Or.inr (Or.inr rfl)) (hd : (x == ("__debug__" : Str)) = false := by decide)
    (hcd : (x == ("__classdict__" : Str)) = false := by decide) (hs : PlainIx i := by exact fun _ _ => rfl) : DE X S (.Subscript (.Name x xp) i pos) (mIxOw j mi) := PE.imp (pe_ix ix_list (pe_var hN hv hd hcd) hi hs) fun σ H Q ⟨w, env, g, d, g', R, e, k⟩ => by
  obtain ⟨i, g1, e1, e⟩ := bD_some e
  split at e
  · rename_i ds i ej
    obtain ⟨e3, rfl⟩ := map_some e
    obtain ⟨p, vs, sj, hp, _⟩ := R.own ej
    refine ⟨_, sj, w, env, g, _, g', R, e1, fun u I2 H2 s2 R2 p2 => ?_⟩
    cases p2
    obtain ⟨p', us, sj', hp', _, _, _, rb, _⟩ := R2.own ej
    rw [sj] at sj'
    cases sj'
    obtain ⟨v, e4, r⟩ := atI_rp rb e3
    exact ⟨p, us, i, v, rfl, rfl, SqL.of hp', e4, k v I2 H2 s2 R2 r⟩
  · cases e
/-- xs + ys, a new list -/
def mCat (ma mb : ME G) : ML G := fun env g => bD (ma env g) fun x g1 => bD (mb env g1) fun y g2 => match x, y with
  | .list xs, .list ys => if xs.length + ys.length ≤ sizeLine then some (xs ++ ys, g2) else none
  | _, _ => none
theorem df_cat (ha : DE X S a ma) (hb : DE X S b mb) : DF X S (.BinOp a .Add b pos) (mCat ma mb) := PE.imp (pe_op op_cat ha hb) fun σ H Q ⟨w, env, g, d, g', R, e, k⟩ => by
  obtain ⟨x, g1, e1, e⟩ := bD_some e
  obtain ⟨y, g2, e2, e⟩ := bD_some e
  split at e
  · rename_i xs ys
    split at e
    · rename_i hz
      cases e
      refine ⟨w, env, g, _, g1, R, e1, fun v I1 H1 s1 R1 p1 => ⟨w.im I1, env, g1, _, g', R1, e2, fun u I2 H2 s2 R2 p2 => ?_⟩⟩
      have s2 : Same I1 I2 := s2
      cases p1 with
      | lst hp ra _ =>
        cases p2 with
        | lst hq rb _ =>
          exact ⟨_, _, _, _, rfl, rfl, R2.eI _ _ (s2 _ _ hp), R2.eI _ _ hq, by rw [ra.len, rb.len]; exact hz, fun p h0 => k p _ I2 _ (s1.trans s2) (R2.alloc h0) (R2.nob h0) upd_same ((ra.mono s2).append rb) (by rw [List.length_append]; exact hz)⟩
    · cases e
  · cases e
def mCatOw (j : Nat) (mb : ME G) : ML G := fun env g => bD (mb env g) fun y g2 => match env.at j, y with
  | .ow xs, .list ys => if xs.length + ys.length ≤ sizeLine then some (xs ++ ys, g2) else none
  | _, _ => none
theorem df_catOw (j : Nat) {x : Str} {xp : Pos} (hb : DE X S b mb) (hN : X.N[j]? = some x := by rfl) (hv : Vis X.env.scope x := by first | exact Or.inl rfl | exact Or.inr (Or.inl rfl) | exact Or.inr (Or.inr rfl)) (hd : (x == ("__debug__" : Str)) = false := by decide)
    (hcd : (x == ("__classdict__" : Str)) = false := by decide) : DF X S (.BinOp (.Name x xp) .Add b pos) (mCatOw j mb) := PE.imp (pe_op op_cat (pe_var hN hv hd hcd) hb) fun σ H Q ⟨w, env, g, d, g', R, e, k⟩ => by
  obtain ⟨y, g2, e2, e⟩ := bD_some e
  split at e
  · rename_i xs ys ej
    split at e
    · rename_i hz
      cases e
      obtain ⟨p, vs, sj, hp, _⟩ := R.own ej
      refine ⟨_, sj, w, env, g, _, g', R, e2, fun u I2 H2 s2 R2 p2 => ?_⟩
      obtain ⟨p', us, sj', hp', _, _, _, ra, _⟩ := R2.own ej
      rw [sj] at sj'
      cases sj'
      cases p2 with
      | lst hq rb _ =>
        exact ⟨_, _, _, _, rfl, rfl, hp', R2.eI _ _ hq, by rw [ra.len, rb.len]; exact hz, fun p h0 => k p _ I2 _ s2 (R2.alloc h0) (R2.nob h0) upd_same (ra.append rb) (by rw [List.length_append]; exact hz)⟩
    · cases e
  · cases e
/-- xs * n -/
def mRep (ma mb : ME G) : ML G := fun env g => bD (ma env g) fun x g1 => bD (mb env g1) fun y g2 => match x, y with
  | .list xs, .int k => if -(2 ^ 63) ≤ k ∧ k < 2 ^ 63 ∧ xs.length * k.toNat ≤ sizeLine then some ((List.replicate k.toNat xs).flatten, g2) else none
  | _, _ => none
theorem df_rep (ha : DE X S a ma) (hb : DE X S b mb) : DF X S (.BinOp a .Mult b pos) (mRep ma mb) := PE.imp (pe_op op_rep ha hb) fun σ H Q ⟨w, env, g, d, g', R, e, k⟩ => by
  obtain ⟨x, g1, e1, e⟩ := bD_some e
  obtain ⟨y, g2, e2, e⟩ := bD_some e
  split at e
  · rename_i xs n
    split at e
    · rename_i hz
      cases e
      refine ⟨w, env, g, _, g1, R, e1, fun v I1 H1 s1 R1 p1 => ⟨w.im I1, env, g1, _, g', R1, e2, fun u I2 H2 s2 R2 p2 => ?_⟩⟩
      have s2 : Same I1 I2 := s2
      cases p1 with
      | lst hp ra _ =>
        cases p2
        refine ⟨_, _, _, rfl, rfl, R2.eI _ _ (s2 _ _ hp), hz.1, hz.2.1, by rw [ra.len]; exact hz.2.2, fun p h0 => k p _ I2 _ (s1.trans s2) (R2.alloc h0) (R2.nob h0) upd_same ((ra.mono s2).flatRep _) ?_⟩
        rw [List.length_flatten, List.map_replicate, List.sum_replicate_nat, Nat.mul_comm]
        exact hz.2.2
    · cases e
  · cases e
end
end Pd

/-! Pd: defs. -/
namespace Pd
open PySem PySem.Spec L2
section
variable {G : Type} {X : Cx} {S : Gs G} {m : MS G}
variable {K : PySem.W.Frag} {w : Wd} {env env' : Env} {g g' : G} {σ : St} {H H' I I' : Hp}

def startE (N : Nat) (as : List SV) : Env := as ++ List.replicate (N - as.length) .un
/-- a def's run: N slots, n parameters -/
def runS (N n : Nat) (m : MS G) (as : List SV) (g : G) : Option (Ct × G) := if as.length = n ∧ n ≤ N then match m (startE N as) g with
  | some (.re d, _, g1) => some (.re d, g1)
  | some (.rl ds, _, g1) => some (.rl ds, g1)
  | some (.nx, _, g1) => some (.re .none, g1)
  | _ => none
  else none
def Ct.data : Ct → Option D
  | .re d => some d
  | .rl ds => some (.list ds)
  | _ => none
def Ct.fresh : Ct → Option (List D)
  | .rl ds => some ds
  | _ => none
def runP (N n : Nat) (m : MS Unit) (ds : List D) : Option D := (runS N n m (ds.map .sh) ()).bind fun c => c.1.data
def runN (N n : Nat) (m : MS Unit) (ds : List D) : Option (List D) := (runS N n m (ds.map .sh) ()).bind fun c => c.1.fresh
def runG (N n : Nat) (m : MS G) (as : List SV) (g : G) : Option (D × G) := (runS N n m as g).bind fun c => c.1.data.map (·, c.2)

/-- the frame at a def's entry -/
theorem start_slot {w : Wd} {rt : V} {N : List Str} {vs : List V} {as : List SV} (hrt : w.rt = rt) (ha : ArgsOk K w.I rt vs as) (hl : as.length ≤ N.length) : ∀ i, SlotOk K w (start N vs) H i ((startE N.length as).at i) ∧ ∀ ds, (startE N.length as).at i ≠ .ow ds := by
  have key : ∀ {vs : List V} {as : List SV}, ArgsOk K w.I rt vs as → ∀ (n i : Nat), SlotOk K w (vs.map some ++ List.replicate n none) H i (Env.at (as ++ List.replicate n .un) i) ∧ ∀ ds, Env.at (as ++ List.replicate n .un) i ≠ .ow ds := by
    intro vs as h
    induction h with
    | nil =>
      intro n i
      have e : Env.at ([] ++ List.replicate n SV.un) i = .un := by
        show ([] ++ List.replicate n SV.un).getD i .un = .un
        rw [List.nil_append, List.getD_eq_getElem?_getD, List.getElem?_replicate]
        split <;> rfl
      rw [e]
      exact ⟨trivial, fun ds z => nomatch z⟩
    | @cons v vs a as ha _ ih =>
      intro n i
      cases i with
      | zero =>
        show SlotOk K w (some v :: _) H 0 a ∧ ∀ ds, a ≠ .ow ds
        cases a with
        | un => exact ha.elim
        | ow ds => exact ha.elim
        | sh d => exact ⟨⟨v, rfl, ha⟩, fun ds z => nomatch z⟩
        | kd d => exact ⟨⟨v, rfl, ha⟩, fun ds z => nomatch z⟩
        | st => exact ⟨(show some (some v) = some (some w.rt) by rw [hrt]; exact congrArg (fun x => some (some x)) ha), fun ds z => nomatch z⟩
        | raw u => exact ⟨(show some (some v) = some (some u) from congrArg (fun x => some (some x)) ha), fun ds z => nomatch z⟩
      | succ i =>
        have q := ih n i
        have e : Env.at ((a :: as) ++ List.replicate n .un) (i + 1) = Env.at (as ++ List.replicate n .un) i := rfl
        rw [e]
        refine ⟨?_, q.2⟩
        have q1 := q.1
        cases z : Env.at (as ++ List.replicate n .un) i with
        | un => trivial
        | sh d => rw [z] at q1; exact q1
        | kd d => rw [z] at q1; exact q1
        | st => rw [z] at q1; exact q1
        | raw u => rw [z] at q1; exact q1
        | ow ds => exact absurd z (q.2 ds)
  intro i
  have hv := ha.len
  have q := key ha (N.length - as.length) i
  unfold L2.start startE
  rw [hv]
  exact q
theorem start_rel {rt : V} {N : List Str} {vs : List V} {as : List SV} (w : Wd) (hrt : w.rt = rt) (ha : ArgsOk K w.I rt vs as) (hl : as.length ≤ N.length)
    (e0 : Same w.H0 H) (eI : Same w.I H) (ag : ∀ a o, w.H0 a = some o → w.I a = w.I0 a) (ge : Same w.I0 w.I) (gfp : ∀ a, S.fp g a ↔ w.fp a) (grt : S.root g = w.rt) (gok : S.ok g H) (fI : ∀ a, w.fp a → w.I a = none) (f0 : ∀ a, w.fp a → w.H0 a = none) :
    Rel K S w (startE N.length as) g (start N vs) H where
  e0 := e0
  eI := eI
  ag := ag
  ge := ge
  gfp := gfp
  grt := grt
  gok := gok
  fI := fI
  f0 := f0
  len := by
    unfold L2.start startE
    rw [List.length_append, List.length_append, List.length_map, List.length_replicate, List.length_replicate, ha.len]
  slot := fun i => (start_slot hrt ha hl i).1
  dis := fun i j p ds es _ e1 => absurd e1 ((start_slot (H := H) hrt ha hl i).2 ds)
theorem ArgsOk.of_rp {rt : V} : ∀ {vs : List V} {ds : List D}, RpA K I vs ds → ArgsOk K I rt vs (ds.map .sh)
  | _, _, .nil => .nil
  | _, _, .cons a b => .cons a (ArgsOk.of_rp b)
theorem runS_len {N n : Nat} {as : List SV} (r) (h : runS N n m as g = some r) : as.length = n ∧ n ≤ N := by
  unfold runS at h
  split at h
  · assumption
  · cases h
/-- what a def's end tells -/
def EndR (K : PySem.W.Frag) (S : Gs G) (w : Wd) (g' : G) (Q : VK) : Ct → Prop
  | .re d => ∀ v env' σ' I' H', Same w.I I' → Rel K S (w.im I') env' g' σ' H' → Rp K I' v d → Q v H'
  | .rl ds => ∀ p vs env' σ' I' H', Same w.I I' → Rel K S (w.im I') env' g' σ' H' → Nob (w.im I') env' σ' p → H' p = some (.lst vs) → RpA K I' vs ds → ds.length ≤ sizeLine → Q (.ref p) H'
  | _ => True
theorem run_body {N : List Str} {n : Nat} {as : List SV} {vs : List V} {w : Wd} {c : Ct} {Q : VK} (R : Rel K S w (startE N.length as) g (start N vs) H) (h : runS N.length n m as g = some (c, g')) (k : EndR K S w g' Q c) :
    tS K S m { nx := fun _ H' => Q .non H', rt := Q } (start N vs) H := by
  obtain ⟨hl, hn⟩ := runS_len _ h
  unfold runS at h
  rw [if_pos ⟨hl, hn⟩] at h
  split at h
  · rename_i d e1 g1 e
    cases h
    exact ⟨w, _, g, .re d, e1, g', R, e, fun v σ' I' H' s' R' p => k v e1 σ' I' H' s' R' p⟩
  · rename_i d e1 g1 e
    cases h
    exact ⟨w, _, g, .rl d, e1, g', R, e, fun p vs σ' I' H' s' R' n hp ra z => k p vs e1 σ' I' H' s' R' n hp ra z⟩
  · rename_i e1 g1 e
    cases h
    exact ⟨w, _, g, .nx, e1, g', R, e, fun σ' I' H' s' R' => k .non e1 σ' I' H' s' R' .non⟩
  · cases h
variable {P : Program} {wd : World} {mg : Str → Option Value} {base : Heap}
/-- a def's body as a term of rules, in any frame -/
abbrev Body (P : Program) (wd : World) (K : PySem.W.Frag) (mg : Str → Option Value) (base : Heap) (N : List Str) (qual : Str) (st : Stmt) (f : Addr) (k : Nat) (S : Gs G) (m : MS G) : Prop :=
  ∀ (cdv : Value) (A : Around) (outer : List PySem.Env) (s : Shared) (H : Hp) (E : XK), Room k (A.deeper (PyProof.Rows.envOfC qual (defScope st) s.heap.objs.size f cdv)) →
    PSs (cxOf CX0 P wd K mg base N qual (defScope st) f cdv A outer s H E).nox (defBody st) (tS K S m)
theorem fn_pure {x qual : Str} {st : Stmt} {f : Addr} {fd : FuncData} {N ps : List Str} {k : Nat} {m : MS Unit} (F : Fun K x qual st f fd) (Sc : FnScope N ps (defScope st)) (hb : Body P wd K mg base N qual st f k G0 m) :
    FnOk P wd K mg base CX0 (k + 1) f fd ps (spP K (runP N.length ps.length m)) := by
  refine F.ok Sc (fun vs H Q E h => ?_) (fun cdv A outer s H vs Q E hr h => ?_)
  · obtain ⟨I, ds, d, _, ra, e, _⟩ := h
    obtain ⟨c, e1, _⟩ := Option.bind_eq_some_iff.mp e
    have q := (runS_len (c.1, c.2) e1).1
    rw [List.length_map] at q
    rw [ra.len, q]
  · obtain ⟨I, ds, d, sI, ra, e, kk⟩ := h
    obtain ⟨⟨c, u⟩, e1, e2⟩ := Option.bind_eq_some_iff.mp e
    have hl := runS_len _ e1
    refine ⟨_, hb cdv A outer s H E hr, ?_⟩
    have R : Rel K G0 ⟨H, I, I, fun _ => False, .non⟩ (startE N.length (ds.map .sh)) () (start N vs) H :=
      start_rel (rt := .non) ⟨H, I, I, fun _ => False, .non⟩ rfl (ArgsOk.of_rp ra) (by rw [hl.1]; exact hl.2) (Same.refl _) sI (fun _ _ _ => rfl) (Same.refl _) (fun _ => Iff.rfl) rfl trivial (fun _ z => z.elim) (fun _ z => z.elim)
    refine run_body (c := c) (g' := u) R e1 ?_
    have fin : ∀ (env' : Env) σ' I' H', Same I I' → Rel K G0 (Wd.im ⟨H, I, I, fun _ => False, .non⟩ I') env' u σ' H' → Pst I H I' H' := fun env' σ' I' H' s' R' => ⟨s', R'.e0, R'.eI, fun a ha => by
      cases q : H a with
      | none => exact absurd q ha
      | some o => exact R'.ag a o q⟩
    cases c with
    | re d' =>
      cases e2
      exact fun v env' σ' I' H' s' R' p => kk v I' H' (fin env' σ' I' H' s' R') p
    | rl ds' =>
      cases e2
      refine fun p us env' σ' I' H' s' R' n hp rb z => ?_
      have R2 := R'.freeze n hp
      exact kk (.ref p) _ H' (fin env' σ' _ H' (Same.trans s' (same_new n.i)) R2) (.lst upd_same (rb.mono (same_new n.i)) z)
    | _ => cases e2
theorem fn_new {x qual : Str} {st : Stmt} {f : Addr} {fd : FuncData} {N ps : List Str} {k : Nat} {m : MS Unit} (F : Fun K x qual st f fd) (Sc : FnScope N ps (defScope st)) (hb : Body P wd K mg base N qual st f k G0 m) :
    FnOk P wd K mg base CX0 (k + 1) f fd ps (spN K (runN N.length ps.length m)) := by
  refine F.ok Sc (fun vs H Q E h => ?_) (fun cdv A outer s H vs Q E hr h => ?_)
  · obtain ⟨I, ds, d, _, ra, e, _⟩ := h
    obtain ⟨c, e1, _⟩ := Option.bind_eq_some_iff.mp e
    have q := (runS_len (c.1, c.2) e1).1
    rw [List.length_map] at q
    rw [ra.len, q]
  · obtain ⟨I, ds, d, sI, ra, e, kk⟩ := h
    obtain ⟨⟨c, u⟩, e1, e2⟩ := Option.bind_eq_some_iff.mp e
    have hl := runS_len _ e1
    refine ⟨_, hb cdv A outer s H E hr, ?_⟩
    have R : Rel K G0 ⟨H, I, I, fun _ => False, .non⟩ (startE N.length (ds.map .sh)) () (start N vs) H :=
      start_rel (rt := .non) ⟨H, I, I, fun _ => False, .non⟩ rfl (ArgsOk.of_rp ra) (by rw [hl.1]; exact hl.2) (Same.refl _) sI (fun _ _ _ => rfl) (Same.refl _) (fun _ => Iff.rfl) rfl trivial (fun _ z => z.elim) (fun _ z => z.elim)
    refine run_body (c := c) (g' := u) R e1 ?_
    cases c with
    | rl ds' =>
      cases e2
      refine fun p us env' σ' I' H' s' R' n hp rb z => kk p us I' H' ⟨s', R'.e0, R'.eI, fun a ha => ?_⟩ n.h0 n.i hp rb z
      cases q : H a with
      | none => exact absurd q ha
      | some o => exact R'.ag a o q
    | _ => cases e2
open Classical in
theorem fn_ghost {x qual : Str} {st : Stmt} {f : Addr} {fd : FuncData} {N ps : List Str} {k : Nat} {m : MS G} (F : Fun K x qual st f fd) (Sc : FnScope N ps (defScope st)) (hb : Body P wd K mg base N qual st f k S m) :
    FnOk P wd K mg base CX0 (k + 1) f fd ps (spG K S (runG N.length ps.length m)) := by
  refine F.ok Sc (fun vs H Q E h => ?_) (fun cdv A outer s H vs Q E hr h => ?_)
  · obtain ⟨I, g, as, d, g', _, _, _, ra, e, _⟩ := h
    obtain ⟨c, e1, _⟩ := Option.bind_eq_some_iff.mp e
    have q := (runS_len (c.1, c.2) e1).1
    rw [ra.len, q]
  · obtain ⟨I, g, as, d, g', sI, gok, fI, ra, e, kk⟩ := h
    obtain ⟨⟨c, g1⟩, e1, e2⟩ := Option.bind_eq_some_iff.mp e
    have hl := runS_len _ e1
    refine ⟨_, hb cdv A outer s H E hr, ?_⟩
    have h0 : Same (fun a => if S.fp g a then none else H a) H := fun a o q => by
      have q : (if S.fp g a then none else H a) = some o := q
      split at q
      · cases q
      · exact q
    have R : Rel K S ⟨fun a => if S.fp g a then none else H a, I, I, S.fp g, S.root g⟩ (startE N.length as) g (start N vs) H :=
      start_rel (rt := S.root g) ⟨fun a => if S.fp g a then none else H a, I, I, S.fp g, S.root g⟩ rfl ra (by rw [hl.1]; exact hl.2) h0 sI (fun _ _ _ => rfl) (Same.refl _) (fun _ => Iff.rfl) rfl gok fI (fun a z => if_pos z)
    refine run_body (c := c) (g' := g1) R e1 ?_
    have fin : ∀ (env' : Env) σ' I' H', Same I I' → Rel K S (Wd.im ⟨fun a => if S.fp g a then none else H a, I, I, S.fp g, S.root g⟩ I') env' g1 σ' H' → Gst S I H g I' H' g1 := fun env' σ' I' H' s' R' => {
      eI := s'
      eH := fun a o q nf => R'.e0 a o (show (if S.fp g a then none else H a) = some o by rw [if_neg nf]; exact q)
      sub := R'.eI
      ag := fun a ha => by
        by_cases z : S.fp g a
        · exact (R'.fI a z).trans (fI a z).symm
        · cases q : H a with
          | none => exact absurd q ha
          | some o => exact R'.ag a o (show (if S.fp g a then none else H a) = some o by rw [if_neg z]; exact q)
      fp' := R'.gfp
      rt := R'.grt
      ok := R'.gok }
    have e2 : (c.data).map (·, g1) = some (d, g') := e2
    cases c with
    | re d' =>
      cases e2
      exact fun v env' σ' I' H' s' R' p => kk v I' H' (fin env' σ' I' H' s' R') p
    | rl ds' =>
      cases e2
      refine fun p us env' σ' I' H' s' R' n hp rb z => ?_
      have R2 := R'.freeze n hp
      exact kk (.ref p) _ H' (fin env' σ' _ H' (Same.trans s' (same_new n.i)) R2) (.lst upd_same (rb.mono (same_new n.i)) z)
    | _ => cases e2
end
end Pd

/-! Pd: operations by values. -/
namespace Pd
open PySem PySem.Spec L2
section
variable {G : Type} {X : Cx} {S : Gs G} {K : PySem.W.Frag}

/-! ### ints -/
def dI (g : Int → Int → D) : D → D → Option D
  | .int i, .int j => some (g i j)
  | _, _ => none
def dIc (C : Int → Int → Prop) [∀ i j, Decidable (C i j)] (g : Int → Int → D) : D → D → Option D
  | .int i, .int j => if C i j then some (g i j) else none
  | _, _ => none
theorem od_I {gv : Int → Int → V} {g : Int → Int → D} (h : ∀ i j I, Rp K I (gv i j) (g i j)) : OpD K (rI0 gv) (dI g) := by
  intro I H x y d e z s p q hz Q k
  cases p with
  | int i =>
    cases q with
    | int j => cases hz; exact ⟨i, j, rfl, rfl, k _ I H (Pst.refl s) (h i j I)⟩
    | _ => cases hz
  | _ => cases hz
theorem od_Ic {C : Int → Int → Prop} [∀ i j, Decidable (C i j)] {gv : Int → Int → V} {g : Int → Int → D} (h : ∀ i j I, Rp K I (gv i j) (g i j)) : OpD K (rI C gv) (dIc C g) := by
  intro I H x y d e z s p q hz Q k
  cases p with
  | int i =>
    cases q with
    | int j =>
      have hz : (if C i j then some (g i j) else none) = some z := hz
      split at hz
      · rename_i hc
        cases hz
        exact ⟨i, j, rfl, rfl, hc, k _ I H (Pst.refl s) (h i j I)⟩
      · cases hz
    | _ => cases hz
  | _ => cases hz
instance (i j : Int) : Decidable (CMul i j) := by unfold CMul; exact inferInstance
instance (i j : Int) : Decidable (CDivN i j) := by unfold CDivN; exact inferInstance
instance (i j : Int) : Decidable (CPow i j) := by unfold CPow; exact inferInstance

/-! ### + -/
theorem sok_app {x y : Str} (hx : SOk x) (hy : SOk y) (hz : x.length + y.length ≤ sizeLine) : SOk (x ++ y) := by
  refine ⟨?_, ?_⟩
  · have e : (x ++ y).length = x.length + y.length := by
      show (x.cps ++ y.cps).size = x.cps.size + y.cps.size
      rw [Array.size_append]
    rw [e]; exact hz
  · have h1 := hx.2
    have h2 := hy.2
    simp only [PyData.canLay0] at h1 h2 ⊢
    unfold PyData.strOk at h1 h2 ⊢
    show (x.cps ++ y.cps).all _ = true
    rw [Array.all_append, h1, h2]
    rfl
def dAddS : D → D → Option D
  | .str x, .str y => if x.length + y.length ≤ sizeLine then some (.str (x ++ y)) else none
  | _, _ => none
def dAddT : D → D → Option D
  | .tuple xs, .tuple ys => if xs.length + ys.length ≤ sizeLine then some (.tuple (xs ++ ys)) else none
  | _, _ => none
def dAddL : D → D → Option D
  | .list xs, .list ys => if xs.length + ys.length ≤ sizeLine then some (.list (xs ++ ys)) else none
  | _, _ => none
theorem od_addS : OpD K (fun x y H Q => ∃ i j, x = .str i ∧ y = .str j ∧ i.length + j.length ≤ sizeLine ∧ Q (.str (i ++ j)) H) dAddS := by
  intro I H x y d e z s p q hz Q k
  cases p with
  | str hx =>
    cases q with
    | str hy =>
      have hz : (if _ then _ else none) = some z := hz
      split at hz
      · rename_i hc
        cases hz
        exact ⟨_, _, rfl, rfl, hc, k _ I H (Pst.refl s) (.str (sok_app hx hy hc))⟩
      · cases hz
    | _ => cases hz
  | _ => cases hz
theorem od_addT : OpD K (rCatA K) dAddT := by
  intro I H x y d e z s p q hz Q k
  cases p with
  | tup hp ra hl =>
    cases q with
    | tup hq rb hm =>
      have hz : (if _ then _ else none) = some z := hz
      split at hz
      · rename_i hc
        cases hz
        refine ⟨_, _, _, _, rfl, rfl, same_t s hp, same_t s hq, by rw [ra.len, rb.len]; exact hc, fun e => ?_, fun _ e => ?_, fun _ _ p h0 => ?_⟩
        · subst e
          cases ra
          exact k _ I H (Pst.refl s) (.tup hq rb hm)
        · subst e
          cases rb
          rw [List.append_nil] at k
          exact k _ I H (Pst.refl s) (.tup hp ra hl)
        · exact k _ _ _ (Pst.new s h0) (.tup (SqT.of upd_same) ((ra.append rb).mono (Pst.new s h0).eI) (by rw [List.length_append]; exact hc))
      · cases hz
    | _ => cases hz
  | _ => cases hz
theorem od_addL : OpD K rCat dAddL := by
  intro I H x y d e z s p q hz Q k
  cases p with
  | lst hp ra hl =>
    cases q with
    | lst hq rb hm =>
      have hz : (if _ then _ else none) = some z := hz
      split at hz
      · rename_i hc
        cases hz
        refine ⟨_, _, _, _, rfl, rfl, s _ _ hp, s _ _ hq, by rw [ra.len, rb.len]; exact hc, fun p h0 => ?_⟩
        exact k _ _ _ (Pst.new s h0) (.lst upd_same ((ra.append rb).mono (Pst.new s h0).eI) (by rw [List.length_append]; exact hc))
      · cases hz
    | _ => cases hz
  | _ => cases hz
def dAddI : D → D → Option D := dI fun i j => .int (i + j)
/-- + of ints, texts, tuples, lists -/
def dAdd (x y : D) : Option D := match x, y with
  | .int i, .int j => some (.int (i + j))
  | .str x, .str y => if x.length + y.length ≤ sizeLine then some (.str (x ++ y)) else none
  | .tuple xs, .tuple ys => if xs.length + ys.length ≤ sizeLine then some (.tuple (xs ++ ys)) else none
  | .list xs, .list ys => if xs.length + ys.length ≤ sizeLine then some (.list (xs ++ ys)) else none
  | _, _ => none
theorem OpD.imp {r : R2} {f f' : D → D → Option D} (h : OpD K r f) (e : ∀ x y z, f' x y = some z → f x y = some z) : OpD K r f' := by
  intro I H x y d e' z s p q hz Q k
  exact h s p q (e _ _ _ hz) k
abbrev rAddD (K : PySem.W.Frag) : R2 := fun x y H Q => rI0 (fun i j => .int (i + j)) x y H Q ∨ ((∃ i j, x = .str i ∧ y = .str j ∧ i.length + j.length ≤ sizeLine ∧ Q (.str (i ++ j)) H) ∨ (rCatA K x y H Q ∨ rCat x y H Q))
theorem op_addD : OpR X (binaryOp .Add) (rAddD X.K) := op_add.or (op_add_str.or (op_catA.or op_cat))
theorem od_addD : OpD K (rAddD K) dAdd := OpD.imp (OpD.or (od_I (g := fun i j => .int (i + j)) fun i j I => .int _) (OpD.or od_addS (OpD.or od_addT od_addL))) fun x y z h => by
  unfold dAdd at h
  split at h
  · exact h
  · split at h
    · rename_i hc
      simp only [dI, dAddS, if_pos hc]; exact h
    · cases h
  · split at h
    · rename_i hc
      simp only [dI, dAddS, dAddT, if_pos hc]; exact h
    · cases h
  · split at h
    · rename_i hc
      simp only [dI, dAddS, dAddT, dAddL, if_pos hc]; exact h
    · cases h
  · cases h
abbrev dSub : D → D → Option D := dI fun i j => .int (i - j)
theorem od_sub : OpD K (rI0 fun i j => .int (i - j)) dSub := od_I fun i j I => .int _
abbrev dMul : D → D → Option D := dIc CMul fun i j => .int (i * j)
theorem od_mul : OpD K (rI CMul fun i j => .int (i * j)) dMul := od_Ic fun i j I => .int _
abbrev dDiv : D → D → Option D := dIc CDivN fun i j => .int (i.fdiv j)
theorem od_div : OpD K (rI CDivN fun i j => .int (i.fdiv j)) dDiv := od_Ic fun i j I => .int _
abbrev dMod : D → D → Option D := dIc (fun _ j => j ≠ 0) fun i j => .int (i.fmod j)
theorem od_mod : OpD K (rI (fun _ j => j ≠ 0) fun i j => .int (i.fmod j)) dMod := od_Ic fun i j I => .int _
abbrev dPow : D → D → Option D := dIc CPow fun i j => .int (i ^ j.toNat)
theorem od_pow : OpD K (rI CPow fun i j => .int (i ^ j.toNat)) dPow := od_Ic fun i j I => .int _
abbrev dShl : D → D → Option D := dIc CPow fun i j => .int (i * 2 ^ j.toNat)
theorem od_shl : OpD K (rI CPow fun i j => .int (i * 2 ^ j.toNat)) dShl := od_Ic fun i j I => .int _
def dNeg : D → Option D
  | .int i => some (.int (-i))
  | _ => none
theorem ud_neg : UnD K (rU fun i => .int (-i)) dNeg := by
  intro I H x d z s p hz Q k
  cases p with
  | int i => cases hz; exact ⟨i, rfl, k _ I H (Pst.refl s) (.int _)⟩
  | _ => cases hz

/-! ### comparisons -/
abbrev dLtI : D → D → Option D := dI fun i j => .bool (decide (i < j))
theorem od_ltI : OpD K (rI0 fun i j => .bl (decide (i < j))) dLtI := od_I fun i j I => .bl _
abbrev dLeI : D → D → Option D := dI fun i j => .bool (decide (i ≤ j))
theorem od_leI : OpD K (rI0 fun i j => .bl (decide (i ≤ j))) dLeI := od_I fun i j I => .bl _
abbrev dGtI : D → D → Option D := dI fun i j => .bool (decide (j < i))
theorem od_gtI : OpD K (rI0 fun i j => .bl (decide (j < i))) dGtI := od_I fun i j I => .bl _
abbrev dGeI : D → D → Option D := dI fun i j => .bool (decide (j ≤ i))
theorem od_geI : OpD K (rI0 fun i j => .bl (decide (j ≤ i))) dGeI := od_I fun i j I => .bl _
def dEq (x y : D) : Option D := if x.depth ≤ 64 ∧ y.depth ≤ 64 then some (.bool (PyData.eqv x y)) else none
def dNe (x y : D) : Option D := if x.depth ≤ 64 ∧ y.depth ≤ 64 then some (.bool (!PyData.eqv x y)) else none
theorem shaped_of {I : Hp} {v : V} {d : D} (h : Rp K I v d) (hd : d.depth ≤ 64) : SeqAt.shaped d = true := by
  unfold SeqAt.shaped
  rw [h.lay, decide_eq_true hd]
  rfl
theorem od_eq : OpD K (rEqD K) dEq := by
  intro I H x y d e z s p q hz Q k
  unfold dEq at hz
  split at hz
  · rename_i hc
    cases hz
    exact ⟨d, e, (p.mono s).dp, (q.mono s).dp, shaped_of p hc.1, shaped_of q hc.2, k _ I H (Pst.refl s) (.bl _)⟩
  · cases hz
theorem od_ne : OpD K (rNeD K) dNe := by
  intro I H x y d e z s p q hz Q k
  unfold dNe at hz
  split at hz
  · rename_i hc
    cases hz
    exact ⟨d, e, (p.mono s).dp, (q.mono s).dp, shaped_of p hc.1, shaped_of q hc.2, k _ I H (Pst.refl s) (.bl _)⟩
  · cases hz
def isNone : D → Bool
  | .none => true
  | _ => false
def dIs : D → D → Option D
  | x, .none => some (.bool (isNone x))
  | _, _ => none
def dIsNot : D → D → Option D
  | x, .none => some (.bool (!isNone x))
  | _, _ => none
theorem isNone_rp {I : Hp} {v : V} {d : D} (h : Rp K I v d) : decide (v = .non) = isNone d := by
  cases h <;> simp [isNone]
theorem od_is : OpD K (fun x y H Q => y = .non ∧ Q (.bl (decide (x = .non))) H) dIs := by
  intro I H x y d e z s p q hz Q k
  cases q with
  | non => cases hz; exact ⟨rfl, by rw [isNone_rp p]; exact k _ I H (Pst.refl s) (.bl _)⟩
  | _ => cases hz
theorem od_isNot : OpD K (fun x y H Q => y = .non ∧ Q (.bl (!decide (x = .non))) H) dIsNot := by
  intro I H x y d e z s p q hz Q k
  cases q with
  | non => cases hz; exact ⟨rfl, by rw [isNone_rp p]; exact k _ I H (Pst.refl s) (.bl _)⟩
  | _ => cases hz
/-- in: a list of data, a tuple of flat data, one sign in a text -/
def flatD : D → Bool
  | .none | .bool _ | .int _ | .str _ => true
  | _ => false
theorem flat_rp {I : Hp} {v : V} {d : D} (h : Rp K I v d) : flatV v = flatD d := by cases h <;> rfl
theorem eqV_rp {I : Hp} {u v : V} {d e : D} (hu : Rp K I u d) (hv : Rp K I v e) (fd : flatD d = true) (fe : flatD e = true) : eqV u v = PyData.eqv d e := by
  cases hu <;> cases hv <;> first | (cases fd; done) | (cases fe; done) | (simp only [eqV, PyData.eqv])
theorem inV_rp {I : Hp} {x : V} {d : D} (hx : Rp K I x d) (fd : flatD d = true) : ∀ {vs : List V} {ds : List D}, RpA K I vs ds → ds.all flatD = true → inV x vs = ds.any fun e => PyData.eqv e d
  | _, _, .nil, _ => rfl
  | _, _, .cons (d := e) a b, h => by
    rw [List.all_cons, Bool.and_eq_true] at h
    show (eqV _ x || inV x _) = (PyData.eqv e d || _)
    rw [eqV_rp a hx h.1 fd, inV_rp hx fd b h.2]
theorem flats_rp {I : Hp} : ∀ {vs : List V} {ds : List D}, RpA K I vs ds → vs.all flatV = ds.all flatD
  | _, _, .nil => rfl
  | _, _, .cons a b => by rw [List.all_cons, List.all_cons, flat_rp a, flats_rp b]
def dInF (neg : Bool) : D → D → Option D
  | x, .list ds => if flatD x = true ∧ ds.all flatD = true then some (.bool (if neg then !ds.any (fun e => PyData.eqv e x) else ds.any fun e => PyData.eqv e x)) else none
  | x, .tuple ds => if flatD x = true ∧ ds.all flatD = true then some (.bool (if neg then !ds.any (fun e => PyData.eqv e x) else ds.any fun e => PyData.eqv e x)) else none
  | _, _ => none
theorem od_inF (neg : Bool) : OpD K (rIn K neg) (dInF neg) := by
  intro I H x y d e z s p q hz Q k
  cases q with
  | lst hq ra hl =>
    have hz : (if _ then _ else none) = some z := hz
    split at hz
    · rename_i hc
      cases hz
      refine ⟨_, _, rfl, .inl (SqL.of (s _ _ hq)), by rw [flat_rp p]; exact hc.1, by rw [flats_rp ra]; exact hc.2, ?_⟩
      rw [inV_rp p hc.1 ra hc.2]
      exact k _ I H (Pst.refl s) (.bl _)
    · cases hz
  | tup hq ra hl =>
    have hz : (if _ then _ else none) = some z := hz
    split at hz
    · rename_i hc
      cases hz
      refine ⟨_, _, rfl, .inr (same_t s hq), by rw [flat_rp p]; exact hc.1, by rw [flats_rp ra]; exact hc.2, ?_⟩
      rw [inV_rp p hc.1 ra hc.2]
      exact k _ I H (Pst.refl s) (.bl _)
    · cases hz
  | _ => cases hz
def dInS (neg : Bool) : D → D → Option D
  | .str ⟨cs⟩, .str z => match cs.toList with
    | [c] => some (.bool (if neg then !decide (c ∈ z.cps.toList) else decide (c ∈ z.cps.toList)))
    | _ => none
  | _, _ => none
theorem dInS_some {neg : Bool} {x y z : D} (h : dInS neg x y = some z) : ∃ c u, x = .str ⟨#[c]⟩ ∧ y = .str u ∧ z = .bool (if neg then !decide (c ∈ u.cps.toList) else decide (c ∈ u.cps.toList)) := by
  cases x with
  | str s =>
    obtain ⟨cs⟩ := s
    cases y with
    | str u =>
      have h : (match cs.toList with
        | [c] => some (PyData.bool (if neg then !decide (c ∈ u.cps.toList) else decide (c ∈ u.cps.toList)))
        | _ => none) = some z := h
      split at h
      · rename_i c ec
        cases h
        have e : cs = #[c] := by
          apply Array.ext'
          rw [ec]
        exact ⟨c, u, by rw [e], rfl, rfl⟩
      · cases h
    | _ => cases h
  | _ => cases h
theorem od_inS : OpD K (fun x y H Q => ∃ (c : Nat) (z : Str), x = .str ⟨#[c]⟩ ∧ y = .str z ∧ Q (.bl (decide (c ∈ z.cps.toList))) H) (dInS false) := by
  intro I H x y d e z s p q hz Q k
  obtain ⟨c, u, rfl, rfl, rfl⟩ := dInS_some hz
  cases p
  cases q
  exact ⟨c, u, rfl, rfl, k _ I H (Pst.refl s) (.bl _)⟩
theorem od_notInS : OpD K (fun x y H Q => ∃ (c : Nat) (z : Str), x = .str ⟨#[c]⟩ ∧ y = .str z ∧ Q (.bl (!decide (c ∈ z.cps.toList))) H) (dInS true) := by
  intro I H x y d e z s p q hz Q k
  obtain ⟨c, u, rfl, rfl, rfl⟩ := dInS_some hz
  cases p
  cases q
  exact ⟨c, u, rfl, rfl, k _ I H (Pst.refl s) (.bl _)⟩

/-! ### built-in functions -/
def dLen : List D → Option D
  | [.list ds] => some (.int ds.length)
  | [.tuple ds] => some (.int ds.length)
  | [.str x] => some (.int x.length)
  | _ => none
theorem cd_len : CallD K (fun xs H Q => ∃ x n, xs = [x] ∧ LenV K x H n ∧ Q (.int n) H) dLen := by
  intro I H xs ds z s p hz Q k
  cases p with
  | nil => cases hz
  | cons a b =>
    cases b with
    | cons _ _ => cases a <;> cases hz
    | nil =>
      cases a with
      | lst hp ra hl => cases hz; exact ⟨_, _, rfl, .inl ⟨_, SqL.of (s _ _ hp), ra.len.symm⟩, k _ I H (Pst.refl s) (.int _)⟩
      | tup hp ra hl => cases hz; exact ⟨_, _, rfl, .inr ⟨_, same_t s hp, ra.len.symm⟩, k _ I H (Pst.refl s) (.int _)⟩
      | str hx => cases hz; exact ⟨_, _, rfl, ⟨hx.1, rfl⟩, k _ I H (Pst.refl s) (.int _)⟩
      | _ => cases hz
def dAbs : List D → Option D
  | [.int i] => some (.int (if i < 0 then -i else i))
  | _ => none
theorem cd_abs : CallD K (fun xs H Q => ∃ i, xs = [.int i] ∧ Q (.int (if i < 0 then -i else i)) H) dAbs := by
  intro I H xs ds z s p hz Q k
  cases p with
  | nil => cases hz
  | cons a b =>
    cases b with
    | cons _ _ => cases a <;> cases hz
    | nil =>
      cases a with
      | int i => cases hz; exact ⟨i, rfl, k _ I H (Pst.refl s) (.int _)⟩
      | _ => cases hz
def dInt : List D → Option D
  | [.int i] => some (.int i)
  | [.bool b] => some (.int (if b then 1 else 0))
  | _ => none
theorem cd_int : CallD K (fun xs H Q => (∃ i, xs = [.int i] ∧ Q (.int i) H) ∨ ∃ k, xs = [.bl k] ∧ Q (.int (if k then 1 else 0)) H) dInt := by
  intro I H xs ds z s p hz Q k
  cases p with
  | nil => cases hz
  | cons a b =>
    cases b with
    | cons _ _ => cases a <;> cases hz
    | nil =>
      cases a with
      | int i => cases hz; exact .inl ⟨i, rfl, k _ I H (Pst.refl s) (.int _)⟩
      | bl i => cases hz; exact .inr ⟨i, rfl, k _ I H (Pst.refl s) (.int _)⟩
      | _ => cases hz
def dMax2 : List D → Option D
  | [.int i, .int j] => some (.int (if j > i then j else i))
  | _ => none
def dMin2 : List D → Option D
  | [.int i, .int j] => some (.int (if j < i then j else i))
  | _ => none
theorem rpa_two {I : Hp} {xs : List V} {i j : Int} (h : RpA K I xs [.int i, .int j]) : xs = [.int i, .int j] := by
  cases h with
  | cons a b => cases a; cases b with
    | cons a b => cases a; cases b; rfl
theorem cd_max2 : CallD K (fun xs H Q => ∃ i j, xs = [.int i, .int j] ∧ Q (.int (if j > i then j else i)) H) dMax2 := by
  intro I H xs ds z s p hz Q k
  unfold dMax2 at hz
  split at hz
  · cases hz; exact ⟨_, _, rpa_two p, k _ I H (Pst.refl s) (.int _)⟩
  · cases hz
theorem cd_min2 : CallD K (fun xs H Q => ∃ i j, xs = [.int i, .int j] ∧ Q (.int (if j < i then j else i)) H) dMin2 := by
  intro I H xs ds z s p hz Q k
  unfold dMin2 at hz
  split at hz
  · cases hz; exact ⟨_, _, rpa_two p, k _ I H (Pst.refl s) (.int _)⟩
  · cases hz
/-- list(x) -/
def dListOf : List D → Option (List D)
  | [.list ds] => some ds
  | [.tuple ds] => some ds
  | _ => none
theorem cf_list : CallF K (fun xs H Q => ∃ p ys, xs = [.ref p] ∧ (SqL K H p ys ∨ SqT K H p ys) ∧ ∀ l, H l = none → Q (.ref l) (upd H l (.lst ys))) dListOf := by
  intro I H xs ds zs s p hz Q k
  cases p with
  | nil => cases hz
  | cons a b =>
    cases b with
    | cons _ _ => cases a <;> cases hz
    | nil =>
      cases a with
      | lst hp ra hl => cases hz; exact ⟨_, _, rfl, .inl (SqL.of (s _ _ hp)), fun l h0 => k l _ _ h0 (same_new h0) upd_same ra hl⟩
      | tup hp ra hl => cases hz; exact ⟨_, _, rfl, .inr (same_t s hp), fun l h0 => k l _ _ h0 (same_new h0) upd_same ra hl⟩
      | _ => cases hz
def dTupleOf : List D → Option D
  | [.list ds] => some (.tuple ds)
  | [.tuple ds] => some (.tuple ds)
  | _ => none
theorem cd_tuple : CallD K (fun xs H Q => ∃ p ys, xs = [.ref p] ∧ ((SqL K H p ys ∧ ∀ l, H l = none → Q (.ref l) (upd H l (.tup ys))) ∨ (SqT K H p ys ∧ Q (.ref p) H))) dTupleOf := by
  intro I H xs ds zs s p hz Q k
  cases p with
  | nil => cases hz
  | cons a b =>
    cases b with
    | cons _ _ => cases a <;> cases hz
    | nil =>
      cases a with
      | lst hp ra hl =>
        cases hz
        exact ⟨_, _, rfl, .inl ⟨SqL.of (s _ _ hp), fun l h0 => by
          exact k _ _ _ (Pst.new s h0) (.tup (SqT.of upd_same) (ra.mono (Pst.new s h0).eI) hl)⟩⟩
      | tup hp ra hl => cases hz; exact ⟨_, _, rfl, .inr ⟨same_t s hp, k _ I H (Pst.refl s) (.tup hp ra hl)⟩⟩
      | _ => cases hz
def intsD : List D → Option (List Int)
  | [] => some []
  | .int i :: ds => (intsD ds).map (i :: ·)
  | _ => none
theorem intsD_some : ∀ {ds : List D} {ns : List Int}, intsD ds = some ns → ds = ns.map .int
  | [], _, h => by cases h; rfl
  | d :: ds, ns, h => by
    cases d with
    | int i =>
      obtain ⟨r, h1, rfl⟩ := Option.map_eq_some_iff.mp h
      rw [intsD_some h1]; rfl
    | _ => cases h
theorem intsD_map : ∀ ns : List Int, intsD (ns.map .int) = some ns
  | [] => rfl
  | n :: ns => by show (intsD (ns.map .int)).map (n :: ·) = _; rw [intsD_map ns]; rfl
def boolsD : List D → Option (List Bool)
  | [] => some []
  | .bool i :: ds => (boolsD ds).map (i :: ·)
  | _ => none
theorem boolsD_some : ∀ {ds : List D} {ns : List Bool}, boolsD ds = some ns → ds = ns.map .bool
  | [], _, h => by cases h; rfl
  | d :: ds, ns, h => by
    cases d with
    | bool i =>
      obtain ⟨r, h1, rfl⟩ := Option.map_eq_some_iff.mp h
      rw [boolsD_some h1]; rfl
    | _ => cases h
theorem boolsD_map : ∀ ns : List Bool, boolsD (ns.map .bool) = some ns
  | [] => rfl
  | n :: ns => by show (boolsD (ns.map .bool)).map (n :: ·) = _; rw [boolsD_map ns]; rfl
theorem RpA.bools {H : Hp} : ∀ {vs : List V} {ns : List Bool}, RpA K H vs (ns.map .bool) → vs = ns.map V.bl
  | _, [], h => by cases h; rfl
  | _, n :: ns, h => by
    cases h with
    | cons a b => cases a; rw [List.map_cons, ← RpA.bools b]
def dSum : List D → Option D
  | [.list ds] => (intsD ds).map fun ns => .int ns.sum
  | _ => none
theorem one_lst {I : Hp} {xs : List V} {ds : List D} (h : RpA K I xs [.list ds]) : ∃ p vs, xs = [.ref p] ∧ I p = some (.lst vs) ∧ RpA K I vs ds ∧ ds.length ≤ sizeLine := by
  cases h with
  | cons a b => cases b; cases a with
    | lst hp ra hl => exact ⟨_, _, rfl, hp, ra, hl⟩
theorem cd_sum : CallD K (rSum K) dSum := by
  intro I H xs ds z s p hz Q k
  unfold dSum at hz
  split at hz
  · obtain ⟨ns, e, rfl⟩ := Option.map_eq_some_iff.mp hz
    obtain ⟨a, vs, rfl, hp, ra, hl⟩ := one_lst p
    rw [intsD_some e] at ra
    rw [RpA.ints ra] at hp
    exact ⟨a, ns, rfl, SqL.of (s _ _ hp), k _ I H (Pst.refl s) (.int _)⟩
  · cases hz
def dAll : List D → Option D
  | [.list ds] => (boolsD ds).map fun ns => .bool (ns.all id)
  | _ => none
theorem cd_all : CallD K (rAll K) dAll := by
  intro I H xs ds z s p hz Q k
  unfold dAll at hz
  split at hz
  · obtain ⟨ns, e, rfl⟩ := Option.map_eq_some_iff.mp hz
    obtain ⟨a, vs, rfl, hp, ra, hl⟩ := one_lst p
    rw [boolsD_some e] at ra
    rw [RpA.bools ra] at hp
    exact ⟨a, ns, rfl, SqL.of (s _ _ hp), k _ I H (Pst.refl s) (.bl _)⟩
  · cases hz
def dAny : List D → Option D
  | [.list ds] => (boolsD ds).map fun ns => .bool (ns.any id)
  | _ => none
theorem cd_any : CallD K (rAny K) dAny := by
  intro I H xs ds z s p hz Q k
  unfold dAny at hz
  split at hz
  · obtain ⟨ns, e, rfl⟩ := Option.map_eq_some_iff.mp hz
    obtain ⟨a, vs, rfl, hp, ra, hl⟩ := one_lst p
    rw [boolsD_some e] at ra
    rw [RpA.bools ra] at hp
    exact ⟨a, ns, rfl, SqL.of (s _ _ hp), k _ I H (Pst.refl s) (.bl _)⟩
  · cases hz
end
end Pd

/-! Pd: order of data, isinstance, texts. -/
namespace PdLt
open PySem PySem.SeqAt
open SeqRoads2 MeetsSeq3 MeetsSeq2 MeetsSeq
open AutoSeq1 (wpAny_loadPart')
set_option autoImplicit false
/-- two tuples whose first items are unlike: these decide -/
theorem meets_first (p q : Addr) (us ws : Array Value) (c1 c2 : Nat) (e1 e2 : Option Addr) (z1 z2 : Array (Option Value)) (k : Bool) (hu : 0 < us.size) (hw : 0 < ws.size) : Meets (Builtin.«tuple.__lt__» ⟨[.ref p, .ref q], []⟩)
    (fun A R s => s.heap.get? p = some { cls := .type "tuple", dict := e1, data := .seq us c1, slots := z1 } ∧ s.heap.get? q = some { cls := .type "tuple", dict := e2, data := .seq ws c2, slots := z2 } ∧
      EqAt A.in1 s us[0] ws[0] false ∧ RcLt A.in1 s us[0] ws[0] k ∧ R (.ok (.ret (.bool k))) s) :=
  .of_wp fun prog w A R s h => by
    obtain ⟨hp, g, d, tk, os⟩ := s
    obtain ⟨ho, hq, hne, hlt, h⟩ := h
    have sub := AutoSeq1.sub_tuple_tuple
    have first : ∃ r, us.toList.zip ws.toList = (us[0], ws[0]) :: r := by
      obtain ⟨ul⟩ := us
      obtain ⟨wl⟩ := ws
      cases ul with
      | nil => simp at hu
      | cons x xs =>
        cases wl with
        | nil => simp at hw
        | cons y ys => exact ⟨xs.zip ys, by simp⟩
    obtain ⟨rs, first⟩ := first
    wp_walk using wpAny_loadPart' ho, wpAny_loadPart' hq, wpAny_forIn_list _ (fun rest b s' => b.1 = none ∧ s' = ⟨hp, g, d, tk, os⟩ ∧ rest = us.toList.zip ws.toList) _
    case turn =>
      rintro ⟨y, x⟩ rest b s' ⟨hb, rfl, hz⟩
      rw [first] at hz
      injection hz with hyx hrest
      injection hyx with hy hx
      subst hy hx
      refine wpAny_bind (hne prog w _ _ ?_)
      rw [if_pos (by rfl)]
      refine wpAny_bind (wpAny_rule (wpAny_bind (hlt prog w _ _ ?_)))
      wp_walk
      exact ⟨_, rfl, h⟩
    case fin =>
      rintro ⟨b1, b2⟩ s' ⟨hb, rfl, hz⟩
      rw [first] at hz
      cases hz
    case h =>
      exact ⟨rfl, rfl, rfl⟩
theorem rcLt_first {A : Around} {s : Shared} {p q : Addr} {us ws : Array Value} {k : Bool} (ho : s.heap.IsTuple p us) (hq : s.heap.IsTuple q ws) (hA : A.units < cLine) (hu : 0 < us.size) (hw : 0 < ws.size)
    (hne : EqAt A.in1 s us[0] ws[0] false) (hlt : RcLt A.in1 s us[0] ws[0] k) : RcLt A s (.ref p) (.ref q) k := fun prog w E Q h => by
  obtain ⟨⟨k1, dd, t1, sl⟩, ho, hc, n, hd⟩ := id ho
  obtain ⟨⟨k2, dd2, t2, sl2⟩, ho2, hc2, n2, hd2⟩ := id hq
  dsimp only at hc hd hc2 hd2
  subst hc; subst hd; subst hc2; subst hd2
  refine richCompare_meets_room (op := .Lt) ⟨_, ho, rfl⟩ ⟨_, ho2, rfl⟩ F.slot_tuple_lt F.entry_tuple_lt (F.args_tuple_lt_2 _ _) (meets_first p q us ws n n2 dd dd2 sl sl2 k hu hw) ⟨ho, ho2, hne, hlt, ?_⟩ hA
  exact ⟨(fun z => by cases z), h⟩
end PdLt

namespace Pd
open PySem PySem.Spec L2
section
variable {G : Type} {X : Cx} {S : Gs G} {K : PySem.W.Frag}
/-! ### < of data that is alike place by place; of tuples whose first items are unlike ints -/
def dLt (x y : D) : Option D := if x.depth ≤ 64 ∧ y.depth ≤ 64 ∧ PySem.W.alike x y = true ∧ isNone x = false then some (.bool (PySem.W.dataLt x y)) else match x, y with
  | .tuple (.int i :: _), .tuple (.int j :: _) => if i = j then none else some (.bool (decide (i < j)))
  | _, _ => none
def rLtD (K : PySem.W.Frag) : R2 := fun x y H Q => ∃ d e, Dp K H x d ∧ Dp K H y e ∧ ((d.depth ≤ 64 ∧ e.depth ≤ 64 ∧ PySem.W.alike d e = true ∧ isNone d = false ∧ Q (.bl (PySem.W.dataLt d e)) H) ∨
  ∃ i j r t, d = .tuple (.int i :: r) ∧ e = .tuple (.int j :: t) ∧ i ≠ j ∧ Q (.bl (decide (i < j))) H)
theorem reads_tup {h : Heap} {u : Value} {ds : List D} {as : List Addr} (r : Reads h u (.tuple ds) as) : ∃ (l : Addr) (vs : Array Value) (bs : List Addr), u = .ref l ∧ h.IsTuple l vs ∧ ReadsAll h vs.toList ds bs := by
  cases r with
  | tuple h1 h2 h3 h4 => exact ⟨_, _, _, rfl, ⟨_, h1, h2, _, h3⟩, h4⟩
theorem op_ltD (hu : X.A.units + 65 < cLine) : OpR X (compareOp .Lt) (rLtD X.K) := by
  intro pins s σ H x y v u Q I rx ry h
  obtain ⟨d, e, hd, he, h⟩ := h
  obtain ⟨as, r1⟩ := Dp.reads I d x v hd rx
  obtain ⟨bs, r2⟩ := Dp.reads I e y u he ry
  rcases h with ⟨d1, d2, al, nn, q⟩ | ⟨i, j, r, t, rfl, rfl, ne, q⟩
  · have nn' : d ≠ .none := fun z => by rw [z] at nn; cases nn
    have hm : min d.depth e.depth ≤ d.depth := Nat.min_le_left _ _
    exact PySem.W.rcLt_alike d e X.A s v u as bs r1 r2 al nn' (by omega) X.prog X.w _ _ ⟨.bl _, H, I, rfl, q⟩
  · obtain ⟨p, us, cs, rfl, t1, ra⟩ := reads_tup r1
    obtain ⟨q', ws, es, rfl, t2, rb⟩ := reads_tup r2
    obtain ⟨ul⟩ := us
    obtain ⟨wl⟩ := ws
    cases ra with
    | cons r1 ra =>
      cases rb with
      | cons r2 rb =>
        cases r1
        cases r2
        refine PdLt.rcLt_first (k := decide (i < j)) t1 t2 (by omega) (by simp) (by simp) ?_ ?_ X.prog X.w _ _ ⟨.bl _, H, I, rfl, q⟩
        · intro prog w E Q hq
          have e : (i == j) = false := beq_eq_false_iff_ne.mpr ne
          exact wpAny_eqBool_int (by rw [e]; exact hq)
        · intro prog w E Q hq
          exact P.lt_int hq
theorem od_lt : OpD K (rLtD K) dLt := by
  intro I H x y d e z s p q hz Q k
  unfold dLt at hz
  split at hz
  · rename_i hc
    cases hz
    exact ⟨d, e, (p.mono s).dp, (q.mono s).dp, .inl ⟨hc.1, hc.2.1, hc.2.2.1, hc.2.2.2, k _ I H (Pst.refl s) (.bl _)⟩⟩
  · split at hz
    · split at hz
      · cases hz
      · rename_i ne
        cases hz
        exact ⟨_, _, (p.mono s).dp, (q.mono s).dp, .inr ⟨_, _, _, _, rfl, rfl, ne, k _ I H (Pst.refl s) (.bl _)⟩⟩
    · cases hz
end
end Pd

/-! Pd: isinstance, texts. -/
namespace Pd
open PySem PySem.Spec L2
section
variable {G : Type} {X : Cx} {S : Gs G} {K : PySem.W.Frag} {a b c e : Expr} {es : List Expr} {pos : Pos} {ma mb me : ME G}
/-! ### isinstance -/
def tyN : D → String
  | .none => "NoneType"
  | .bool _ => "bool"
  | .int _ => "int"
  | .str _ => "str"
  | .list _ => "list"
  | .tuple _ => "tuple"
  | .dict _ => "dict"
theorem tyX_rp {I H : Hp} {v : V} {d : D} (s : Same I H) (h : Rp K I v d) : TyX K H v (.type (tyN d)) := by
  cases h with
  | non => exact .base .non
  | bl b => exact .base (.bl b)
  | int i => exact .base (.int i)
  | str h => exact .base (.str _)
  | lst hp _ _ => exact .base (.lst (s _ _ hp))
  | tup hp _ _ =>
    rcases hp with (hp | ⟨o, hp⟩) | ⟨o, its, n, hk, hc, _⟩
    · exact .base (.tup (s _ _ hp))
    · exact .fTuple (s _ _ hp)
    · exact .kTuple hk hc
/-- isinstance(e, T), T a built-in class: what it is, by the name of its class -/
def isTy (T : String) (d : D) : Option Bool := kitB (tyN d) T
def mIsi (T : String) (ma : ME G) : ME G := fun env g => bD (ma env g) fun d g1 => (isTy T d).map fun b => (.bool b, g1)
theorem de_isi {T : String} {x : Str} {p q : Pos} (hg : Gl X "isinstance") (hm : X.mg "isinstance" = none) (hgT : Gl X x) (hmT : X.mg x = none) (hvT : bootBuiltins x = some (.type T)) (ha : DE X S e ma)
    (hn : x ≠ "__name__" := by decide) (hd : (x == ("__debug__" : Str)) = false := by decide)
    (he : starEach [e, .Name x q] X.env = (false, eval e X.env) :: starEach [.Name x q] X.env := by rfl) (hs : starEach [.Name x q] X.env = (false, eval (.Name x q) X.env) :: starEach [] X.env := by rfl) (hpl : (backTo pos (starEach [.Name x q] X.env)).any (·.1) = false := by rfl) :
    DE X S (.Call (.Name "isinstance" p) [e, .Name x q] [] pos) (mIsi T ma) :=
  PE.imp (pe_callB call_isi hg hm (by decide +kernel) (pa_cons ha (pa_cons (pe_bltn (v := .ty T) hgT hmT hvT rfl hn hd) pa_nil hs) he) (by decide) (by decide) he hpl) fun σ H Q ⟨w, env, g, d, g', R, e, k⟩ => by
    obtain ⟨y, g1, e1, e⟩ := bD_some e
    obtain ⟨b, e2, e⟩ := Option.map_eq_some_iff.mp e
    cases e
    refine ⟨w, env, g, y, g', R, e1, fun v I' H' s' R' p => ?_⟩
    exact ⟨v, .ty T, .type (tyN y), .type T, b, rfl, .ty T, tyX_rp R'.eI p, kit_ty e2, k _ I' H' s' R' (.bl _)⟩
/-- isinstance(e, (S, T)) -/
def isTy2 (T U : String) (d : D) : Option Bool := match isTy T d with
  | some true => some true
  | some false => isTy U d
  | none => none
def mIsi2 (T U : String) (ma : ME G) : ME G := fun env g => bD (ma env g) fun d g1 => (isTy2 T U d).map fun b => (.bool b, g1)
theorem de_isi2 {T U : String} {x y : Str} {p q r tp : Pos} {kk : Nat} (hg : Gl X "isinstance") (hm : X.mg "isinstance" = none) (hgT : Gl X x) (hmT : X.mg x = none) (hvT : bootBuiltins x = some (.type T)) (hgU : Gl X y) (hmU : X.mg y = none) (hvU : bootBuiltins y = some (.type U)) (ha : DE X S e ma)
    (hn : x ≠ "__name__" := by decide) (hd : (x == ("__debug__" : Str)) = false := by decide) (hn2 : y ≠ "__name__" := by decide) (hd2 : (y == ("__debug__" : Str)) = false := by decide)
    (he : starEach [e, .Tuple [.Name x q, .Name y r] kk tp] X.env = (false, eval e X.env) :: starEach [.Tuple [.Name x q, .Name y r] kk tp] X.env := by rfl) (hs : starEach [.Tuple [.Name x q, .Name y r] kk tp] X.env = (false, eval (.Tuple [.Name x q, .Name y r] kk tp) X.env) :: starEach [] X.env := by rfl)
    (hs1 : starEach [.Name x q, .Name y r] X.env = (false, eval (.Name x q) X.env) :: starEach [.Name y r] X.env := by rfl) (hs2 : starEach [.Name y r] X.env = (false, eval (.Name y r) X.env) :: starEach [] X.env := by rfl)
    (hpl : (backTo pos (starEach [.Tuple [.Name x q, .Name y r] kk tp] X.env)).any (·.1) = false := by rfl) :
    DE X S (.Call (.Name "isinstance" p) [e, .Tuple [.Name x q, .Name y r] kk tp] [] pos) (mIsi2 T U ma) :=
  PE.imp (pe_callB call_isiT hg hm (by decide +kernel) (pa_cons ha (pa_cons (pe_tup (pa_cons (pe_bltn (v := .ty T) hgT hmT hvT rfl hn hd) (pa_cons (pe_bltn (v := .ty U) hgU hmU hvU rfl hn2 hd2) pa_nil hs2) hs1)) pa_nil hs) he) (by decide) (by decide) he hpl) fun σ H Q ⟨w, env, g, d, g', R, e, k⟩ => by
    obtain ⟨y, g1, e1, e⟩ := bD_some e
    obtain ⟨b, e2, e⟩ := Option.map_eq_some_iff.mp e
    cases e
    refine ⟨w, env, g, y, g', R, e1, fun v I' H' s' R' p => ⟨by show 2 ≤ sizeLine; decide, fun t ht => ?_⟩⟩
    refine ⟨v, t, [.ty T, .ty U], .type (tyN y), [.type T, .type U], b, rfl, upd_same, .cons (.ty T) (.cons (.ty U) .nil), tyX_rp (R'.eI.trans (same_new ht)) p, ?_, ?_⟩
    · unfold isTy2 at e2
      cases e3 : isTy T y with
      | none => rw [e3] at e2; cases e2
      | some c =>
        rw [e3] at e2
        cases c with
        | true => cases e2; exact kitAny_cons (kit_ty e3) (fun z => by cases z) fun _ => rfl
        | false =>
          refine kitAny_cons (kit_ty e3) (fun _ => ?_) (fun z => by cases z)
          have e2 : isTy U y = some b := e2
          unfold PySem.W.kitAny
          rw [show PySem.W.kitOne X.K (.type (tyN y)) (.type U) = some b from kit_ty e2]
          cases b <;> rfl
    · have ps := Pst.new (p := t) (o := HO.tup [V.ty T, V.ty U]) R'.eI ht
      exact k _ _ _ (Same.trans s' ps.eI) (R'.pst ps) (.bl _)

/-! ### methods of texts -/
def mM1 (f : D → D → Option D) (ma mb : ME G) : ME G := fun env g => bD (ma env g) fun x g1 => match x with
  | .str z => bD (mb env g1) fun y g2 => (f (.str z) y).map (·, g2)
  | _ => none
theorem te_m1 {r : V → List V → Hp → VK → Prop} {f : D → D → Option D} (hf : OpD X.K (fun x y H Q => r x [y] H Q) f) {σ : St} {H : Hp} {Q : VK} (h : tE X.K S (mM1 f ma mb) σ H Q) : tM1 r (tE X.K S ma) (tE X.K S mb) σ H Q := by
  obtain ⟨w, env, g, d, g', R, e, k⟩ := h
  obtain ⟨x, g1, e1, e⟩ := bD_some e
  split at e
  · obtain ⟨y, g2, e2, e⟩ := bD_some e
    obtain ⟨e3, rfl⟩ := map_some e
    refine ⟨w, env, g, _, g1, R, e1, fun v I1 H1 s1 R1 p1 => ?_⟩
    cases p1 with
    | str hx =>
      refine ⟨⟨_, rfl⟩, w.im I1, env, g1, y, g', R1, e2, fun u I2 H2 s2 R2 p2 => ?_⟩
      exact hf R2.eI (.str hx) p2 e3 fun v3 I3 H3 ps p3 => k v3 I3 H3 (s1.trans (Same.trans s2 ps.eI)) (R2.pst ps) p3
  · cases e
theorem mt_indexF : MtR X "str.index" (fun x xs H Q => ∃ (a b : Str) (i : Nat) (rest : List Nat), x = .str a ∧ xs = [.str b] ∧ Builtin.Str.occurrences a b 0 a.length 1 = i :: rest ∧ Q (.int (i : Nat)) H) := by
  intro pins s σ H x xs v us Q I rx rs h
  obtain ⟨a, b, i, rest, rfl, rfl, ho, q⟩ := h
  obtain ⟨t, rfl⟩ := rx
  cases rs with
  | cons r1 rs =>
    cases rs
    obtain ⟨u, rfl⟩ := r1
    exact PySem.SC.index ho ⟨.int (i : Nat), H, I.tok _, ⟨_, rfl⟩, q⟩
def dIndex : D → D → Option D
  | .str x, .str y => match Builtin.Str.occurrences x y 0 x.length 1 with
    | i :: _ => some (.int (i : Nat))
    | [] => none
  | _, _ => none
theorem od_index : OpD K (fun x y H Q => ∃ (a b : Str) (i : Nat) (rest : List Nat), x = .str a ∧ [y] = [.str b] ∧ Builtin.Str.occurrences a b 0 a.length 1 = i :: rest ∧ Q (.int (i : Nat)) H) dIndex := by
  intro I H x y d e z s p q hz Q k
  cases p with
  | str hx =>
    cases q with
    | str hy =>
      have hz : (match Builtin.Str.occurrences _ _ 0 _ 1 with
        | i :: _ => some (PyData.int (i : Nat))
        | [] => none) = some z := hz
      split at hz
      · rename_i i rest ho
        cases hz
        exact ⟨_, _, i, rest, rfl, rfl, ho, k _ I H (Pst.refl s) (.int _)⟩
      · cases hz
    | _ => cases hz
  | _ => cases hz
def strsD : List D → Option (List Str)
  | [] => some []
  | .str i :: ds => (strsD ds).map (i :: ·)
  | _ => none
theorem strsD_map : ∀ ns : List Str, strsD (ns.map .str) = some ns
  | [] => rfl
  | n :: ns => by show (strsD (ns.map .str)).map (n :: ·) = _; rw [strsD_map ns]; rfl
theorem strsD_some : ∀ {ds : List D} {ns : List Str}, strsD ds = some ns → ds = ns.map .str
  | [], _, h => by cases h; rfl
  | d :: ds, ns, h => by
    cases d with
    | str i =>
      obtain ⟨r, h1, rfl⟩ := Option.map_eq_some_iff.mp h
      rw [strsD_some h1]; rfl
    | _ => cases h
theorem RpA.strs {H : Hp} : ∀ {vs : List V} {ns : List Str}, RpA K H vs (ns.map .str) → vs = ns.map V.str ∧ ∀ n ∈ ns, SOk n
  | _, [], h => by cases h; exact ⟨rfl, fun _ h => nomatch h⟩
  | _, n :: ns, h => by
    cases h with
    | cons a b =>
      cases a with
      | str ha =>
        obtain ⟨h1, h2⟩ := RpA.strs b
        rw [List.map_cons, ← h1]
        refine ⟨rfl, fun m hm => ?_⟩
        rcases List.mem_cons.mp hm with e | e
        · rw [e]; exact ha
        · exact h2 m e
def dJoin : D → D → Option D
  | .str x, .list ds => (strsD ds).bind fun ys => if (ys.map (·.length)).sum + ys.length * x.length ≤ 16777216 ∧ x.length = 0 then some (.str ⟨((ys.map fun y => y.cps.toList).flatten).toArray⟩) else none
  | _, _ => none
theorem join_nil : ∀ {x : Str} {ys : List Str}, x.length = 0 → Txt.join x ys = ⟨((ys.map fun y => y.cps.toList).flatten).toArray⟩ := by
  intro x ys hx
  have hx' : TL.tl x = [] := by
    show x.cps.toList = []
    have : x.cps.size = 0 := hx
    apply List.eq_nil_of_length_eq_zero
    rw [Array.length_toList]; exact this
  have key : ∀ zs : List (List Nat), TL.joinL [] zs = zs.flatten := by
    intro zs
    induction zs with
    | nil => rfl
    | cons z zs ih =>
      cases zs with
      | nil => show z = z ++ []; rw [List.append_nil]
      | cons u us => show z ++ ([] ++ TL.joinL [] (u :: us)) = z ++ (u :: us).flatten; rw [ih]; rfl
  have h2 := TL.tl_join x ys
  rw [hx', key] at h2
  have h3 : (Txt.join x ys).cps.toList = (ys.map fun y => y.cps.toList).flatten := by
    rw [show Txt.join x ys = Str.join x ys from PySem.StrLaws.glued_eq_join x ys]
    exact h2
  cases e : Txt.join x ys with
  | mk cs =>
    rw [e] at h3
    congr
    apply Array.ext'
    rw [h3]
theorem sok_join {ys : List Str} (h : ∀ y ∈ ys, SOk y) (hz : (ys.map (·.length)).sum ≤ 16777216) : SOk ⟨((ys.map fun y => y.cps.toList).flatten).toArray⟩ := by
  refine ⟨?_, ?_⟩
  · show ((ys.map fun y => y.cps.toList).flatten).toArray.size ≤ sizeLine
    rw [List.size_toArray, List.length_flatten, List.map_map, line_val]
    have e : (ys.map (List.length ∘ fun y => y.cps.toList)) = ys.map (·.length) := by
      apply List.map_congr_left
      intro y _
      show y.cps.toList.length = y.cps.size
      rw [Array.length_toList]
    rw [e]; exact hz
  · simp only [PyData.canLay0]
    unfold PyData.strOk
    rw [Array.all_eq_true_iff_forall_mem]
    intro c hc
    have hc : c ∈ (ys.map fun y => y.cps.toList).flatten := by simpa using hc
    obtain ⟨l, hl, hcl⟩ := List.mem_flatten.mp hc
    obtain ⟨y, hy, rfl⟩ := List.mem_map.mp hl
    have h2 := (h y hy).2
    simp only [PyData.canLay0] at h2
    unfold PyData.strOk at h2
    rw [Array.all_eq_true_iff_forall_mem] at h2
    exact h2 c (by simpa using hcl)
theorem od_join : OpD K (fun x y H Q => ∃ a p, ∃ ys : List Str, x = .str a ∧ [y] = [.ref p] ∧ (SqL K H p (ys.map V.str) ∨ SqT K H p (ys.map V.str)) ∧ (ys.map (·.length)).sum + ys.length * a.length ≤ 16777216 ∧ Q (.str (Txt.join a ys)) H) dJoin := by
  intro I H x y d e z s p q hz Q k
  cases p with
  | str hx =>
    cases q with
    | lst hp ra hl =>
      have hz : (strsD _).bind _ = some z := hz
      obtain ⟨ys, e1, hz⟩ := Option.bind_eq_some_iff.mp hz
      split at hz
      · rename_i hc
        cases hz
        rw [strsD_some e1] at ra
        obtain ⟨f1, f2⟩ := RpA.strs ra
        rw [f1] at hp
        refine ⟨_, _, ys, rfl, rfl, .inl (SqL.of (s _ _ hp)), hc.1, ?_⟩
        rw [join_nil hc.2]
        exact k _ I H (Pst.refl s) (.str (sok_join f2 (by have := hc.1; omega)))
      · cases hz
    | _ => cases hz
  | _ => cases hz
theorem de_join {ap : Pos} (ho : DE X S a ma) (he : DE X S e me) (hs : starEach [e] X.env = [(false, eval e X.env)] := by rfl) (hbase : attributeBase a "join" X.env (eval a X.env) = eval a X.env := by rfl) (hline : (ap.endLine == pos.line) = true := by rfl) :
    DE X S (.Call (.Attribute a "join" ap) [e] [] pos) (mM1 dJoin ma me) := PE.imp (pe_join ho he hs hbase hline) fun _ _ _ h => te_m1 od_join h
theorem de_index {ap : Pos} (ho : DE X S a ma) (he : DE X S e me) (hs : starEach [e] X.env = [(false, eval e X.env)] := by rfl) (hbase : attributeBase a "index" X.env (eval a X.env) = eval a X.env := by rfl) (hline : (ap.endLine == pos.line) = true := by rfl) :
    DE X S (.Call (.Attribute a "index" ap) [e] [] pos) (mM1 dIndex ma me) := PE.imp (pe_m1 PySem.F.slot_str_index PySem.F.type_str_index mt_indexF ho he hs hbase hline) fun _ _ _ h => te_m1 od_index h
end
end Pd

/-! Pd: defs by name, constants; the law's list of draws. -/
namespace Pd
open PySem PySem.Spec L2
section
variable {G : Type} {X : Cx} {S : Gs G} {P : Program} {wd : World} {K : PySem.W.Frag} {mg : Str → Option Value} {base : Heap} {a b c e : Expr} {es : List Expr} {pos : Pos} {ma mb me : ME G} {ml : ML G}
/-- a def of the text, by its name -/
structure Dfn (K : PySem.W.Frag) (mg : Str → Option Value) (x qual : Str) (st : Stmt) (ps : List Str) : Prop where
  ex : ∃ f fd, Fun K x qual st f fd ∧ mg x = some (.ref f) ∧ Binds K fd ps []
/-- .. with its promise -/
structure Def1 (P : Program) (wd : World) (K : PySem.W.Frag) (mg : Str → Option Value) (base : Heap) (x : Str) (ps : List Str) (k : Nat) (sp : Sp) : Prop where
  ex : ∃ f fd, FnOk P wd K mg base CX0 k f fd ps sp ∧ mg x = some (.ref f) ∧ PySem.W.keepIn K (.ref f) = true ∧ Binds K fd ps []
theorem def_pure {x qual : Str} {st : Stmt} {N ps : List Str} {k : Nat} {m : MS Unit} (h : Dfn K mg x qual st ps) (Sc : FnScope N ps (defScope st)) (hb : ∀ f, Body P wd K mg base N qual st f k G0 m) : Def1 P wd K mg base x ps (k + 1) (spP K (runP N.length ps.length m)) := by
  obtain ⟨f, fd, F, hm, hB⟩ := h.ex
  exact ⟨f, fd, fn_pure F Sc (hb f), hm, F.kp, hB⟩
theorem def_new {x qual : Str} {st : Stmt} {N ps : List Str} {k : Nat} {m : MS Unit} (h : Dfn K mg x qual st ps) (Sc : FnScope N ps (defScope st)) (hb : ∀ f, Body P wd K mg base N qual st f k G0 m) : Def1 P wd K mg base x ps (k + 1) (spN K (runN N.length ps.length m)) := by
  obtain ⟨f, fd, F, hm, hB⟩ := h.ex
  exact ⟨f, fd, fn_new F Sc (hb f), hm, F.kp, hB⟩
theorem def_ghost {x qual : Str} {st : Stmt} {N ps : List Str} {k : Nat} {m : MS G} (h : Dfn K mg x qual st ps) (Sc : FnScope N ps (defScope st)) (hb : ∀ f, Body P wd K mg base N qual st f k S m) : Def1 P wd K mg base x ps (k + 1) (spG K S (runG N.length ps.length m)) := by
  obtain ⟨f, fd, F, hm, hB⟩ := h.ex
  exact ⟨f, fd, fn_ghost F Sc (hb f), hm, F.kp, hB⟩
theorem Def1.imp {x : Str} {ps : List Str} {k : Nat} {sp sp' : Sp} (h : Def1 P wd K mg base x ps k sp) (i : ∀ vs H Q E, sp' vs H Q E → sp vs H Q E) : Def1 P wd K mg base x ps k sp' := by
  obtain ⟨f, fd, F, r⟩ := h.ex
  exact ⟨f, fd, F.imp i, r⟩
theorem Def1.mono {x : Str} {ps : List Str} {j k : Nat} {sp : Sp} (h : Def1 P wd K mg base x ps j sp) (hk : j ≤ k) : Def1 P wd K mg base x ps k sp := by
  obtain ⟨f, fd, F, r⟩ := h.ex
  exact ⟨f, fd, F.mono hk, r⟩
/-- calls -/
theorem call_P {x : Str} {ps : List Str} {k : Nat} {F : List D → Option D} {p : Pos} (h : Def1 X.prog X.w X.K X.mg X.base x ps k (spP X.K F)) (hr : Room k X.A) (hg : Gl X x) (ha : DA X S (e :: es) ml) (hdb : (x == ("__debug__" : Str)) = false := by decide)
    (he : starEach (e :: es) X.env = (false, eval e X.env) :: starEach es X.env := by rfl) (hpl : (backTo pos (starEach es X.env)).any (·.1) = false := by rfl) : DE X S (.Call (.Name x p) (e :: es) [] pos) (mCall F ml) := by
  obtain ⟨f, fd, FF, hm, hk, hB⟩ := h.ex
  exact de_callP (pe_call FF hr hg hm hk hB .nil pass0 ha hdb he hpl)
theorem call_N {x : Str} {ps : List Str} {k : Nat} {F : List D → Option (List D)} {p : Pos} (h : Def1 X.prog X.w X.K X.mg X.base x ps k (spN X.K F)) (hr : Room k X.A) (hg : Gl X x) (ha : DA X S (e :: es) ml) (hdb : (x == ("__debug__" : Str)) = false := by decide)
    (he : starEach (e :: es) X.env = (false, eval e X.env) :: starEach es X.env := by rfl) (hpl : (backTo pos (starEach es X.env)).any (·.1) = false := by rfl) : DF X S (.Call (.Name x p) (e :: es) [] pos) (mCallF F ml) := by
  obtain ⟨f, fd, FF, hm, hk, hB⟩ := h.ex
  exact df_callN (pe_call FF hr hg hm hk hB .nil pass0 ha hdb he hpl)
theorem call_G {x : Str} {ps : List Str} {k : Nat} {F : List SV → G → Option (D × G)} {p : Pos} {mg' : MG G} (h : Def1 X.prog X.w X.K X.mg X.base x ps k (spG X.K S F)) (hr : Room k X.A) (hg : Gl X x) (ha : DG X S (e :: es) mg') (hdb : (x == ("__debug__" : Str)) = false := by decide)
    (he : starEach (e :: es) X.env = (false, eval e X.env) :: starEach es X.env := by rfl) (hpl : (backTo pos (starEach es X.env)).any (·.1) = false := by rfl) : DE X S (.Call (.Name x p) (e :: es) [] pos) (mCallG F mg') := by
  obtain ⟨f, fd, FF, hm, hk, hB⟩ := h.ex
  exact de_callG (pe_call FF hr hg hm hk hB .nil pass0 ha hdb he hpl)
theorem call_P0 {x : Str} {ps : List Str} {k : Nat} {F : List D → Option D} {p : Pos} (h : Def1 X.prog X.w X.K X.mg X.base x ps k (spP X.K F)) (hr : Room k X.A) (hg : Gl X x) (hdb : (x == ("__debug__" : Str)) = false := by decide) : DE X S (.Call (.Name x p) [] [] pos) (mCall F mNil) := by
  obtain ⟨f, fd, FF, hm, hk, hB⟩ := h.ex
  exact de_callP0 (pe_call0 FF hr hg hm hk hB .nil pass0 hdb)
theorem call_N0 {x : Str} {ps : List Str} {k : Nat} {F : List D → Option (List D)} {p : Pos} (h : Def1 X.prog X.w X.K X.mg X.base x ps k (spN X.K F)) (hr : Room k X.A) (hg : Gl X x) (hdb : (x == ("__debug__" : Str)) = false := by decide) : DF X S (.Call (.Name x p) [] [] pos) (mCallF F mNil) := by
  obtain ⟨f, fd, FF, hm, hk, hB⟩ := h.ex
  exact df_callN0 (pe_call0 FF hr hg hm hk hB .nil pass0 hdb)
/-- a module's constant -/
structure Cst (K : PySem.W.Frag) (mg : Str → Option Value) (x : Str) (d : D) : Prop where
  ex : ∃ u v, mg x = some u ∧ RelV v u ∧ ∀ H, Rp K H v d
theorem de_cst {x : Str} {d : D} (h : Cst X.K X.mg x d) (hg : Gl X x := by rfl) (hdb : (x == ("__debug__" : Str)) = false := by decide) : DE X S (.Name x pos) (mC d) := by
  obtain ⟨u, v, hm, r, q⟩ := h.ex
  exact de_glob hg hm r q hdb
theorem Cst.int {x : Str} {i : Int} {t : Tok} (h : mg x = some (.int i t)) : Cst K mg x (.int i) := ⟨_, .int i, h, ⟨t, rfl⟩, fun _ => .int i⟩
theorem Cst.str {x y : Str} {t : Tok} (h : mg x = some (.str y t)) (hy : SOk y) : Cst K mg x (.str y) := ⟨_, .str y, h, ⟨t, rfl⟩, fun _ => .str hy⟩

theorem hu64 {A : Around} {k : Nat} (hr : Room k A) : A.units + 64 < cLine := by have := hr.un; omega
theorem hu65 {A : Around} {k : Nat} (hr : Room k A) : A.units + 65 < cLine := by have := hr.un; omega

/-! ### the law's draws: a list of a count and a list of cells -/
structure Dr where
  s : Addr
  c : Addr
  n : Int
  cells : List Int
def drA : Gs Dr where
  fp := fun g a => a = g.s ∨ a = g.c
  ok := fun g H => g.s ≠ g.c ∧ H g.s = some (.lst [.int g.n, .ref g.c]) ∧ H g.c = some (.lst (g.cells.map V.int)) ∧ 0 < g.cells.length ∧ g.cells.length ≤ 63
  root := fun g => .ref g.s
  loc := fun {g H H'} h ⟨h1, h2, h3, h4⟩ => ⟨h1, (h _ (.inl rfl)).trans h2, (h _ (.inr rfl)).trans h3, h4⟩
  dom := fun {g H a} ⟨h1, h2, h3, h4⟩ ha => by
    rcases ha with rfl | rfl
    · rw [h2]; simp
    · rw [h3]; simp
/-- a draw below most: what it tells, what is left -/
def Dr.take (g : Dr) (most : Int) : Int × Dr :=
  let cell := g.cells.getD (g.n.fmod g.cells.length).toNat 0
  if cell < 1000000000000000000 then
    let n := g.n + 1
    let x := (cell * 48271 + n * 69621).fmod 2147483647
    let y := (x * 16807 + n * 7919).fmod 1000000007
    ((y.fdiv 7).fmod most, { g with n := n })
  else (cell.fmod most, { g with cells := g.cells.set (g.n.fmod g.cells.length).toNat (cell.fdiv most) })
theorem Dr.take_lo (g : Dr) {most : Int} (h : 0 < most) : 0 ≤ (g.take most).1 ∧ (g.take most).1 < most := by
  unfold Dr.take
  simp only
  split
  · exact ⟨Int.fmod_nonneg_of_pos _ h, Int.fmod_lt_of_pos _ h⟩
  · exact ⟨Int.fmod_nonneg_of_pos _ h, Int.fmod_lt_of_pos _ h⟩
/-- a draw, of data -/
def drawA (as : List SV) (g : Dr) : Option (D × Dr) := match as with
  | [.st, .sh (.int most)] => if 0 < most ∧ most < 1073741824 then some (.int (g.take most).1, (g.take most).2) else none
  | _ => none
end
end Pd

/-! Pd: the law's draws, its end. -/
namespace Pd
open PySem PySem.Spec L2
section
variable {G : Type} {X : Cx} {S : Gs G} {P : Program} {wd : World} {K : PySem.W.Frag} {mg : Str → Option Value} {base : Heap}
/-- what makes the list of draws tells -/
def spState (K : PySem.W.Frag) : Sp := fun vs H Q _ => ∃ (a : Addr) (ns : List Int), vs = [.ref a] ∧ SqL K H a (ns.map V.int) ∧ ns.length ≤ 63 ∧
  ∀ (g : Dr) (H' : Hp), H g.s = none → H g.c = none → drA.ok g H' → Same H H' → Q (.ref g.s) H'
theorem drawA_some {as : List SV} {g g' : Dr} {d : D} (h : drawA as g = some (d, g')) : ∃ most, as = [.st, .sh (.int most)] ∧ 0 < most ∧ most < 1073741824 ∧ d = .int (g.take most).1 ∧ g' = (g.take most).2 := by
  unfold drawA at h
  split at h
  · split at h
    · rename_i hm
      cases h
      exact ⟨_, rfl, hm.1, hm.2, rfl, rfl⟩
    · cases h
  · cases h
/-- the state behind a draw, for the caller -/
theorem dr_gst {I H H' : Hp} {g g' : Dr} (s : Same I H) (ok : drA.ok g H) (hs : g'.s = g.s) (hc : g'.c = g.c) (ok' : drA.ok g' H') (fI : ∀ a, drA.fp g a → I a = none) (h : ∀ a, a ≠ g.s → a ≠ g.c → H' a = H a) : Gst drA I H g I H' g' where
  eI := Same.refl _
  eH := fun a o e nf => by
    rw [h a (fun z => nf (.inl z)) (fun z => nf (.inr z))]; exact e
  sub := fun a o e => by
    have nf : ¬ drA.fp g a := fun z => by rw [fI a z] at e; cases e
    rw [h a (fun z => nf (.inl z)) (fun z => nf (.inr z))]; exact s a o e
  ag := fun _ _ => rfl
  fp' := fun a => by show (a = g'.s ∨ a = g'.c) ↔ (a = g.s ∨ a = g.c); rw [hs, hc]
  rt := by show V.ref g'.s = V.ref g.s; rw [hs]
  ok := ok'
theorem fmod_ix {n : Int} {l : Nat} (h : 0 < l) : ∃ j : Nat, n.fmod (l : Int) = (j : Int) ∧ j < l := by
  have h1 := Int.fmod_nonneg_of_pos n (show (0 : Int) < (l : Int) by omega)
  have h2 := Int.fmod_lt_of_pos n (show (0 : Int) < (l : Int) by omega)
  exact ⟨(n.fmod l).toNat, by omega, by omega⟩
theorem iteT' {b : Bool} {A B : Prop} (h : b = true) (k : A) : if b = true then A else B := by rw [if_pos h]; exact k
theorem iteF' {b : Bool} {A B : Prop} (h : b = false) (k : B) : if b = true then A else B := by rw [h]; exact k
theorem cut_ints (ns : List Int) (lo hi : Option Int) : ∃ ms : List Int, cutV (ns.map V.int) lo hi = ms.map V.int ∧ ms.length ≤ ns.length := by
  refine ⟨(ns.drop (HT.sIx (ns.map V.int).length 0 lo)).take (HT.sIx (ns.map V.int).length (ns.map V.int).length hi - HT.sIx (ns.map V.int).length 0 lo), ?_, ?_⟩
  · unfold cutV
    rw [List.map_take, List.map_drop]
  · rw [List.length_take, List.length_drop]; omega
/-- the law's promise -/
def spLaw (K : PySem.W.Frag) : Sp := fun vs H Q _ => ∃ (a : Addr) (ns : List Int), vs = [.ref a] ∧ SqL K H a (ns.map V.int) ∧ ns.length ≤ 63 ∧ ∀ H', Q (.bl true) H'
/-- the frame behind the list's making: i is its slot, N slots -/
def lawE (N i : Nat) : Env := (List.replicate N SV.un).set i .st
theorem law_start {N i : Nat} {m : MS Dr} {σ : St} {H : Hp} {g : Dr} {D : Ends} (hl : σ.length = N) (hi : σ[i]? = some (some (.ref g.s))) (ok : drA.ok g H) (hm : ∃ e g', m (lawE N i) g = some (.re (.bool true), e, g')) (k : ∀ H', D.rt (.bl true) H') :
    tS K drA m D σ H := by
  obtain ⟨e, g', hm⟩ := hm
  refine ⟨⟨fun _ => none, fun _ => none, fun _ => none, drA.fp g, .ref g.s⟩, lawE N i, g, .re (.bool true), e, g', ?_, hm, fun v σ' I' H' s' R' p => by cases p; exact k H'⟩
  have at_ : ∀ k, (lawE N i).at k = .un ∨ (k = i ∧ (lawE N i).at k = .st) := fun k => by
    unfold lawE
    rw [at_set]
    by_cases z : k = i ∧ i < (List.replicate N SV.un).length
    · rw [if_pos z]; exact .inr ⟨z.1, rfl⟩
    · rw [if_neg z]
      refine .inl ?_
      show (List.replicate N SV.un).getD k .un = .un
      rw [List.getD_eq_getElem?_getD, List.getElem?_replicate]
      split <;> rfl
  exact {
    e0 := fun _ _ z => nomatch z
    eI := fun _ _ z => nomatch z
    ag := fun _ _ z => nomatch z
    ge := Same.refl _
    gfp := fun _ => Iff.rfl
    grt := rfl
    gok := ok
    fI := fun _ _ => rfl
    f0 := fun _ _ => rfl
    len := by unfold lawE; rw [List.length_set, List.length_replicate]; exact hl
    slot := fun k => by
      rcases at_ k with e | ⟨rfl, e⟩
      · rw [e]; trivial
      · rw [e]; exact hi
    dis := fun k j p ds es _ e1 => by
      rcases at_ k with e | ⟨_, e⟩ <;> rw [e] at e1 <;> cases e1 }
end
end Pd

/-! Pd: plain tools, no program in sight. -/
namespace Pd
open PySem
section
variable {G : Type} {env env1 e1 e2 : Env} {g g1 g2 g3 : G} {m1 m2 : MS G} {ma mb : ME G} {mt mu : MT G} {ml : ML G}
/-- it ends with True -/
def Tr (m : MS G) (env : Env) (g : G) : Prop := ∃ e g1, m env g = some (.re (.bool true), e, g1)
theorem tr_seq (h1 : m1 env g = some (.nx, e1, g1)) (h2 : Tr m2 e1 g1) : Tr (mSeq m1 m2) env g := by
  obtain ⟨e, g3, h⟩ := h2
  exact ⟨e, g3, by unfold mSeq; rw [h1]; exact h⟩
theorem tr_ret (h : ma env g = some (.bool true, g1)) : Tr (mRet ma) env g := ⟨env, g1, by unfold mRet; rw [h]⟩
theorem seq_nx {r} (h1 : m1 env g = some (.nx, e1, g1)) (h2 : m2 e1 g1 = r) : mSeq m1 m2 env g = r := by unfold mSeq; rw [h1]; exact h2
theorem seq_re {d : D} (h1 : m1 env g = some (.re d, e1, g1)) : mSeq m1 m2 env g = some (.re d, e1, g1) := by unfold mSeq; rw [h1]
theorem seq_rl {ds : List D} (h1 : m1 env g = some (.rl ds, e1, g1)) : mSeq m1 m2 env g = some (.rl ds, e1, g1) := by unfold mSeq; rw [h1]
theorem seq_co (h1 : m1 env g = some (.co, e1, g1)) : mSeq m1 m2 env g = some (.co, e1, g1) := by unfold mSeq; rw [h1]
theorem seq_br (h1 : m1 env g = some (.br, e1, g1)) : mSeq m1 m2 env g = some (.br, e1, g1) := by unfold mSeq; rw [h1]
theorem if_t {r} (h : mt env g = some (true, g1)) (k : m1 env g1 = r) : mIfS mt m1 m2 env g = r := by unfold mIfS; rw [h]; exact k
theorem if_f {r} (h : mt env g = some (false, g1)) (k : m2 env g1 = r) : mIfS mt m1 m2 env g = r := by unfold mIfS; rw [h]; exact k
/-- an if whose test fails, nothing else -/
theorem if_no (h : mt env g = some (false, g1)) : mIfS mt m1 mSkip env g = some (.nx, env, g1) := if_f h rfl
theorem set_e {i : Nat} {d : D} (h : ma env g = some (d, g1)) : mSet i ma env g = some (.nx, env.set i (.sh d), g1) := by unfold mSet; rw [h]
theorem setF_e {i : Nat} {ds : List D} (h : ml env g = some (ds, g1)) : mSetF i ml env g = some (.nx, env.set i (.ow ds), g1) := by unfold mSetF; rw [h]
theorem then_e {j : Nat} (h : m1 env g = some (.nx, e1, g1)) : mThen m1 j env g = some (.nx, e1.frz j, g1) := by unfold mThen; rw [h]
theorem ret_e {d : D} (h : ma env g = some (d, g1)) : mRet ma env g = some (.re d, env, g1) := by unfold mRet; rw [h]
theorem retF_e {ds : List D} (h : ml env g = some (ds, g1)) : mRetF ml env g = some (.rl ds, env, g1) := by unfold mRetF; rw [h]
theorem drop_e {d : D} (h : ma env g = some (d, g1)) : mDrop ma env g = some (.nx, env, g1) := by unfold mDrop; rw [h]
/-! expressions -/
theorem op_e {f : D → D → Option D} {x y z : D} (ha : ma env g = some (x, g1)) (hb : mb env g1 = some (y, g2)) (h : f x y = some z) : mOp f ma mb env g = some (z, g2) := by unfold mOp; rw [ha]; dsimp only [bD]; rw [hb]; dsimp only [bD]; rw [h]; rfl
theorem un_e {f : D → Option D} {x z : D} (ha : ma env g = some (x, g1)) (h : f x = some z) : mUn f ma env g = some (z, g1) := by unfold mUn; rw [ha]; dsimp only [bD]; rw [h]; rfl
theorem m1_e {f : D → D → Option D} {x y z : D} (ha : ma env g = some (x, g1)) (hb : mb env g1 = some (y, g2)) (h : f x y = some z) (hx : ∃ s, x = .str s := by exact ⟨_, rfl⟩) : mM1 f ma mb env g = some (z, g2) := by
  obtain ⟨s, rfl⟩ := hx
  unfold mM1; rw [ha]; dsimp only [bD]; rw [hb]; dsimp only [bD]; rw [h]; rfl
theorem call_e {f : List D → Option D} {xs : List D} {z : D} (ha : ml env g = some (xs, g1)) (h : f xs = some z) : mCall f ml env g = some (z, g1) := by unfold mCall; rw [ha]; dsimp only [bD]; rw [h]; rfl
theorem callF_e {f : List D → Option (List D)} {xs : List D} {z : List D} (ha : ml env g = some (xs, g1)) (h : f xs = some z) : mCallF f ml env g = some (z, g1) := by unfold mCallF; rw [ha]; dsimp only [bD]; rw [h]; rfl
theorem callG_e {F : List SV → G → Option (D × G)} {m : MG G} {as : List SV} {r} (ha : m env g = some (as, g1)) (h : F as g1 = r) : mCallG F m env g = r := by unfold mCallG; rw [ha]; exact h
theorem cons_e {x : D} {xs : List D} (ha : ma env g = some (x, g1)) (hb : ml env g1 = some (xs, g2)) : mCons ma ml env g = some (x :: xs, g2) := by unfold mCons; rw [ha]; dsimp only [bD]; rw [hb]
theorem nil_e : mNil env g = some ([], g) := rfl
theorem c_e {d : D} : mC d env g = some (d, g) := rfl
theorem L_e {xs : List D} (h : ml env g = some (xs, g1)) : mL ml env g = some (.list xs, g1) := by unfold mL; rw [h]
theorem tup_e {xs : List D} (h : ml env g = some (xs, g1)) (hl : xs.length ≤ sizeLine := by exact Nat.le_of_ble_eq_true rfl) : mTup ml env g = some (.tuple xs, g1) := by unfold mTup; rw [h]; exact if_pos hl
theorem lst_e {xs : List D} (h : ml env g = some (xs, g1)) (hl : xs.length ≤ sizeLine := by exact Nat.le_of_ble_eq_true rfl) : mLst ml env g = some (xs, g1) := by unfold mLst; rw [h]; exact if_pos hl
theorem opT_e {f : D → D → Option D} {x y : D} {b : Bool} (ha : ma env g = some (x, g1)) (hb : mb env g1 = some (y, g2)) (h : f x y = some (.bool b)) : mOpT f ma mb env g = some (b, g2) := by unfold mOpT; rw [ha]; dsimp only [bD]; rw [hb]; dsimp only [bD]; rw [h]; rfl
theorem tru_e {x : D} {b : Bool} (ha : ma env g = some (x, g1)) (h : dTru x = some b) : mTru ma env g = some (b, g1) := by unfold mTru; rw [ha]; dsimp only [bD]; rw [h]; rfl
theorem not_e {b : Bool} (h : mt env g = some (b, g1)) : mNot mt env g = some (!b, g1) := by unfold mNot; rw [h]
theorem and_t {r} (h : mt env g = some (true, g1)) (k : mu env g1 = r) : mAnd mt mu env g = r := by unfold mAnd; rw [h]; exact k
theorem and_f (h : mt env g = some (false, g1)) : mAnd mt mu env g = some (false, g1) := by unfold mAnd; rw [h]; rfl
theorem or_t (h : mt env g = some (true, g1)) : mOr mt mu env g = some (true, g1) := by unfold mOr; rw [h]; rfl
theorem or_f {r} (h : mt env g = some (false, g1)) (k : mu env g1 = r) : mOr mt mu env g = r := by unfold mOr; rw [h]; exact k
theorem mif_t {α : Type} {a b : Env → G → Option (α × G)} {r} (h : mt env g = some (true, g1)) (k : a env g1 = r) : mIf mt a b env g = r := by unfold mIf; rw [h]; exact k
theorem mif_f {α : Type} {a b : Env → G → Option (α × G)} {r} (h : mt env g = some (false, g1)) (k : b env g1 = r) : mIf mt a b env g = r := by unfold mIf; rw [h]; exact k
theorem isi_e {T : String} {x : D} {b : Bool} (ha : ma env g = some (x, g1)) (h : isTy T x = some b) : mIsi T ma env g = some (.bool b, g1) := by unfold mIsi; rw [ha]; dsimp only [bD]; rw [h]; rfl
theorem cat_e {xs ys : List D} (ha : ma env g = some (.list xs, g1)) (hb : mb env g1 = some (.list ys, g2)) (hl : xs.length + ys.length ≤ sizeLine) : mCat ma mb env g = some (xs ++ ys, g2) := by unfold mCat; rw [ha]; dsimp only [bD]; rw [hb]; exact if_pos hl
theorem part_e {i : Int} (h : ma env g = some (.int i, g1)) : mPart ma env g = some (some i, g1) := by unfold mPart; rw [h]
theorem slL_e {lo hi : MO G} {xs : List D} {l h : Option Int} (ha : ma env g = some (.list xs, g1)) (hl : lo env g1 = some (l, g2)) (hh : hi env g2 = some (h, g3)) : mSlL ma lo hi env g = some (cut xs l h, g3) := by unfold mSlL; rw [ha]; dsimp only [bD]; rw [hl]; dsimp only [bD]; rw [hh]
/-! loops -/
theorem for_e {bt : MTg G} {mb : MS G} {ds : List D} {r} (h : ml env g = some (ds, g1)) (k : loopL bt mb ds env g1 = r) : mFor ml bt mb env g = r := by unfold mFor; rw [h]; exact k
theorem loop_inv {bt : MTg G} {mb : MS G} (Inv : Env → G → Prop) : ∀ {ds : List D} {env : Env} {g : G}, Inv env g → (∀ d ∈ ds, ∀ env g, Inv env g → ∃ e1, bt d env g = some (e1, g) ∧ ∃ e2 g2, (mb e1 g = some (.nx, e2, g2) ∨ mb e1 g = some (.co, e2, g2)) ∧ Inv e2 g2) →
    ∃ e2 g2, loopL bt mb ds env g = some (.nx, e2, g2) ∧ Inv e2 g2
  | [], env, g, h, _ => ⟨env, g, rfl, h⟩
  | d :: ds, env, g, h, k => by
    obtain ⟨e1, q1, e2, g2, q2, q3⟩ := k d (by simp) env g h
    obtain ⟨e3, g3, q4, q5⟩ := loop_inv Inv q3 fun d' hd => k d' (List.mem_cons_of_mem _ hd)
    refine ⟨e3, g3, ?_, q5⟩
    unfold loopL
    rw [q1]
    rcases q2 with q2 | q2 <;> (dsimp only; rw [q2]; exact q4)
/-- .. by the turn -/
theorem loop_at {bt : MTg G} {mb : MS G} (Inv : Nat → Env → G → Prop) : ∀ {ds : List D} {k : Nat} {env : Env} {g : G}, Inv k env g → (∀ i d, ds[i]? = some d → ∀ env g, Inv (k + i) env g → ∃ e1, bt d env g = some (e1, g) ∧ ∃ e2 g2, (mb e1 g = some (.nx, e2, g2) ∨ mb e1 g = some (.co, e2, g2)) ∧ Inv (k + i + 1) e2 g2) →
    ∃ e2 g2, loopL bt mb ds env g = some (.nx, e2, g2) ∧ Inv (k + ds.length) e2 g2
  | [], k, env, g, h, _ => ⟨env, g, rfl, h⟩
  | d :: ds, k, env, g, h, hk => by
    obtain ⟨e1, q1, e2, g2, q2, q3⟩ := hk 0 d rfl env g h
    obtain ⟨e3, g3, q4, q5⟩ := loop_at (k := k + 1) Inv q3 fun i d' hd env g hi => by
      have e : k + 1 + i = k + (i + 1) := by omega
      rw [e] at hi ⊢
      exact hk (i + 1) d' hd env g hi
    refine ⟨e3, g3, ?_, by rw [List.length_cons, show k + (ds.length + 1) = k + 1 + ds.length by omega]; exact q5⟩
    unfold loopL
    rw [q1]
    rcases q2 with q2 | q2 <;> (dsimp only; rw [q2]; exact q4)
/-- .. whose body tells nothing and returns nothing: from state to state -/
theorem comp_e {vs : List Nat} {bt : MTg G} {me : ME G} {ds : List D} {r} (h : ml env g = some (ds, g1)) (hv : (vs.all fun k => (env.at k).notOw) = true) (k : compL bt mt me (env.wipe vs) ds g1 = r) : mComp ml vs bt mt me env g = r := by unfold mComp; rw [h]; exact (if_pos hv).trans k
theorem compL_map {bt : MTg G} {me : ME G} (f : D → D) : ∀ {ds : List D}, (∀ d ∈ ds, ∃ e1, bt d env g = some (e1, g) ∧ me e1 g = some (f d, g)) → compL bt mYes me env ds g = some (ds.map f, g)
  | [], _ => rfl
  | d :: ds, h => by
    obtain ⟨e1, q1, q2⟩ := h d (by simp)
    unfold compL
    rw [q1]
    dsimp only [mYes]
    rw [q2]
    dsimp only
    rw [compL_map f fun d' hd => h d' (List.mem_cons_of_mem _ hd)]
    rfl
theorem compL_mm {α : Type} {bt : MTg G} {me : ME G} (f h : α → D) {l : List α} (k : ∀ a ∈ l, ∃ e1, bt (f a) env g = some (e1, g) ∧ me e1 g = some (h a, g)) : compL bt mYes me env (l.map f) g = some (l.map h, g) := by
  induction l with
  | nil => rfl
  | cons a l ih =>
    obtain ⟨e1, q1, q2⟩ := k a (by simp)
    rw [List.map_cons, List.map_cons]
    unfold compL
    rw [q1]
    dsimp only [mYes]
    rw [q2]
    dsimp only
    rw [ih fun d' hd => k d' (List.mem_cons_of_mem _ hd)]
theorem compL_ex {bt : MTg G} {me : ME G} (P : D → Prop) : ∀ {ds : List D} {g : G}, (∀ d ∈ ds, ∀ g, ∃ e1, bt d env g = some (e1, g) ∧ ∃ x g2, me e1 g = some (x, g2) ∧ P x) → ∃ xs g2, compL bt mYes me env ds g = some (xs, g2) ∧ xs.length = ds.length ∧ ∀ x ∈ xs, P x
  | [], g, _ => ⟨[], g, rfl, rfl, fun _ h => nomatch h⟩
  | d :: ds, g, h => by
    obtain ⟨e1, q1, x, g2, q2, q3⟩ := h d (by simp) g
    obtain ⟨xs, g4, q4, q5, q6⟩ := compL_ex P (g := g2) fun d' hd => h d' (List.mem_cons_of_mem _ hd)
    refine ⟨x :: xs, g4, ?_, by rw [List.length_cons, List.length_cons, q5], fun y hy => ?_⟩
    · unfold compL
      rw [q1]
      dsimp only [mYes]
      rw [q2]
      dsimp only
      rw [q4]
    · rcases List.mem_cons.mp hy with e | e
      · rw [e]; exact q3
      · exact q6 y e
theorem while_e {mb : MS G} (n : Nat) {r} (h : whileN mt mb n env g = some r) : mWhile mt mb env g = some r := mWhile_eq h
theorem wn_f {mb : MS G} {n : Nat} (h : mt env g = some (false, g1)) : whileN mt mb (n + 1) env g = some (.nx, env, g1) := by unfold whileN; rw [h]
theorem wn_t {mb : MS G} {n : Nat} {r} (h : mt env g = some (true, g1)) (hb : mb env g1 = some (.nx, e1, g2)) (k : whileN mt mb n e1 g2 = r) : whileN mt mb (n + 1) env g = r := by unfold whileN; rw [h]; dsimp only; rw [hb]; exact k
/-! defs -/
theorem runP_re {N n : Nat} {m : MS Unit} {ds : List D} {e : Env} {u : Unit} {d : D} (h : m (startE N (ds.map .sh)) () = some (.re d, e, u)) (hn : ds.length = n ∧ n ≤ N := by exact ⟨rfl, by decide⟩) : runP N n m ds = some d := by
  unfold runP runS
  rw [if_pos (by rw [List.length_map]; exact hn), h]
  rfl
theorem runP_rl {N n : Nat} {m : MS Unit} {ds xs : List D} {e : Env} {u : Unit} (h : m (startE N (ds.map .sh)) () = some (.rl xs, e, u)) (hn : ds.length = n ∧ n ≤ N := by exact ⟨rfl, by decide⟩) : runP N n m ds = some (.list xs) := by
  unfold runP runS
  rw [if_pos (by rw [List.length_map]; exact hn), h]
  rfl
theorem runN_rl {N n : Nat} {m : MS Unit} {ds xs : List D} {e : Env} {u : Unit} (h : m (startE N (ds.map .sh)) () = some (.rl xs, e, u)) (hn : ds.length = n ∧ n ≤ N := by exact ⟨rfl, by decide⟩) : runN N n m ds = some xs := by
  unfold runN runS
  rw [if_pos (by rw [List.length_map]; exact hn), h]
  rfl
theorem runG_re {N n : Nat} {m : MS G} {as : List SV} {e : Env} {d : D} (h : m (startE N as) g = some (.re d, e, g1)) (hn : as.length = n ∧ n ≤ N := by exact ⟨rfl, by decide⟩) : runG N n m as g = some (d, g1) := by
  unfold runG runS
  rw [if_pos hn, h]
  rfl
theorem runG_rl {N n : Nat} {m : MS G} {as : List SV} {e : Env} {xs : List D} (h : m (startE N as) g = some (.rl xs, e, g1)) (hn : as.length = n ∧ n ≤ N := by exact ⟨rfl, by decide⟩) : runG N n m as g = some (.list xs, g1) := by
  unfold runG runS
  rw [if_pos hn, h]
  rfl
/-! draws -/
theorem draw_ev {m : Int} (g : Dr) (h : 0 < m ∧ m < 1073741824) : ∃ j g1, drawA [.st, .sh (.int m)] g = some (.int j, g1) ∧ 0 ≤ j ∧ j < m := ⟨_, _, if_pos h, Dr.take_lo g h.1⟩
/-! data -/
theorem cut_to (xs : List D) (n : Nat) : cut xs none (some (n : Int)) = xs.take n := by
  unfold cut
  rw [HT.sIx_none, HT.sIx_nat, List.drop_zero, Nat.sub_zero]
  by_cases h : n ≤ xs.length
  · rw [Nat.min_eq_left h]
  · rw [Nat.min_eq_right (by omega), List.take_of_length_le (Nat.le_refl _), List.take_of_length_le (by omega)]
theorem cut_from (xs : List D) (n : Nat) : cut xs (some (n : Int)) none = xs.drop n := by
  unfold cut
  rw [HT.sIx_none, HT.sIx_nat]
  by_cases h : n ≤ xs.length
  · rw [Nat.min_eq_left h, List.take_of_length_le (by rw [List.length_drop]; exact Nat.le_refl _)]
  · rw [Nat.min_eq_right (by omega), List.drop_of_length_le (Nat.le_refl _), List.drop_of_length_le (by omega), List.take_nil]
theorem cut_mid (xs : List D) (a b : Nat) (h : b ≤ xs.length) : cut xs (some (a : Int)) (some (b : Int)) = (xs.drop a).take (b - a) := by
  unfold cut
  rw [HT.sIx_nat, HT.sIx_nat, Nat.min_eq_left h]
  by_cases q : a ≤ xs.length
  · rw [Nat.min_eq_left q]
  · rw [Nat.min_eq_right (by omega), List.drop_of_length_le (Nat.le_refl _), List.drop_of_length_le (by omega), List.take_nil, List.take_nil]
theorem cut_last (xs : List D) : cut xs none (some (-1)) = xs.dropLast := by
  unfold cut
  rw [HT.sIx_none, List.drop_zero, Nat.sub_zero, List.dropLast_eq_take]
  congr 1
  show (if (-1 : Int) < 0 then ((-1 : Int) + (xs.length : Int)).toNat else min (-1 : Int).toNat xs.length) = _
  rw [if_pos (by decide)]
  omega
abbrev iL (xs : List Int) : D := .list (xs.map .int)
theorem eqvAll_iL : ∀ xs ys : List Int, PyData.eqvAll (xs.map .int) (ys.map .int) = decide (xs = ys)
  | [], [] => by rw [List.map_nil, PyData.eqvAll]; rfl
  | [], y :: ys => by rw [List.map_nil, List.map_cons, PyData.eqvAll]; rfl
  | x :: xs, [] => by rw [List.map_nil, List.map_cons, PyData.eqvAll]; rfl
  | x :: xs, y :: ys => by
    rw [List.map_cons, List.map_cons, PyData.eqvAll, eqvAll_iL xs ys, PyData.eqv]
    by_cases h : x = y
    · subst h
      simp
    · simp [h]
theorem eqv_iL (xs ys : List Int) : PyData.eqv (iL xs) (iL ys) = decide (xs = ys) := by rw [PyData.eqv]; exact eqvAll_iL xs ys
theorem depth_iL (xs : List Int) : (iL xs).depth ≤ 64 := by
  have h : ∀ xs : List Int, PyData.depthAll (xs.map .int) = 0 := fun xs => by
    induction xs with
    | nil => rfl
    | cons x xs ih => rw [List.map_cons, PyData.depthAll, ih, PyData.depth]; rfl
  show (PyData.list _).depth ≤ 64
  rw [PyData.depth, h]
  decide
theorem eq_iL (xs ys : List Int) : dEq (iL xs) (iL ys) = some (.bool (decide (xs = ys))) := by unfold dEq; rw [if_pos ⟨depth_iL xs, depth_iL ys⟩, eqv_iL]
theorem ne_iL (xs ys : List Int) : dNe (iL xs) (iL ys) = some (.bool (!decide (xs = ys))) := by unfold dNe; rw [if_pos ⟨depth_iL xs, depth_iL ys⟩, eqv_iL]
theorem alike_iL : ∀ xs ys : List Int, PySem.W.alikeAll (xs.map .int) (ys.map .int) = true
  | [], _ => by rw [List.map_nil]; cases h : (List.map PyData.int _) <;> simp [PySem.W.alikeAll]
  | x :: xs, [] => by rw [List.map_nil, List.map_cons]; simp [PySem.W.alikeAll]
  | x :: xs, y :: ys => by rw [List.map_cons, List.map_cons, PySem.W.alikeAll, alike_iL xs ys]; simp [PySem.W.alike]
theorem ltAll_iL : ∀ xs ys : List Int, PyProof.Rows.lexLt PyProof.Rows.itemOrd (PySem.W.keyToksAll (xs.map .int)) (PySem.W.keyToksAll (ys.map .int)) = decide (xs < ys)
  | [], [] => by decide
  | [], y :: ys => by
    rw [List.map_nil, List.map_cons]
    have : ([] : List Int) < y :: ys := List.nil_lt_cons y ys
    rw [decide_eq_true this]
    rw [PySem.W.keyToksAll, PySem.W.keyToksAll]
    rfl
  | x :: xs, [] => by
    rw [List.map_nil, List.map_cons]
    have : ¬ (x :: xs) < ([] : List Int) := List.not_lt_nil _
    rw [decide_eq_false this]
    rw [PySem.W.keyToksAll, PySem.W.keyToksAll]
    rfl
  | x :: xs, y :: ys => by
    rw [List.map_cons, List.map_cons]
    have al : PySem.W.alike (.int x) (.int y) = true := by simp [PySem.W.alike]
    by_cases h : x = y
    · subst h
      rw [PySem.W.dataLt_all_yes al (by rw [PyData.eqv]; simp), ltAll_iL xs ys]
      simp [List.cons_lt_cons_iff]
    · rw [PySem.W.dataLt_all_no al (by rw [PyData.eqv]; simp [h]), PySem.W.dataLt_int]
      simp [List.cons_lt_cons_iff, h]
theorem lt_iL (xs ys : List Int) : dLt (iL xs) (iL ys) = some (.bool (decide (xs < ys))) := by
  unfold dLt
  rw [if_pos ⟨depth_iL xs, depth_iL ys, by rw [PySem.W.alike]; exact alike_iL xs ys, rfl⟩, PySem.W.dataLt_list, ltAll_iL]
theorem ix_nat {ds : List D} {j : Nat} {x : D} (h : ds[j]? = some x) : dIx (.list ds) (.int j) = some x := L2.atI_nat h
theorem len_e {ds : List D} : dLen [.list ds] = some (.int ds.length) := rfl
end
end Pd
namespace Pd
open PySem
theorem index_e {x y : Str} {i : Nat} (h : (Builtin.Str.occurrences x y 0 x.length 1).head? = some i) : dIndex (.str x) (.str y) = some (.int i) := by
  unfold dIndex
  cases e : Builtin.Str.occurrences x y 0 x.length 1 with
  | nil => rw [e] at h; cases h
  | cons j t => rw [e] at h; cases h; simp only [e]
end Pd
namespace Pd
open PySem
theorem lt_t {i j : Int} (h : i < j) : dLtI (.int i) (.int j) = some (.bool true) := by show some (PyData.bool (decide _)) = _; rw [decide_eq_true h]
theorem lt_f {i j : Int} (h : ¬ i < j) : dLtI (.int i) (.int j) = some (.bool false) := by show some (PyData.bool (decide _)) = _; rw [decide_eq_false h]
theorem le_t {i j : Int} (h : i ≤ j) : dLeI (.int i) (.int j) = some (.bool true) := by show some (PyData.bool (decide _)) = _; rw [decide_eq_true h]
theorem le_f {i j : Int} (h : ¬ i ≤ j) : dLeI (.int i) (.int j) = some (.bool false) := by show some (PyData.bool (decide _)) = _; rw [decide_eq_false h]
theorem gt_t {i j : Int} (h : j < i) : dGtI (.int i) (.int j) = some (.bool true) := by show some (PyData.bool (decide _)) = _; rw [decide_eq_true h]
theorem gt_f {i j : Int} (h : ¬ j < i) : dGtI (.int i) (.int j) = some (.bool false) := by show some (PyData.bool (decide _)) = _; rw [decide_eq_false h]
theorem ge_t {i j : Int} (h : j ≤ i) : dGeI (.int i) (.int j) = some (.bool true) := by show some (PyData.bool (decide _)) = _; rw [decide_eq_true h]
theorem ge_f {i j : Int} (h : ¬ j ≤ i) : dGeI (.int i) (.int j) = some (.bool false) := by show some (PyData.bool (decide _)) = _; rw [decide_eq_false h]
theorem eq_int (i j : Int) : dEq (.int i) (.int j) = some (.bool (i == j)) := by
  unfold dEq
  rw [if_pos ⟨by rw [PyData.depth]; decide, by rw [PyData.depth]; decide⟩, PyData.eqv]
theorem eq_it {i j : Int} (h : i = j) : dEq (.int i) (.int j) = some (.bool true) := by rw [eq_int, h]; simp
theorem eq_if {i j : Int} (h : i ≠ j) : dEq (.int i) (.int j) = some (.bool false) := by rw [eq_int, beq_false_of_ne h]
theorem mul_r {i j : Int} (h : -(2 ^ 64) < j ∧ j < 2 ^ 64) : dMul (.int i) (.int j) = some (.int (i * j)) := if_pos (Or.inr h)
theorem mul_l {i j : Int} (h : -(2 ^ 64) < i ∧ i < 2 ^ 64) : dMul (.int i) (.int j) = some (.int (i * j)) := if_pos (Or.inl h)
theorem iL_get {xs : List Int} {j : Nat} {i : Int} (h : xs[j]? = some i) : dIx (iL xs) (.int (j : Int)) = some (.int i) := ix_nat (by rw [List.getElem?_map, h]; rfl)
theorem iL_len {xs : List Int} : dLen [iL xs] = some (.int (xs.length : Int)) := by show some (PyData.int ((xs.map _).length : Int)) = _; rw [List.length_map]
theorem get_lt {xs : List Int} {j : Nat} {i : Int} (h : xs[j]? = some i) : (j : Int) < (xs.length : Int) := by
  have := (List.getElem?_eq_some_iff.mp h).1
  omega
end Pd
namespace Pd
open PySem
theorem chain_f {G : Type} {env : Env} {g g1 g2 : G} {f f' : D → D → Option D} {ma mb mc : ME G} {x y : D} (ha : ma env g = some (x, g1)) (hb : mb env g1 = some (y, g2)) (h : f x y = some (.bool false)) : mChainT f f' ma mb mc env g = some (false, g2) := by
  unfold mChainT; rw [ha]; dsimp only [bD]; rw [hb]; dsimp only [bD]; rw [h]
theorem chain_t {G : Type} {env : Env} {g g1 g2 g3 : G} {f f' : D → D → Option D} {ma mb mc : ME G} {x y z : D} {b : Bool} (ha : ma env g = some (x, g1)) (hb : mb env g1 = some (y, g2)) (h : f x y = some (.bool true)) (hc : mc env g2 = some (z, g3)) (h' : f' y z = some (.bool b)) : mChainT f f' ma mb mc env g = some (b, g3) := by
  unfold mChainT; rw [ha]; dsimp only [bD]; rw [hb]; dsimp only [bD]; rw [h]; dsimp only; rw [hc]; dsimp only [bD]; rw [h']; rfl
end Pd
namespace Pd
open PySem
theorem itL_e {G : Type} {env : Env} {g g1 : G} {ma : ME G} {xs : List D} (h : ma env g = some (.list xs, g1)) : mItL ma env g = some (xs, g1) := by unfold mItL; rw [h]
theorem itT_e {G : Type} {env : Env} {g g1 : G} {ma : ME G} {xs : List D} (h : ma env g = some (.tuple xs, g1)) : mItT ma env g = some (xs, g1) := by unfold mItT; rw [h]
theorem rng1_e {G : Type} {env : Env} {g g1 : G} {ml : ML G} {j : Int} (h : ml env g = some ([.int j], g1)) (hj : -16777216 < j ∧ j < 16777216) : mRng1 ml env g = some (rng 0 j.toNat, g1) := by unfold mRng1; rw [h]; exact if_pos hj
theorem rng2_e {G : Type} {env : Env} {g g1 : G} {ml : ML G} {i j : Int} (h : ml env g = some ([.int i, .int j], g1)) (hi : (-16777216 < i ∧ i < 16777216) ∧ -16777216 < j ∧ j < 16777216 ∧ j - i < 16777216) : mRng2 ml env g = some (rng i (j - i).toNat, g1) := by unfold mRng2; rw [h]; exact if_pos hi
theorem rng_mem {n : Nat} {d : D} (h : d ∈ rng 0 n) : ∃ k : Nat, k < n ∧ d = .int (k : Int) := by
  unfold rng at h
  obtain ⟨k, hk, rfl⟩ := List.mem_map.mp h
  exact ⟨k, List.mem_range.mp hk, by rw [Int.zero_add]⟩
end Pd
namespace Pd
open PySem
theorem lt_first {i j : Int} {xs ys : List D} (h : i ≠ j) : dLt (.tuple (.int i :: xs)) (.tuple (.int j :: ys)) = some (.bool (decide (i < j))) := by
  unfold dLt
  split
  · rw [PySem.W.dataLt_tuple, PySem.W.dataLt_all_no (by rw [PySem.W.alike]) (by rw [PyData.eqv]; exact beq_false_of_ne h), PySem.W.dataLt_int]
  · show (if i = j then none else some (PyData.bool (decide (i < j)))) = _
    rw [if_neg h]
theorem ltAll_one {x y : D} (al : PySem.W.alike x y = true) : PyProof.Rows.lexLt PyProof.Rows.itemOrd (PySem.W.keyToksAll [x]) (PySem.W.keyToksAll [y]) = PySem.W.dataLt x y := by
  cases e : PyData.eqv x y with
  | false => exact PySem.W.dataLt_all_no al e
  | true =>
    rw [PySem.W.dataLt_all_yes al e]
    unfold PySem.W.dataLt
    rw [(PySem.W.toks_eqv x y al).1 e]
    have h : ∀ l : List (Int ⊕ List Nat), PyProof.Rows.lexLt PyProof.Rows.itemOrd l l = false := fun l => by
      have := PySem.W.lex_pre l [] []
      rw [List.append_nil] at this
      rw [this]; rfl
    rw [h, h]
theorem lt_second {i : Int} {x y : D} (al : PySem.W.alike x y = true) (hx : x.depth ≤ 60) (hy : y.depth ≤ 60) : dLt (.tuple [.int i, x]) (.tuple [.int i, y]) = some (.bool (PySem.W.dataLt x y)) := by
  unfold dLt
  have d1 : ∀ {z : D}, z.depth ≤ 60 → (PyData.tuple [.int i, z]).depth ≤ 64 := fun {z} hz => by
    rw [PyData.depth, PyData.depthAll, PyData.depthAll, PyData.depthAll, PyData.depth]; omega
  rw [if_pos ⟨d1 hx, d1 hy, by rw [PySem.W.alike, PySem.W.alikeAll, PySem.W.alikeAll, PySem.W.alikeAll, al, PySem.W.alike]; rfl, rfl⟩]
  · rw [PySem.W.dataLt_tuple, PySem.W.dataLt_all_yes (by rw [PySem.W.alike]) (by rw [PyData.eqv]; simp), ltAll_one al]
theorem eq_flat {x y : D} (hx : x.depth ≤ 64) (hy : y.depth ≤ 64) : dEq x y = some (.bool (PyData.eqv x y)) := if_pos ⟨hx, hy⟩
theorem ne_flat {x y : D} (hx : x.depth ≤ 64) (hy : y.depth ≤ 64) : dNe x y = some (.bool (!PyData.eqv x y)) := if_pos ⟨hx, hy⟩
end Pd
namespace Pd
open PySem
theorem compL_cons {G : Type} {env e1 : Env} {g g2 g3 : G} {bt : MTg G} {me : ME G} {d x : D} {ds xs : List D} (h1 : bt d env g = some (e1, g)) (h2 : me e1 g = some (x, g2)) (h3 : compL bt mYes me env ds g2 = some (xs, g3)) : compL bt mYes me env (d :: ds) g = some (x :: xs, g3) := by
  unfold compL
  rw [h1]
  dsimp only [mYes]
  rw [h2]
  dsimp only
  rw [h3]
theorem compL_nil {G : Type} {env : Env} {g : G} {bt : MTg G} {me : ME G} {mt : MT G} : compL bt mt me env [] g = some ([], g) := rfl
end Pd
namespace Pd
open PySem
theorem div_e {i j : Int} (h : j ≠ 0 ∧ j.natAbs < 1073741824) : dDiv (.int i) (.int j) = some (.int (i.fdiv j)) := if_pos h
theorem mod_e {i j : Int} (h : j ≠ 0) : dMod (.int i) (.int j) = some (.int (i.fmod j)) := if_pos h
theorem var_e {G : Type} {env : Env} {g : G} {i : Nat} {d : D} (h : env.at i = .sh d) : mVar i env g = some (d, g) := by unfold mVar; rw [h]
end Pd
namespace Pd
open PySem
theorem map_of {α : Type} {f : α → D} {P : α → Prop} : ∀ {xs : List D}, (∀ x ∈ xs, ∃ a, x = f a ∧ P a) → ∃ l : List α, xs = l.map f ∧ ∀ a ∈ l, P a
  | [], _ => ⟨[], rfl, fun _ h => nomatch h⟩
  | x :: xs, h => by
    obtain ⟨a, e, p⟩ := h x (by simp)
    obtain ⟨l, e', p'⟩ := map_of (xs := xs) fun y hy => h y (List.mem_cons_of_mem _ hy)
    refine ⟨a :: l, by rw [e, e']; rfl, fun b hb => ?_⟩
    rcases List.mem_cons.mp hb with z | z
    · rw [z]; exact p
    · exact p' b z
theorem depth_iL1 (xs : List Int) : (iL xs).depth ≤ 1 := by
  have h : ∀ xs : List Int, PyData.depthAll (xs.map .int) = 0 := fun xs => by
    induction xs with
    | nil => rfl
    | cons x xs ih => rw [List.map_cons, PyData.depthAll, ih, PyData.depth]; rfl
  show (PyData.list _).depth ≤ 1
  rw [PyData.depth, h]
  decide
theorem depthAll_le {n : Nat} : ∀ {xs : List D}, (∀ x ∈ xs, x.depth ≤ n) → PyData.depthAll xs ≤ n
  | [], _ => Nat.zero_le _
  | x :: xs, h => by
    rw [PyData.depthAll]
    exact Nat.max_le.mpr ⟨h x (by simp), depthAll_le fun y hy => h y (List.mem_cons_of_mem _ hy)⟩
theorem depth_list {n : Nat} {xs : List D} (h : ∀ x ∈ xs, x.depth ≤ n) : (PyData.list xs).depth ≤ n + 1 := by
  rw [PyData.depth]
  have := depthAll_le h
  omega
theorem depth_tup {n : Nat} {xs : List D} (h : ∀ x ∈ xs, x.depth ≤ n) : (PyData.tuple xs).depth ≤ n + 1 := by
  rw [PyData.depth]
  have := depthAll_le h
  omega
mutual
/-- data without dicts -/
def noDict : D → Bool
  | .none => true
  | .bool _ => true
  | .int _ => true
  | .str _ => true
  | .list xs => noDictA xs
  | .tuple xs => noDictA xs
  | .dict _ => false
def noDictA : List D → Bool
  | [] => true
  | x :: xs => noDict x && noDictA xs
end
mutual
theorem alike_self : ∀ {x : D}, noDict x = true → PySem.W.alike x x = true
  | .none, _ => by rw [PySem.W.alike]
  | .bool _, _ => by rw [PySem.W.alike]
  | .int _, _ => by rw [PySem.W.alike]
  | .str _, _ => by rw [PySem.W.alike]
  | .list xs, h => by rw [noDict] at h; rw [PySem.W.alike]; exact alikeAll_self h
  | .tuple xs, h => by rw [noDict] at h; rw [PySem.W.alike]; exact alikeAll_self h
  | .dict _, h => by rw [noDict] at h; cases h
theorem alikeAll_self : ∀ {xs : List D}, noDictA xs = true → PySem.W.alikeAll xs xs = true
  | [], _ => by rw [PySem.W.alikeAll]
  | x :: xs, h => by
    rw [noDictA, Bool.and_eq_true] at h
    rw [PySem.W.alikeAll, alike_self h.1, alikeAll_self h.2]
    rfl
end
theorem eqv_self {x : D} (h : noDict x = true) : PyData.eqv x x = true := PySem.W.eqv_refl_alike x (alike_self h)
theorem noDictA_of : ∀ {xs : List D}, (∀ x ∈ xs, noDict x = true) → noDictA xs = true
  | [], _ => by rw [noDictA]
  | x :: xs, h => by rw [noDictA, h x (by simp), noDictA_of fun y hy => h y (List.mem_cons_of_mem _ hy)]; rfl
theorem noDict_iL (xs : List Int) : noDict (iL xs) = true := by
  rw [noDict]
  refine noDictA_of fun x hx => ?_
  obtain ⟨i, _, rfl⟩ := List.mem_map.mp hx
  rw [noDict]
theorem eq_self {x : D} (h : noDict x = true) (hd : x.depth ≤ 64) : dEq x x = some (.bool true) := by rw [eq_flat hd hd, eqv_self h]
theorem ne_self {x : D} (h : noDict x = true) (hd : x.depth ≤ 64) : dNe x x = some (.bool false) := by rw [ne_flat hd hd, eqv_self h]; rfl
theorem ne_bb (a b : Bool) : dNe (.bool a) (.bool b) = some (.bool (a != b)) := by
  rw [ne_flat (by rw [PyData.depth]; decide) (by rw [PyData.depth]; decide), PyData.eqv]; rfl
theorem ne_int (a b : Int) : dNe (.int a) (.int b) = some (.bool (!(a == b))) := by
  rw [ne_flat (by rw [PyData.depth]; decide) (by rw [PyData.depth]; decide), PyData.eqv]
end Pd
namespace Pd
open PySem
theorem band_t {G : Type} {env : Env} {g g1 : G} {ma mb : ME G} {r} (h : ma env g = some (.bool true, g1)) (k : mb env g1 = r) : mBAnd ma mb env g = r := by unfold mBAnd; rw [h]; exact k
end Pd
namespace Pd
open PySem
section
variable {G : Type} {env e1 e2 : Env} {g g1 g2 : G}
theorem rng_zero (lo : Int) : rng lo 0 = [] := rfl
theorem rng_succ (lo : Int) (n : Nat) : rng lo (n + 1) = .int lo :: rng (lo + 1) n := by
  unfold rng
  rw [List.range_succ_eq_map, List.map_cons, List.map_map]
  congr 1
  · simp
  · apply List.map_congr_left
    intro k _
    simp only [Function.comp]
    congr 1
    omega
theorem rng0 (n : Nat) : rng 0 n = (List.range n).map fun k => .int (k : Int) := by
  unfold rng
  apply List.map_congr_left
  intro k _
  rw [Int.zero_add]
theorem compL_filter {α : Type} {bt : MTg G} {me : ME G} {mt : MT G} (f h : α → D) (p : α → Bool) {l : List α} (k : ∀ a ∈ l, ∃ e1, bt (f a) env g = some (e1, g) ∧ mt e1 g = some (p a, g) ∧ me e1 g = some (h a, g)) :
    compL bt mt me env (l.map f) g = some ((l.filter p).map h, g) := by
  induction l with
  | nil => rfl
  | cons a l ih =>
    obtain ⟨e1, q1, q2, q3⟩ := k a (by simp)
    have ih := ih fun d' hd => k d' (List.mem_cons_of_mem _ hd)
    rw [List.map_cons]
    unfold compL
    rw [q1]
    dsimp only
    rw [q2]
    cases hp : p a with
    | false => rw [List.filter_cons_of_neg (by rw [hp]; decide)]; exact ih
    | true =>
      rw [List.filter_cons_of_pos hp, List.map_cons]
      dsimp only
      rw [q3]
      dsimp only
      rw [ih]
theorem asg_e {b : MTg G} {ma : ME G} {d : D} (h : ma env g = some (d, g1)) (hb : b d env g1 = some (e1, g2)) : mAsg b ma env g = some (.nx, e1, g2) := by unfold mAsg; rw [h]; dsimp only [bD]; rw [hb]; rfl
theorem par_e {i j : Nat} {ml : ML G} {x y : D} (h : ml env g = some ([x, y], g1)) : mPar i j ml env g = some (.nx, (env.set i (.sh x)).set j (.sh y), g1) := by unfold mPar; rw [h]
theorem enum_e {ml : ML G} {ds : List D} (h : ml env g = some ([.list ds], g1)) : mEnum ml env g = some (enm 0 ds, g1) := by unfold mEnum; rw [h]
theorem loop_nil {bt : MTg G} {mb : MS G} : loopL bt mb [] env g = some (.nx, env, g) := rfl
theorem loop_nx {bt : MTg G} {mb : MS G} {d : D} {ds : List D} {r} (h1 : bt d env g = some (e1, g1)) (h2 : mb e1 g1 = some (.nx, e2, g2)) (h3 : loopL bt mb ds e2 g2 = r) : loopL bt mb (d :: ds) env g = r := by
  unfold loopL; rw [h1]; dsimp only; rw [h2]; exact h3
theorem loop_re {bt : MTg G} {mb : MS G} {d x : D} {ds : List D} (h1 : bt d env g = some (e1, g1)) (h2 : mb e1 g1 = some (.re x, e2, g2)) : loopL bt mb (d :: ds) env g = some (.re x, e2, g2) := by
  unfold loopL; rw [h1]; dsimp only; rw [h2]
theorem setIx_e {j : Nat} {mi me : ME G} {d : D} {i : Int} {ds : List D} {k : Nat} (h : me env g = some (d, g1)) (hi : mi env g1 = some (.int i, g2)) (hj : env.at j = .ow ds) (hk : L2.ixN ds.length i = some k) : mSetIx j mi me env g = some (.nx, env.set j (.ow (ds.set k d)), g2) := by
  unfold mSetIx; rw [h]; dsimp only [bD]; rw [hi]; dsimp only [bD]; rw [hj]; dsimp only; rw [hk]; rfl
theorem ixOw_e {j : Nat} {mi : ME G} {d : D} {i : Int} {ds : List D} (hi : mi env g = some (.int i, g1)) (hj : env.at j = .ow ds) (hk : L2.atI ds i = some d) : mIxOw j mi env g = some (d, g1) := by
  unfold mIxOw; rw [hi]; dsimp only [bD]; rw [hj]; dsimp only; rw [hk]; rfl
theorem ixN_nat {n k : Nat} (h : k < n) : L2.ixN n (k : Int) = some k := by
  unfold L2.ixN
  rw [if_pos (by omega), if_pos (by omega)]; simp
theorem app_e {j : Nat} {me : ME G} {d : D} {ds : List D} (h : me env g = some (d, g1)) (hj : env.at j = .ow ds) (hl : ds.length < sizeLine) : mApp j me env g = some (.nx, env.set j (.ow (ds ++ [d])), g1) := by
  unfold mApp; rw [h]; dsimp only [bD]; rw [hj]; exact if_pos hl
theorem retOw_e {j : Nat} {ds : List D} (hj : env.at j = .ow ds) : mRetOw j env g = some (.rl ds, env.set j .un, g) := by unfold mRetOw; rw [hj]
end
end Pd
namespace Pd
open PySem
theorem neq_f {i j : Int} (h : i = j) : dNe (.int i) (.int j) = some (.bool false) := by rw [ne_int, h]; simp
theorem neq_t {i j : Int} (h : i ≠ j) : dNe (.int i) (.int j) = some (.bool true) := by rw [ne_int, beq_false_of_ne h]; rfl
/-- it tells d, and ends -/
def Re {G : Type} (d : D) (m : MS G) (env : Env) (g : G) : Prop := ∃ e g1, m env g = some (.re d, e, g1)
section
variable {G : Type} {env env1 e1 e2 : Env} {g g1 g2 g3 : G} {m1 m2 : MS G} {ma mb : ME G} {mt mu : MT G} {ml : ML G} {d : D}
theorem re_nx (h1 : m1 env g = some (.nx, e1, g1)) (h2 : Re d m2 e1 g1) : Re d (mSeq m1 m2) env g := by
  obtain ⟨e, g3, h⟩ := h2
  exact ⟨e, g3, seq_nx h1 h⟩
theorem re_in (h : Re d m1 env g) : Re d (mSeq m1 m2) env g := by
  obtain ⟨e, g3, h⟩ := h
  exact ⟨e, g3, seq_re h⟩
theorem re_ift (h : mt env g = some (true, g1)) (k : Re d m1 env g1) : Re d (mIfS mt m1 m2) env g := by
  obtain ⟨e, g3, k⟩ := k
  exact ⟨e, g3, if_t h k⟩
theorem re_iff (h : mt env g = some (false, g1)) (k : Re d m2 env g1) : Re d (mIfS mt m1 m2) env g := by
  obtain ⟨e, g3, k⟩ := k
  exact ⟨e, g3, if_f h k⟩
theorem re_ret (h : ma env g = some (d, g1)) : Re d (mRet ma) env g := ⟨_, _, ret_e h⟩
theorem re_e {e g3} (h : m1 env g = some (.re d, e, g3)) : Re d m1 env g := ⟨e, g3, h⟩
end
theorem runP_Re {N n : Nat} {m : MS Unit} {ds : List D} {d : D} (h : Re d m (startE N (ds.map .sh)) ()) (hn : ds.length = n ∧ n ≤ N := by exact ⟨rfl, by decide⟩) : runP N n m ds = some d := by
  obtain ⟨e, u, h⟩ := h
  exact runP_re h hn
end Pd
namespace Pd
open PySem
theorem any_e {α : Type} (l : List α) (f : α → Bool) : dAny [.list (l.map fun z => .bool (f z))] = some (.bool (l.any f)) := by
  have e : l.map (fun z => PyData.bool (f z)) = (l.map f).map .bool := by rw [List.map_map]; rfl
  rw [e]
  show (boolsD _).map _ = _
  rw [boolsD_map]
  show some (PyData.bool ((l.map f).any id)) = _
  rw [List.any_map]; rfl
theorem all_e {α : Type} (l : List α) (f : α → Bool) : dAll [.list (l.map fun z => .bool (f z))] = some (.bool (l.all f)) := by
  have e : l.map (fun z => PyData.bool (f z)) = (l.map f).map .bool := by rw [List.map_map]; rfl
  rw [e]
  show (boolsD _).map _ = _
  rw [boolsD_map]
  show some (PyData.bool ((l.map f).all id)) = _
  rw [List.all_map]; rfl
end Pd
namespace Pd
open PySem
section
variable {G : Type} {env e1 e2 : Env} {g g1 g2 g3 : G}
theorem setIx_iL {j : Nat} {mi me : ME G} {xs : List Int} {v : Int} {k : Nat} (h : me env g = some (.int v, g1)) (hi : mi env g1 = some (.int (k : Int), g2)) (hj : env.at j = .ow (xs.map .int)) (hk : k < xs.length) : mSetIx j mi me env g = some (.nx, env.set j (.ow ((xs.set k v).map .int)), g2) := by
  rw [setIx_e h hi hj (ixN_nat (by rw [List.length_map]; exact hk)), List.map_set]
end
end Pd
namespace Pd
open PySem
/-- it hands out the new list ds, and ends -/
def Rl {G : Type} (ds : List D) (m : MS G) (env : Env) (g : G) : Prop := ∃ e g1, m env g = some (.rl ds, e, g1)
section
variable {G : Type} {env env1 e1 e2 : Env} {g g1 g2 g3 : G} {m1 m2 : MS G} {ma mb : ME G} {mt mu : MT G} {ml : ML G} {ds : List D}
theorem rl_nx (h1 : m1 env g = some (.nx, e1, g1)) (h2 : Rl ds m2 e1 g1) : Rl ds (mSeq m1 m2) env g := by
  obtain ⟨e, g3, h⟩ := h2
  exact ⟨e, g3, seq_nx h1 h⟩
theorem rl_in (h : Rl ds m1 env g) : Rl ds (mSeq m1 m2) env g := by
  obtain ⟨e, g3, h⟩ := h
  exact ⟨e, g3, seq_rl h⟩
theorem rl_ift (h : mt env g = some (true, g1)) (k : Rl ds m1 env g1) : Rl ds (mIfS mt m1 m2) env g := by
  obtain ⟨e, g3, k⟩ := k
  exact ⟨e, g3, if_t h k⟩
theorem rl_iff (h : mt env g = some (false, g1)) (k : Rl ds m2 env g1) : Rl ds (mIfS mt m1 m2) env g := by
  obtain ⟨e, g3, k⟩ := k
  exact ⟨e, g3, if_f h k⟩
theorem rl_ret (h : ml env g = some (ds, g1)) : Rl ds (mRetF ml) env g := ⟨_, _, retF_e h⟩
theorem rl_retOw {j : Nat} (h : env.at j = .ow ds) : Rl ds (mRetOw j) env g := ⟨_, _, retOw_e h⟩
end
theorem runP_Rl {N n : Nat} {m : MS Unit} {ds xs : List D} (h : Rl xs m (startE N (ds.map .sh)) ()) (hn : ds.length = n ∧ n ≤ N := by exact ⟨rfl, by decide⟩) : runP N n m ds = some (.list xs) := by
  obtain ⟨e, u, h⟩ := h
  exact runP_rl h hn
theorem runN_Rl {N n : Nat} {m : MS Unit} {ds xs : List D} (h : Rl xs m (startE N (ds.map .sh)) ()) (hn : ds.length = n ∧ n ≤ N := by exact ⟨rfl, by decide⟩) : runN N n m ds = some xs := by
  obtain ⟨e, u, h⟩ := h
  exact runN_rl h hn
end Pd
namespace Pd
open PySem
theorem tup2_e {G : Type} {env e1 e2 : Env} {g g1 g2 : G} {b1 b2 : MTg G} {x y : D} (h1 : b1 x env g = some (e1, g1)) (h2 : b2 y e1 g1 = some (e2, g2)) : bTup 2 (bCons b1 (bCons b2 bNil)) (.tuple [x, y]) env g = some (e2, g2) := by
  show (b1 x env g).bind _ = _
  rw [h1]
  show (b2 y e1 g1).bind _ = _
  rw [h2]
  rfl
end Pd
namespace Pd
open PySem
section
variable {G : Type} {env e1 e2 : Env} {g g1 g2 g3 : G}
theorem intsD_mm : ∀ ns : List Int, intsD (ns.map .int) = some ns
  | [] => rfl
  | n :: ns => by show (intsD (ns.map .int)).map (n :: ·) = _; rw [intsD_mm ns]; rfl
theorem sum_e {α : Type} (l : List α) (f : α → Int) : dSum [.list (l.map fun z => .int (f z))] = some (.int ((l.map f).sum)) := by
  have e : l.map (fun z => PyData.int (f z)) = (l.map f).map .int := by rw [List.map_map]; rfl
  rw [e]
  show (intsD _).map _ = _
  rw [intsD_mm]
  rfl
end
end Pd

/-! Pd: targets by place, slices of one's own lists, sorted. -/
namespace Pd
open PySem PySem.Spec L2
section
variable {G : Type} {X : Cx} {S : Gs G} {K : PySem.W.Frag} {a b c e i : Expr} {es rest : List Expr} {pos : Pos} {ma mb me mi : ME G} {mt : MT G} {ml mk : ML G} {w : Wd} {env env' : Env} {g g' : G} {σ : St} {H H' I' : Hp}
/-! ### x[i] as a target, x a list of one's own -/
def bSub (j : Nat) (mi : ME G) : MTg G := fun d env g => bD (mi env g) fun i g1 => match env.at j, i with
  | .ow ds, .int i => (ixN ds.length i).map fun k => (env.set j (.ow (ds.set k d)), g1)
  | _, _ => none
theorem dg_sub (j : Nat) {x : Str} {xp : Pos} (hi : DE X S i mi) (hN : X.N[j]? = some x := by rfl) (hv : Vis X.env.scope x := by first | exact Or.inl rfl | exact Or.inr (Or.inl rfl) | exact Or.inr (Or.inr rfl)) (hd : (x == ("__debug__" : Str)) = false := by decide)
    (hcd : (x == ("__classdict__" : Str)) = false := by decide)
    (ha : ∀ v, assign (.Subscript (.Name x xp) i pos) X.env v = (do
      let ov ← holding [v] (eval (.Name x xp) X.env)
      let iv ← holding [v, ov] (eval i X.env)
      standAt pos
      holding [v, ov, iv] (setItem ov iv v)
      release [v, ov, iv] []) := by intro _; rfl) : DTg X S (.Subscript (.Name x xp) i pos) [j] (bSub j mi) where
  pg := PG.imp (pg_sub (pe_var hN hv hd hcd) hi set_list ha) fun v σ H Q ⟨w, env, g, d, env', g', R, pv, e, k⟩ => by
    obtain ⟨i, g2, e2, e⟩ := bD_some e
    split at e
    · rename_i ds i ej
      obtain ⟨n, en, e⟩ := Option.map_eq_some_iff.mp e
      cases e
      obtain ⟨p, vs, sj, hp, _⟩ := R.own ej
      refine ⟨_, sj, w, env, g, _, g', R, e2, fun u I2 H2 s2 R2 p2 => ?_⟩
      have s2 : Same w.I I2 := s2
      cases p2
      obtain ⟨p', us, sj', hp', hi, h0, hf, rb, hy⟩ := R2.own ej
      rw [sj] at sj'
      cases sj'
      refine ⟨p, us, i, n, rfl, rfl, hp', by rw [rb.len]; exact en, ?_⟩
      exact k σ I2 _ s2 (R2.setOw ej sj hp' hi h0 hf (rb.set (pv.mono s2) n) (by rw [List.length_set]; exact hy)) rfl fun _ _ => rfl
    · cases e
  ok := fun d env g env' g' e => by
    obtain ⟨i, g2, e2, e⟩ := bD_some e
    split at e
    · obtain ⟨n, en, e⟩ := Option.map_eq_some_iff.mp e
      cases e
      exact ⟨by rw [List.length_set], fun k hk => by rw [at_set, if_neg fun z => hk (by simp [z.1])]⟩
    · cases e
/-! ### x[lo:hi] = ys -/
def gSlice (to : TE) (tl th : TO) : TG := fun v σ H Q => to σ H fun o H1 => tl σ H1 fun l H2 => th σ H2 fun u H3 => ∃ p b xs ys a c, o = .ref p ∧ v = .ref b ∧ l = some a ∧ u = some c ∧ H3 p = some (.lst xs) ∧ H3 b = some (.lst ys) ∧ p ≠ b ∧
  0 ≤ a ∧ a ≤ c ∧ c ≤ xs.length ∧ xs.length + ys.length ≤ sizeLine ∧ Q σ (upd H3 p (.lst (xs.take a.toNat ++ ys ++ xs.drop c.toNat)))
theorem pg_slice {o : Expr} {lo hi : Option Expr} {p2 : Pos} {to : TE} {tl th : TO} (ho : PE X o to) (hl : PO X lo tl) (hh : PO X hi th)
    (ha : ∀ v, assign (.Subscript o (.Slice lo hi none p2) pos) X.env v = (do
      let ov ← holding [v] (eval o X.env)
      let iv ← holding [v, ov] (eval (.Slice lo hi none p2) X.env)
      standAt pos
      holding [v, ov, iv] (setItem ov iv v)
      release [iv, v, ov] []) := by intro _; rfl) : PG X (.Subscript o (.Slice lo hi none p2) pos) (gSlice to tl th) := by
  refine ⟨fun pins s σ H v u Q I r h => ?_⟩
  rw [ha]
  refine wpAny_bind (wpAny_holding (thn (ho.run pins s σ H _ I h) fun ov s1 ⟨x, H1, I1, r1, q1⟩ => ?_))
  refine wpAny_bind (wpAny_holding (wpAny_Slice (thn (hl.run pins s1 σ H1 _ I1 q1) fun vl s2 ⟨l, H2, I2, pl, q2⟩ => thn (hh.run pins s2 σ H2 _ I2 q2) fun vu s3 ⟨u', H3, I3, pu, q3⟩ => ?_)))
  rw [evalPart_none]
  refine wpAny_pure ?_
  have I4 : Inv X pins σ H3 { s3 with heap := s3.heap.push { cls := .type "slice", data := .fields #[vl, vu, .none] } } := I3.kept (t' := s3.toks) fun b ob q => Heap.get?_push_of_some _ q
  obtain ⟨p, b, xs, ys, a, c, rfl, rfl, rfl, rfl, hp, hb, hne, h0, hac, hc, hz, q⟩ := q3
  cases pl
  cases pu
  cases r1
  cases r
  refine wpAny_bind (wpAny_standAt (wpAny_bind (wpAny_holding ?_)))
  exact set_slice I4 hp hb hne (Heap.IsSliceOf.new ..) ⟨_, rfl⟩ ⟨_, rfl⟩ h0 hac hc hz fun s' I5 => wpAny_release ⟨σ, _, I5, q⟩
def mSetSl (j : Nat) (lo hi : MO G) (me : ME G) : MS G := fun env g => bD (me env g) fun d g1 => bD (lo env g1) fun l g2 => bD (hi env g2) fun h g3 => match env.at j, d, l, h with
  | .ow ds, .list ys, some a, some c => if 0 ≤ a ∧ a ≤ c ∧ c ≤ ds.length ∧ ds.length + ys.length ≤ sizeLine then some (.nx, env.set j (.ow (ds.take a.toNat ++ ys ++ ds.drop c.toNat)), g3) else none
  | _, _, _, _ => none
theorem rpa_take {I : Hp} : ∀ {vs : List V} {ds : List D}, RpA K I vs ds → ∀ n : Nat, RpA K I (vs.take n) (ds.take n)
  | _, _, .nil, n => by rw [List.take_nil, List.take_nil]; exact .nil
  | _, _, .cons _ _, 0 => .nil
  | _, _, .cons a b, n + 1 => .cons a (rpa_take b n)
theorem rpa_drop {I : Hp} : ∀ {vs : List V} {ds : List D}, RpA K I vs ds → ∀ n : Nat, RpA K I (vs.drop n) (ds.drop n)
  | _, _, .nil, n => by rw [List.drop_nil, List.drop_nil]; exact .nil
  | _, _, .cons a b, 0 => .cons a b
  | _, _, .cons a b, n + 1 => rpa_drop b n
theorem ds_setSl (j : Nat) {x : Str} {xp sp p2 : Pos} {lo hi : Option Expr} {mlo mhi : MO G} (he : DE X S e me) (hl : DO X S lo mlo) (hh : DO X S hi mhi) (hN : X.N[j]? = some x := by rfl) (hv : Vis X.env.scope x := by first | exact Or.inl rfl | exact Or.inr (Or.inl rfl) | exact Or.inr (Or.inr rfl)) (hd : (x == ("__debug__" : Str)) = false := by decide)
    (hcd : (x == ("__classdict__" : Str)) = false := by decide)
    (ha : ∀ v, assign (.Subscript (.Name x xp) (.Slice lo hi none p2) sp) X.env v = (do
      let ov ← holding [v] (eval (.Name x xp) X.env)
      let iv ← holding [v, ov] (eval (.Slice lo hi none p2) X.env)
      standAt sp
      holding [v, ov, iv] (setItem ov iv v)
      release [iv, v, ov] []) := by intro _; rfl)
    (hs : swapsWithSole [.Subscript (.Name x xp) (.Slice lo hi none p2) sp] e pos.line X.env = pure false := by rfl) (hw : swappedStores [.Subscript (.Name x xp) (.Slice lo hi none p2) sp] e X.env = pure none := by rfl)
    (h1 : (assignEach [.Subscript (.Name x xp) (.Slice lo hi none p2) sp] X.env).map (·.2) = [assign (.Subscript (.Name x xp) (.Slice lo hi none p2) sp) X.env] := by rfl) :
    DS X S (.Assign [.Subscript (.Name x xp) (.Slice lo hi none p2) sp] e pos) (mSetSl j mlo mhi me) := PS.imp (ps_asg he (pg_slice (pe_var hN hv hd hcd) hl.po hh.po ha) hs hw h1) fun D σ H ⟨w, env, g, ct, env', g', R, e, k⟩ => by
  obtain ⟨d, g1, e1, e⟩ := bD_some e
  obtain ⟨l, g2, e2, e⟩ := bD_some e
  obtain ⟨h, g3, e3, e⟩ := bD_some e
  split at e
  · rename_i ds ys a c ej _ _
    split at e
    · rename_i hz
      cases e
      refine ⟨w, env, g, _, g1, R, e1, fun v I1 H1 s1 R1 p1 => ?_⟩
      obtain ⟨p, vs, sj, hp, _⟩ := R1.own ej
      refine ⟨_, sj, w.im I1, env, g1, _, g2, R1, e2, fun I2 H2 s2 R2 => ⟨w.im I2, env, g2, _, g', R2, e3, fun I3 H3 s3 R3 => ?_⟩⟩
      have s2 : Same I1 I2 := s2
      have s3 : Same I2 I3 := s3
      cases p1 with
      | lst hb rb hy =>
        obtain ⟨p', us, sj', hp', hi, h0, hf, ra, hx⟩ := R3.own ej
        rw [sj] at sj'
        cases sj'
        have hb3 := s3 _ _ (s2 _ _ hb)
        refine ⟨p, _, us, _, a, c, rfl, rfl, rfl, rfl, hp', R3.eI _ _ hb3, fun z => ?_, hz.1, hz.2.1, by rw [ra.len]; exact hz.2.2.1, by rw [ra.len, rb.len]; exact hz.2.2.2, ?_⟩
        · have hi : I3 p = none := hi
          rw [z, hb3] at hi; cases hi
        · refine k σ I3 _ (s1.trans (s2.trans s3)) (R3.setOw ej sj hp' hi h0 hf (((rpa_take ra _).append (rb.mono (s2.trans s3))).append (rpa_drop ra _)) ?_)
          have := hz.2.2.2
          rw [List.length_append, List.length_append, List.length_take, List.length_drop]
          omega
    · cases e
  · cases e
/-- x[lo:hi] of a list of one's own -/
def mSlOw (j : Nat) (lo hi : MO G) : ML G := fun env g => bD (lo env g) fun l g2 => bD (hi env g2) fun h g3 => match env.at j with
  | .ow ds => some (cut ds l h, g3)
  | _ => none
theorem df_sliceOw (j : Nat) {x : Str} {xp p2 : Pos} {lo hi : Option Expr} {mlo mhi : MO G} (hl : DO X S lo mlo) (hh : DO X S hi mhi) (hN : X.N[j]? = some x := by rfl) (hv : Vis X.env.scope x := by first | exact Or.inl rfl | exact Or.inr (Or.inl rfl) | exact Or.inr (Or.inr rfl)) (hd : (x == ("__debug__" : Str)) = false := by decide)
    (hcd : (x == ("__classdict__" : Str)) = false := by decide) : DF X S (.Subscript (.Name x xp) (.Slice lo hi none p2) pos) (mSlOw j mlo mhi) := PE.imp (pe_slice sl_list (pe_var hN hv hd hcd) hl.po hh.po) fun σ H Q q => by
  obtain ⟨w, env, g, d, g', R, e, k⟩ := q
  obtain ⟨l, g2, e2, e⟩ := bD_some e
  obtain ⟨h, g3, e3, e⟩ := bD_some e
  split at e
  · rename_i ds ej
    cases e
    obtain ⟨p, vs, sj, hp, _⟩ := R.own ej
    refine ⟨_, sj, w, env, g, l, g2, R, e2, fun I2 H2 s2 R2 => ⟨w.im I2, env, g2, h, g', R2, e3, fun I3 H3 s3 R3 => ?_⟩⟩
    have s2 : Same w.I I2 := s2
    have s3 : Same I2 I3 := s3
    obtain ⟨p', us, sj', hp', hi, h0, hf, ra, hx⟩ := R3.own ej
    rw [sj] at sj'
    cases sj'
    refine ⟨_, _, rfl, SqL.of hp', fun p h0 => ?_⟩
    exact k p _ I3 _ (s2.trans s3) (R3.alloc h0) (R3.nob h0) upd_same (cut_rp ra l h) (Nat.le_trans (cut_le ds l h) hx)
  · cases e
/-! ### a new list by a test -/
theorem df_if (hc : DT X S c mt) (ha : DF X S a ml) (hb : DF X S b mk) : DF X S (.IfExp c a b pos) (mIf mt ml mk) := PE.imp (pe_ifExp hc ha hb) fun σ H Q q => by
  obtain ⟨w, env, g, d, g', R, e, k⟩ := q
  obtain ⟨x, g1, e1, e⟩ := bD_some e
  refine ⟨w, env, g, x, g1, R, e1, fun I1 H1 s1 R1 => ?_⟩
  cases x with
  | true => exact ⟨w.im I1, env, g1, d, g', R1, e, fun p vs I2 H2 s2 R2 => k p vs I2 H2 (s1.trans s2) R2⟩
  | false => exact ⟨w.im I1, env, g1, d, g', R1, e, fun p vs I2 H2 s2 R2 => k p vs I2 H2 (s1.trans s2) R2⟩
end
end Pd
namespace Pd
open PySem
section
variable {G : Type} {env e1 e2 : Env} {g g1 g2 g3 : G}
theorem lendT_e {js : List Nat} {mt : MT G} {r} (h0 : (env.lend js).noOw = true) (h : mt (env.lend js) g = r) : mLendT js mt env g = r := by unfold mLendT; rw [if_pos h0]; exact h
theorem frz_e {j : Nat} {m : MS G} {r} (h : m (env.frz j) g = r) : mFrz j m env g = r := h
theorem slOw_e {j : Nat} {lo hi : MO G} {l h : Option Int} {ds : List D} (hl : lo env g = some (l, g1)) (hh : hi env g1 = some (h, g2)) (hj : env.at j = .ow ds) : mSlOw j lo hi env g = some (cut ds l h, g2) := by
  unfold mSlOw; rw [hl]; dsimp only [bD]; rw [hh]; dsimp only [bD]; rw [hj]
theorem catOw_e {j : Nat} {mb : ME G} {ds ys : List D} (hb : mb env g = some (.list ys, g1)) (hj : env.at j = .ow ds) (hl : ds.length + ys.length ≤ sizeLine) : mCatOw j mb env g = some (ds ++ ys, g1) := by
  unfold mCatOw; rw [hb]; dsimp only [bD]; rw [hj]; exact if_pos hl
end
end Pd

/-! Pd: sorted. -/
namespace Pd
open PySem PySem.Spec L2
section
variable {G : Type} {X : Cx} {S : Gs G} {K : PySem.W.Frag}
def rSortD (K : PySem.W.Frag) : List V → Hp → VK → Prop := fun vs H Q => ∃ a xs ds, vs = [.ref a] ∧ SqL K H a xs ∧ DpAll K H xs ds ∧ PySem.W.AllAlike ds ∧ PySem.W.Sortable ds ∧ (∀ d ∈ ds, d.depth ≤ 60) ∧
  ∀ p, H p = none → Q (.ref p) (upd H p (.lst (((xs.zip ds).mergeSort (PySem.W.dataLe false Prod.snd)).map (·.1))))
theorem each_rel {xs : List V} {us : List Value} (h : Vals xs us) : ∀ {ds : List D}, ds.length = xs.length → PySem.W.EachIs (fun (v : Value) (b : V × D) => RelV b.1 v) us (xs.zip ds) := by
  induction h with
  | nil => intro ds _; exact .nil
  | cons r t ih =>
    intro ds hl
    cases ds with
    | nil => cases hl
    | cons d ds => exact .cons r (ih (by simpa using hl))
theorem each_reads {h : Heap} : ∀ {us : List Value} {ds : List D} {as : List Addr} {xs : List V}, ReadsAll h us ds as → xs.length = ds.length → PySem.W.EachIs (fun (v : Value) (b : V × D) => ∃ as, Reads h v b.2 as) us (xs.zip ds)
  | _, [], _, xs, r, hl => by
    cases r
    cases xs with
    | nil => exact .nil
    | cons _ _ => cases hl
  | _, d :: ds, _, xs, r, hl => by
    cases r with
    | cons r1 r2 =>
      cases xs with
      | nil => cases hl
      | cons x xs => exact .cons ⟨_, r1⟩ (each_reads r2 (by simpa using hl))
theorem vals_each {us : List Value} {bs : List (V × D)} (h : PySem.W.EachIs (fun (v : Value) (b : V × D) => RelV b.1 v) us bs) : Vals (bs.map (·.1)) us := by
  induction h with
  | nil => exact .nil
  | cons r _ ih => exact .cons r ih
theorem cr_sortD (hu : X.A.units + 65 < cLine) : CallR X (.builtin "sorted") (rSortD X.K) := by
  intro pins s σ H vs us Q I r h
  obtain ⟨a, xs, ds, rfl, hs, hd, hal, hso, hde, q⟩ := h
  obtain ⟨its, rv, hl, hz⟩ := I.list hs
  obtain ⟨u, rfl, ru⟩ := vals1 r
  obtain rfl : u = Value.ref a := ru
  obtain ⟨as, rd⟩ := Dp.readsAll I ds xs its hd rv
  have hlen : ∀ {vs : List V} {ds : List D}, DpAll X.K H vs ds → ds.length = vs.length := fun {vs ds} h => by
    induction vs generalizing ds with
    | nil => cases h; rfl
    | cons v vs ih => cases h with | cons h1 h2 => rw [List.length_cons, List.length_cons, ih h2]
  have hl2 := hlen hd
  have em : (xs.zip ds).map Prod.snd = ds := List.map_snd_zip (by omega)
  refine PySem.W.sorted_data (vs := its) (bs := xs.zip ds) (enc := Prod.snd) (R := fun v b => RelV b.1 v) hl.isList (each_rel rv hl2) (each_reads rd hl2.symm) (by rw [em]; exact hal) (by rw [em]; exact hso) (by rw [List.length_zip]; omega) (fun b hb => ?_) fun out ho eo => ?_
  · have := hde b.2 (by rw [← em]; exact List.mem_map.mpr ⟨b, hb, rfl⟩)
    omega
  · obtain ⟨n, hn⟩ := PyProof.Rows.sortedAll_at s.heap its out.toArray
    refine ⟨.ref (s.heap.objs.size + 1), upd H _ (.lst _), I.laid (t' := s.toks) (fun b o e => PyProof.Rows.sortedAll_old e) (Nat.le_succ _) ⟨?_, out, n, vals_each eo, hn⟩, rfl, q _ (I.hok.fresh (Nat.le_succ _))⟩
    rw [List.length_map, (List.mergeSort_perm _ _).length_eq, List.length_zip]; omega
/-- the premises, as tests -/
def alikeB (ds : List D) : Bool := ds.all fun d => ds.all fun d' => PySem.W.alike d d'
def isTupNe : D → Bool
  | .tuple (_ :: _) => true
  | _ => false
def notTup : D → Bool
  | .tuple _ => false
  | .none => false
  | _ => true
def dSorted : List D → Option (List D)
  | [.list ds] => if alikeB ds = true ∧ ((ds.all isTupNe) = true ∨ (ds.all notTup) = true) ∧ (ds.all fun d => decide (d.depth ≤ 60)) = true then some (ds.mergeSort (PySem.W.dataLe false id)) else none
  | _ => none
theorem alikeB_of {ds : List D} (h : alikeB ds = true) : PySem.W.AllAlike ds := fun d hd d' hd' => List.all_eq_true.mp (List.all_eq_true.mp h d hd) d' hd'
theorem sortable_of {ds : List D} (h : (ds.all isTupNe) = true ∨ (ds.all notTup) = true) : PySem.W.Sortable ds := by
  rcases h with h | h
  · refine .inl fun d hd => ?_
    have := List.all_eq_true.mp h d hd
    cases d with
    | tuple xs =>
      cases xs with
      | nil => cases this
      | cons x r => exact ⟨x, r, rfl⟩
    | _ => cases this
  · refine .inr fun d hd => ?_
    have := List.all_eq_true.mp h d hd
    constructor
    · rintro rfl; cases this
    · rintro xs rfl; cases this
theorem RpA.zip_map {I : Hp} {xs : List V} {ds : List D} (h : RpA K I xs ds) : ∀ b ∈ xs.zip ds, Rp K I b.1 b.2 := by
  induction xs generalizing ds with
  | nil => intro b hb; rw [List.zip_nil_left] at hb; cases hb
  | cons x xs ih =>
    cases h with
    | cons h1 h2 =>
      intro b hb
      rw [List.zip_cons_cons] at hb
      rcases List.mem_cons.mp hb with e | e
      · rw [e]; exact h1
      · exact ih h2 b e
theorem rpa_pairs {I : Hp} : ∀ {bs : List (V × D)}, (∀ b ∈ bs, Rp K I b.1 b.2) → RpA K I (bs.map (·.1)) (bs.map (·.2))
  | [], _ => .nil
  | b :: bs, h => .cons (h b (by simp)) (rpa_pairs fun b' hb => h b' (List.mem_cons_of_mem _ hb))
theorem RpA.dpAll {I : Hp} : ∀ {xs : List V} {ds : List D}, RpA K I xs ds → DpAll K I xs ds
  | _, _, .nil => .nil
  | _, _, .cons a b => .cons a.dp b.dpAll
theorem cf_sorted : CallF K (rSortD K) dSorted := by
  intro I H xs ds zs s p hz Q k
  cases p with
  | nil => cases hz
  | cons a b =>
    cases b with
    | cons _ _ => cases a <;> cases hz
    | nil =>
      cases a with
      | lst hp ra hl =>
        rename_i p us es
        have hz : (if _ then _ else none) = some zs := hz
        split at hz
        · rename_i hc
          cases hz
          refine ⟨_, us, es, rfl, SqL.of (s _ _ hp), (ra.mono s).dpAll, alikeB_of hc.1, sortable_of hc.2.1, fun d hd => of_decide_eq_true (List.all_eq_true.mp hc.2.2 d hd), fun p h0 => ?_⟩
          have hlen := ra.len
          have em : (us.zip es).map Prod.snd = es := List.map_snd_zip (by omega)
          have e2 : es.mergeSort (PySem.W.dataLe false id) = ((us.zip es).mergeSort (PySem.W.dataLe false Prod.snd)).map (·.2) := by
            have := List.map_mergeSort (r := PySem.W.dataLe false (Prod.snd : V × D → D)) (s := PySem.W.dataLe false (id : D → D)) (f := Prod.snd) (l := us.zip es) fun _ _ _ _ => rfl
            rw [em] at this
            exact this.symm
          refine k p _ _ h0 (same_new h0) upd_same ?_ ?_
          · rw [e2]
            exact rpa_pairs fun b hb => RpA.zip_map ra b ((List.mergeSort_perm _ _).mem_iff.mp hb)
          · rw [(List.mergeSort_perm _ _).length_eq]; exact hl
        · cases hz
      | _ => cases hz
end
end Pd

/-! Pd: defs that call themselves; slices of tuples; is with truth values; index in a list; draws of the kind C. -/
namespace Pd
open PySem PySem.Spec L2
section
variable {G : Type} {X : Cx} {S : Gs G} {P : Program} {wd : World} {K : PySem.W.Frag} {mg : Str → Option Value} {base : Heap} {a b c e : Expr} {es : List Expr} {pos : Pos} {ma mb me : ME G} {ml : ML G}
variable {w : Wd} {env env' : Env} {g g' g1 g2 g3 : G} {σ : St} {H H' I' : Hp}
/-! ### a def whose promise promises nothing (no fuel is left) -/
theorem def_no {x qual : Str} {st : Stmt} {N ps : List Str} {k : Nat} {sp : Sp} (h : Dfn K mg x qual st ps) (Sc : FnScope N ps (defScope st)) (hn : ∀ vs H Q E, ¬ sp vs H Q E) : Def1 P wd K mg base x ps (k + 1) sp := by
  obtain ⟨f, fd, F, hm, hB⟩ := h.ex
  exact ⟨f, fd, F.ok Sc (fun vs H Q E q => (hn _ _ _ _ q).elim) (fun cdv A outer s H vs Q E hr q => (hn _ _ _ _ q).elim), hm, F.kp, hB⟩
theorem spP_no (vs : List V) (H : Hp) (Q : VK) (E : XK) : ¬ spP K (fun _ => none) vs H Q E := fun ⟨_, _, _, _, _, e, _⟩ => by cases e
theorem spN_no (vs : List V) (H : Hp) (Q : VK) (E : XK) : ¬ spN K (fun _ => none) vs H Q E := fun ⟨_, _, _, _, _, e, _⟩ => by cases e
theorem spG_no (vs : List V) (H : Hp) (Q : VK) (E : XK) : ¬ spG K S (fun _ _ => none) vs H Q E := fun ⟨_, _, _, _, _, _, _, _, _, e, _⟩ => by cases e
/-! ### a tuple's slice -/
def partT {α : Type} (xs : List α) (lo hi : Option Int) : Bool := !(decide (HT.sIx xs.length 0 lo = 0) && decide (HT.sIx xs.length xs.length hi = xs.length))
def mSlT (ma : ME G) (lo hi : MO G) : ME G := fun env g => bD (ma env g) fun x g1 => bD (lo env g1) fun l g2 => bD (hi env g2) fun h g3 => match x with
  | .tuple ds => if partT ds l h = true then some (.tuple (cut ds l h), g3) else none
  | _ => none
theorem de_sliceT {lo hi : Option Expr} {ml mh : MO G} {p2 : Pos} (ha : DE X S a ma) (hl : DO X S lo ml) (hh : DO X S hi mh) : DE X S (.Subscript a (.Slice lo hi none p2) pos) (mSlT ma ml mh) := PE.imp (pe_slice sl_tup ha hl.po hh.po) fun σ H Q q => by
  obtain ⟨w, env, g, d, g', R, e, k⟩ := q
  obtain ⟨x, g1, e1, e⟩ := bD_some e
  obtain ⟨l, g2, e2, e⟩ := bD_some e
  obtain ⟨h, g3, e3, e⟩ := bD_some e
  cases x with
  | tuple ds =>
    have e : (if partT ds l h = true then some (PyData.tuple (cut ds l h), g3) else none) = some (d, g') := e
    split at e
    · rename_i hw
      cases e
      refine ⟨w, env, g, _, g1, R, e1, fun v I1 H1 s1 R1 p1 => ⟨w.im I1, env, g1, l, g2, R1, e2, fun I2 H2 s2 R2 => ⟨w.im I2, env, g2, h, g', R2, e3, fun I3 H3 s3 R3 => ?_⟩⟩⟩
      cases p1 with
      | tup hp ra hz =>
        rename_i ad xs
        refine ⟨_, _, rfl, same_t R3.eI (same_t s3 (same_t s2 hp)), ?_, fun p h0 => ?_⟩
        · rw [ra.len]
          intro z
          unfold partT at hw
          rw [decide_eq_true z.1, decide_eq_true z.2] at hw
          cases hw
        · have n := R3.nob h0
          have R4 := (R3.alloc (o := .tup (cutV xs l h)) h0).freeze n upd_same
          refine k (.ref p) _ _ (s1.trans (s2.trans (s3.trans (same_new n.i)))) R4 ?_
          exact .tup (SqT.of upd_same) ((cut_rp (ra.mono (s2.trans s3)) l h).mono (same_new n.i)) (Nat.le_trans (cut_le ds l h) hz)
    · cases e
  | _ => cases e
theorem slT_e {lo hi : MO G} {xs : List D} {l h : Option Int} (ha : ma env g = some (.tuple xs, g1)) (hl : lo env g1 = some (l, g2)) (hh : hi env g2 = some (h, g3)) (hp : partT xs l h = true) : mSlT ma lo hi env g = some (.tuple (cut xs l h), g3) := by
  unfold mSlT
  rw [ha]; dsimp only [bD]; rw [hl]; dsimp only [bD]; rw [hh]; dsimp only [bD]; rw [if_pos hp]
/-! ### is True, is False -/
theorem op_isB : OpR X (compareOp .Is) (fun x y H Q => (∃ b, y = .bl b) ∧ Q (.bl (decide (x = y))) H) := by
  intro pins s σ H x y v u Q I rx ry h
  obtain ⟨⟨b, rfl⟩, q⟩ := h
  cases (show u = Value.bool b from ry)
  by_cases e : x = .bl b
  · subst e
    cases (show v = Value.bool b from rx)
    exact wpAny_is_self rfl ⟨.bl true, H, I, rfl, by simpa using q⟩
  · have q : Q (.bl false) H := by simpa [e] using q
    refine wpAny_is_other (a := v) (b := .bool b) ?_ (fun z => ?_) ⟨.bl false, H, I, rfl, q⟩
    · cases x <;> first | (cases rx; rfl) | (obtain ⟨t, rfl⟩ := rx; rfl)
    · subst z
      cases x <;> first | (cases rx; done) | (obtain ⟨t, z⟩ := rx; cases z; done) | skip
      cases (show Value.bool b = Value.bool _ from rx)
      exact e rfl
theorem op_isNB : OpR X (compareOp .IsNot) (fun x y H Q => (∃ b, y = .bl b) ∧ Q (.bl (!decide (x = y))) H) := by
  intro pins s σ H x y v u Q I rx ry h
  obtain ⟨⟨b, rfl⟩, q⟩ := h
  cases (show u = Value.bool b from ry)
  by_cases e : x = .bl b
  · subst e
    cases (show v = Value.bool b from rx)
    exact wpAny_isNot_self rfl ⟨.bl false, H, I, rfl, by simpa using q⟩
  · have q : Q (.bl true) H := by simpa [e] using q
    refine wpAny_isNot_other (a := v) (b := .bool b) ?_ (fun z => ?_) ⟨.bl true, H, I, rfl, q⟩
    · cases x <;> first | (cases rx; rfl) | (obtain ⟨t, rfl⟩ := rx; rfl)
    · subst z
      cases x <;> first | (cases rx; done) | (obtain ⟨t, z⟩ := rx; cases z; done) | skip
      cases (show Value.bool b = Value.bool _ from rx)
      exact e rfl
def isBd (b : Bool) : D → Bool
  | .bool c => c == b
  | _ => false
def dIsB : D → D → Option D
  | x, .bool b => some (.bool (isBd b x))
  | _, _ => none
def dIsNB : D → D → Option D
  | x, .bool b => some (.bool (!isBd b x))
  | _, _ => none
theorem isBd_rp {I : Hp} {v : V} {d : D} {b : Bool} (h : Rp K I v d) : decide (v = .bl b) = isBd b d := by
  cases h with
  | bl c => cases b <;> cases c <;> rfl
  | _ => simp [isBd]
theorem od_isB : OpD K (fun x y H Q => (∃ b, y = .bl b) ∧ Q (.bl (decide (x = y))) H) dIsB := by
  intro I H x y d e z s p q hz Q k
  cases q with
  | bl b => cases hz; exact ⟨⟨b, rfl⟩, by rw [isBd_rp p]; exact k _ I H (Pst.refl s) (.bl _)⟩
  | _ => cases hz
theorem od_isNB : OpD K (fun x y H Q => (∃ b, y = .bl b) ∧ Q (.bl (!decide (x = y))) H) dIsNB := by
  intro I H x y d e z s p q hz Q k
  cases q with
  | bl b => cases hz; exact ⟨⟨b, rfl⟩, by rw [isBd_rp p]; exact k _ I H (Pst.refl s) (.bl _)⟩
  | _ => cases hz
/-! ### xs.index(x), xs a list of data -/
def dIndexL : D → D → Option D
  | .list ds, d => if d.depth ≤ 64 ∧ (PyData.list ds).depth ≤ 64 then (ds.findIdx? fun z => PyData.eqv z d).map fun (j : Nat) => PyData.int (j : Int) else none
  | _, _ => none
theorem find_at {p : D → Bool} : ∀ {ds : List D} {j : Nat}, ds.findIdx? p = some j → (∃ z, ds[j]? = some z ∧ p z = true) ∧ ∀ (m : Nat) (z : D), m < j → ds[m]? = some z → p z = false := by
  intro ds j h
  obtain ⟨hl, hp, hn⟩ := List.findIdx?_eq_some_iff_getElem.mp h
  refine ⟨⟨_, List.getElem?_eq_getElem hl, hp⟩, fun m z hm hz => ?_⟩
  have := hn m hm
  obtain ⟨h1, h2⟩ := List.getElem?_eq_some_iff.mp hz
  rw [h2] at this
  simpa using this
theorem de_indexL {ap : Pos} (hu : X.A.units + 65 < cLine) (ho : DE X S a ma) (he : DE X S e me)
    (hbase : attributeBase a "index" X.env (eval a X.env) = eval a X.env := by rfl)
    (hfew : ((backTo pos (starEach [e] X.env)).all (fun x => !x.1) && (backToKw pos (keywordEach [] X.env)).all (fun x => x.1.isSome)
      && decide ([e].length + ([] : List Keyword).length + (if ([] : List Keyword).isEmpty then 0 else 1) < 30)) = true := by rfl)
    (hline : (ap.endLine == pos.line) = true := by rfl) (hs : starEach [e] X.env = (false, eval e X.env) :: starEach [] X.env := by rfl) (hplain : (backTo pos (starEach [] X.env)).any (·.1) = false := by rfl) :
    DE X S (.Call (.Attribute a "index" ap) [e] [] pos) (mOp dIndexL ma me) :=
  PE.imp (pe_bm PySem.F.plainAttrs_list PySem.F.slot_list_index PySem.F.type_list_index (mt_indexD hu) ho (da_cons (S := S) he da_nil hs) hbase hfew hline hs hplain) fun σ H Q q => by
    obtain ⟨w, env, g, d, g', R, e, k⟩ := q
    obtain ⟨x, g1, e1, e⟩ := bD_some e
    obtain ⟨y, g2, e2, e⟩ := bD_some e
    obtain ⟨e3, rfl⟩ := map_some e
    refine ⟨w, env, g, x, g1, R, e1, fun v I1 H1 s1 R1 p1 => ?_⟩
    cases x with
    | list ds =>
      have e3 : (if y.depth ≤ 64 ∧ (PyData.list ds).depth ≤ 64 then (ds.findIdx? fun z => PyData.eqv z y).map fun (j : Nat) => PyData.int (j : Int) else none) = some d := e3
      split at e3
      · rename_i hc
        obtain ⟨j, ej, rfl⟩ := Option.map_eq_some_iff.mp e3
        obtain ⟨⟨z, hz, hzj⟩, hno⟩ := find_at ej
        cases p1 with
        | lst hp ra hl =>
          refine ⟨.inl ⟨rfl, _, SqL.of (R1.eI _ _ hp)⟩, w.im I1, env, g1, [y], g', R1, ?_, fun us I2 H2 s2 R2 rb => ?_⟩
          · show bD (me env g1) (fun x g1 => bD (mNil env g1) fun xs g2 => some (x :: xs, g2)) = some ([y], g')
            rw [e2]; rfl
          · cases rb with
            | cons r q =>
              cases q
              have pl : Rp X.K I2 _ (PyData.list ds) := .lst (s2 _ _ hp) (ra.mono s2) hl
              exact ⟨_, _, y, ds, j, z, rfl, rfl, (pl.mono R2.eI).dp, (r.mono R2.eI).dp, shaped_of pl hc.2, shaped_of r hc.1, hz, hzj, hno, k _ I2 H2 (s1.trans s2) R2 (.int _)⟩
      · cases e3
    | _ => cases e3
end
end Pd

/-! Pd: draws of the kind C: a list of two numbers, the script as it is. -/
namespace Pd
open PySem PySem.Spec L2
structure Dc where
  s : Addr
  c : Addr
  tr : Bool
  a : Int
  b : Int
  ns : List Int
/-- the script stands: known to the heap, or one of the text's own objects -/
def ScrOk (K : PySem.W.Frag) (g : Dc) (H : Hp) : Prop := if g.tr = true then Rd H g.c (.lst (g.ns.map V.int)) else ∀ H' : Hp, SqL K H' g.c (g.ns.map V.int)
def drC (K : PySem.W.Frag) : Gs Dc where
  fp := fun g x => x = g.s ∨ (x = g.c ∧ g.tr = true)
  ok := fun g H => H g.s = some (.lst [.int g.a, .int g.b]) ∧ (g.tr = true → g.s ≠ g.c) ∧ ScrOk K g H
  root := fun g => .ref g.s
  loc := fun {g H H'} h ⟨h1, h2, h3⟩ => ⟨(h _ (.inl rfl)).trans h1, h2, by
    unfold ScrOk at h3 ⊢
    by_cases z : g.tr = true
    · rw [if_pos z] at h3 ⊢
      unfold Rd at h3 ⊢
      rw [h _ (.inr ⟨rfl, z⟩)]
      exact h3
    · rw [if_neg z] at h3 ⊢
      exact h3⟩
  dom := fun {g H x} ⟨h1, h2, h3⟩ hx => by
    rcases hx with rfl | ⟨rfl, z⟩
    · rw [h1]; simp
    · unfold ScrOk at h3
      rw [if_pos z] at h3
      rcases h3 with h | ⟨o, h⟩ <;> rw [h] <;> simp
theorem ScrOk.sq {K : PySem.W.Frag} {g : Dc} {H : Hp} (h : ScrOk K g H) : SqL K H g.c (g.ns.map V.int) := by
  unfold ScrOk at h
  by_cases z : g.tr = true
  · rw [if_pos z] at h; exact .inl h
  · rw [if_neg z] at h; exact h H
section
variable {X : Cx} {P : Program} {wd : World} {K : PySem.W.Frag} {mg : Str → Option Value} {base : Heap} {a b c e : Expr} {es : List Expr} {pos : Pos} {ma mb me mi : ME Dc} {ml : ML Dc}
variable {w : Wd} {env env' : Env} {g g' g1 g2 g3 : Dc} {σ : St} {H H' I' : Hp}
theorem Rel.stA {j : Nat} (R : Rel K (drC K) w env g σ H) (e : env.at j = .st) : σ[j]? = some (some (.ref g.s)) := by
  have q := R.slot j
  rw [e] at q
  have q : σ[j]? = some (some w.rt) := q
  rw [q, ← R.grt]
  rfl
/-- the state behind a write -/
theorem drC_set {xa xb : Int} (R : Rel K (drC K) w env g σ H) : Rel K (drC K) w env { g with a := xa, b := xb } σ (upd H g.s (.lst [.int xa, .int xb])) := by
  have n0 : w.I g.s = none := R.fI g.s ((R.gfp g.s).mp (.inl rfl))
  have nH : w.H0 g.s = none := R.f0 g.s ((R.gfp g.s).mp (.inl rfl))
  obtain ⟨h1, h2, h3⟩ := R.gok
  exact {
    e0 := fun x o q => by rw [upd_ne fun z => by rw [z, nH] at q; cases q]; exact R.e0 x o q
    eI := fun x o q => by rw [upd_ne fun z => by rw [z, n0] at q; cases q]; exact R.eI x o q
    ag := R.ag
    ge := R.ge
    gfp := R.gfp
    grt := R.grt
    gok := ⟨upd_same, h2, by
      unfold ScrOk at h3 ⊢
      by_cases z : g.tr = true
      · have z' : ({ g with a := xa, b := xb } : Dc).tr = true := z
        rw [if_pos z] at h3
        rw [if_pos z']
        show Rd (upd H g.s _) g.c (.lst (g.ns.map V.int))
        unfold Rd at h3 ⊢
        rw [upd_ne (h2 z).symm]
        exact h3
      · have z' : ¬ ({ g with a := xa, b := xb } : Dc).tr = true := z
        rw [if_neg z] at h3
        rw [if_neg z']
        exact h3⟩
    fI := R.fI
    f0 := R.f0
    len := R.len
    slot := fun i => by
      have q := R.slot i
      cases e : env.at i with
      | un => trivial
      | sh d => rw [e] at q; exact q
      | kd d => rw [e] at q; exact q
      | st => rw [e] at q; exact q
      | raw v => rw [e] at q; exact q
      | ow ds =>
        rw [e] at q
        obtain ⟨p, vs, e1, hp, hi, h0, hf, r, hz⟩ := q
        refine ⟨p, vs, e1, ?_, hi, h0, hf, r, hz⟩
        rw [upd_ne fun z => hf (by rw [z]; exact (R.gfp g.s).mp (.inl rfl))]
        exact hp
    dis := R.dis }
/-- state[i] -/
def mStIx (j : Nat) (mi : ME Dc) : ME Dc := fun env g => bD (mi env g) fun i g1 => match env.at j, i with
  | .st, .int i => if i = 0 then some (.int g1.a, g1) else if i = 1 then some (.int g1.b, g1) else none
  | _, _ => none
theorem de_stIx (j : Nat) {x : Str} {xp : Pos} {i : Expr} {mi : ME Dc} (hi : DE X (drC X.K) i mi) (hN : X.N[j]? = some x := by rfl) (hv : Vis X.env.scope x := by first | exact Or.inl rfl | exact Or.inr (Or.inl rfl) | exact Or.inr (Or.inr rfl)) (hd : (x == ("__debug__" : Str)) = false := by decide)
    (hcd : (x == ("__classdict__" : Str)) = false := by decide) (hs : PlainIx i := by exact fun _ _ => rfl) : DE X (drC X.K) (.Subscript (.Name x xp) i pos) (mStIx j mi) := PE.imp (pe_ix ix_list (pe_var hN hv hd hcd) hi hs) fun σ H Q ⟨w, env, g, d, g', R, e, k⟩ => by
  obtain ⟨i, g1, e1, e⟩ := bD_some e
  split at e
  · rename_i _ i ej
    have sj := R.stA ej
    refine ⟨_, sj, w, env, g, _, g1, R, e1, fun u I2 H2 s2 R2 p2 => ?_⟩
    cases p2
    have sj2 := R2.stA ej
    rw [sj] at sj2
    have eg : g.s = g1.s := by injection sj2 with z; injection z with z; injection z
    by_cases h0 : i = 0
    · rw [if_pos h0] at e
      cases e
      subst h0
      exact ⟨_, _, 0, _, rfl, rfl, by rw [eg]; exact SqL.of R2.gok.1, rfl, k _ I2 H2 s2 R2 (.int _)⟩
    · rw [if_neg h0] at e
      by_cases h1 : i = 1
      · rw [if_pos h1] at e
        cases e
        subst h1
        exact ⟨_, _, 1, _, rfl, rfl, by rw [eg]; exact SqL.of R2.gok.1, rfl, k _ I2 H2 s2 R2 (.int _)⟩
      · rw [if_neg h1] at e
        cases e
  · cases e
/-- state[i] = e -/
def mStSet (j : Nat) (mi me : ME Dc) : MS Dc := fun env g => bD (me env g) fun d g1 => bD (mi env g1) fun i g2 => match env.at j, i, d with
  | .st, .int i, .int v => if i = 0 then some (.nx, env, { g2 with a := v }) else if i = 1 then some (.nx, env, { g2 with b := v }) else none
  | _, _, _ => none
theorem ts_stSet {j : Nat} {D : Ends} (h : tS K (drC K) (mStSet j mi me) D σ H) : tAsg (tE K (drC K) me) (gSub (tVar j) (tE K (drC K) mi) rSetL) D σ H := by
  obtain ⟨w, env, g, c, env', g', R, e, k⟩ := h
  obtain ⟨d, g1, e1, e⟩ := bD_some e
  obtain ⟨i, g2, e2, e⟩ := bD_some e
  cases ej : env.at j with
  | st =>
    rw [ej] at e
    cases i with
    | int i =>
      cases d with
      | int v =>
        refine ⟨w, env, g, _, g1, R, e1, fun u I1 H1 s1 R1 p1 => ?_⟩
        cases p1
        have sj := R1.stA ej
        refine ⟨_, sj, w.im I1, env, g1, _, g2, R1, e2, fun u I2 H2 s2 R2 p2 => ?_⟩
        cases p2
        have sj2 := R2.stA ej
        rw [sj] at sj2
        have eg : g1.s = g2.s := by injection sj2 with z; injection z with z; injection z
        have e : (if i = 0 then some (Ct.nx, env, { g2 with a := v }) else if i = 1 then some (Ct.nx, env, { g2 with b := v }) else none) = some (c, env', g') := e
        by_cases h0 : i = 0
        · rw [if_pos h0] at e
          cases e
          subst h0
          refine ⟨_, _, 0, 0, rfl, rfl, by rw [eg]; exact R2.gok.1, rfl, ?_⟩
          rw [eg]
          exact k σ I2 _ (s1.trans s2) (drC_set R2)
        · rw [if_neg h0] at e
          by_cases h1 : i = 1
          · rw [if_pos h1] at e
            cases e
            subst h1
            refine ⟨_, _, 1, 1, rfl, rfl, by rw [eg]; exact R2.gok.1, rfl, ?_⟩
            rw [eg]
            exact k σ I2 _ (s1.trans s2) (drC_set R2)
          · rw [if_neg h1] at e
            cases e
      | _ => cases e
    | _ => cases e
  | _ => rw [ej] at e; cases e
theorem ds_stSet (j : Nat) {x : Str} {xp sp : Pos} {i : Expr} {mi : ME Dc} (hi : DE X (drC X.K) i mi) (he : DE X (drC X.K) e me) (hN : X.N[j]? = some x := by rfl) (hv : Vis X.env.scope x := by first | exact Or.inl rfl | exact Or.inr (Or.inl rfl) | exact Or.inr (Or.inr rfl)) (hd : (x == ("__debug__" : Str)) = false := by decide)
    (hcd : (x == ("__classdict__" : Str)) = false := by decide)
    (ha : ∀ v, assign (.Subscript (.Name x xp) i sp) X.env v = (do
      let ov ← holding [v] (eval (.Name x xp) X.env)
      let iv ← holding [v, ov] (eval i X.env)
      standAt sp
      holding [v, ov, iv] (setItem ov iv v)
      release [v, ov, iv] []) := by intro _; rfl)
    (hs : swapsWithSole [.Subscript (.Name x xp) i sp] e pos.line X.env = pure false := by rfl) (hw : swappedStores [.Subscript (.Name x xp) i sp] e X.env = pure none := by rfl)
    (h1 : (assignEach [.Subscript (.Name x xp) i sp] X.env).map (·.2) = [assign (.Subscript (.Name x xp) i sp) X.env] := by rfl) :
    DS X (drC X.K) (.Assign [.Subscript (.Name x xp) i sp] e pos) (mStSet j mi me) := PS.imp (ps_asg he (pg_sub (pe_var hN hv hd hcd) hi set_list ha) hs hw h1) fun _ _ _ h => ts_stSet h
/-- script[i], len(script) -/
def mRawIx (j : Nat) (mi : ME Dc) : ME Dc := fun env g => bD (mi env g) fun i g1 => match env.at j, i with
  | .raw (.ref p), .int i => if p = g1.c then (atI g1.ns i).map fun v => (.int v, g1) else none
  | _, _ => none
theorem Rel.rawA {j : Nat} {v : V} (R : Rel K (drC K) w env g σ H) (e : env.at j = .raw v) : σ[j]? = some (some v) := by
  have q := R.slot j
  rw [e] at q
  exact q
theorem atI_map {ns : List Int} {i v : Int} (h : atI ns i = some v) : atI (ns.map V.int) i = some (.int v) := by
  unfold atI at h ⊢
  rw [List.length_map]
  obtain ⟨j, h1, h2⟩ := Option.bind_eq_some_iff.mp h
  rw [h1]
  show (ns.map V.int)[j]? = _
  rw [List.getElem?_map, h2]
  rfl
theorem de_rawIx (j : Nat) {x : Str} {xp : Pos} {i : Expr} {mi : ME Dc} (hi : DE X (drC X.K) i mi) (hN : X.N[j]? = some x := by rfl) (hv : Vis X.env.scope x := by first | exact Or.inl rfl | exact Or.inr (Or.inl rfl) | exact Or.inr (Or.inr rfl)) (hd : (x == ("__debug__" : Str)) = false := by decide)
    (hcd : (x == ("__classdict__" : Str)) = false := by decide) (hs : PlainIx i := by exact fun _ _ => rfl) : DE X (drC X.K) (.Subscript (.Name x xp) i pos) (mRawIx j mi) := PE.imp (pe_ix ix_list (pe_var hN hv hd hcd) hi hs) fun σ H Q ⟨w, env, g, d, g', R, e, k⟩ => by
  obtain ⟨i, g1, e1, e⟩ := bD_some e
  split at e
  · rename_i _ p i ej
    split at e
    · rename_i hp
      obtain ⟨v, e3, e⟩ := Option.map_eq_some_iff.mp e
      cases e
      refine ⟨_, R.rawA ej, w, env, g, _, g', R, e1, fun u I2 H2 s2 R2 p2 => ?_⟩
      cases p2
      exact ⟨p, _, i, _, rfl, rfl, by rw [hp]; exact ScrOk.sq R2.gok.2.2, atI_map e3, k _ I2 H2 s2 R2 (.int _)⟩
    · cases e
  · cases e
def mRawLen (j : Nat) : ME Dc := fun env g => match env.at j with
  | .raw (.ref p) => if p = g.c then some (.int g.ns.length, g) else none
  | _ => none
theorem de_rawLen (j : Nat) {x : Str} {xp p : Pos} (hg : Gl X "len") (hm : X.mg "len" = none) (hN : X.N[j]? = some x := by rfl) (hv : Vis X.env.scope x := by first | exact Or.inl rfl | exact Or.inr (Or.inl rfl) | exact Or.inr (Or.inr rfl)) (hd : (x == ("__debug__" : Str)) = false := by decide)
    (hcd : (x == ("__classdict__" : Str)) = false := by decide) (hs : starEach [.Name x xp] X.env = (false, eval (.Name x xp) X.env) :: starEach [] X.env := by rfl) (hpl : (backTo pos (starEach [] X.env)).any (·.1) = false := by rfl) :
    DE X (drC X.K) (.Call (.Name "len" p) [.Name x xp] [] pos) (mRawLen j) := PE.imp (pe_callB call_len_seq hg hm PySem.boot_len (pa_cons (pe_var hN hv hd hcd) pa_nil hs)) fun σ H Q ⟨w, env, g, d, g', R, e, k⟩ => by
  unfold mRawLen at e
  split at e
  · rename_i p ej
    split at e
    · rename_i hp
      cases e
      refine ⟨_, R.rawA ej, ?_⟩
      refine ⟨p, _, rfl, .inl (by rw [hp]; exact ScrOk.sq R.gok.2.2), ?_⟩
      rw [List.length_map]
      exact k _ w.I H (Same.refl _) R (.int _)
    · cases e
  · cases e
end
end Pd

/-! Pd: a law whose frame knows that no text is being made of anything (for repr of data). -/
namespace Pd
open PySem PySem.Spec L2
/-- a def's run in one surrounding that is known -/
theorem run_at {CX : CXT} {P : Program} {wd : World} {K : PySem.W.Frag} {mg : Str → Option Value} {base : Heap} {k : Nat} {f : Addr} {nm qual : Str} {pars : Arguments} {bd : List Stmt} {sc : Scope} {dV kV doc pm cdv ct oc : Value} {an od : Option Addr}
    {osl : Array (Option Value)} {N ps : List Str} (lk : K.lookup f = some ⟨oc, od, .func (PySem.W.fnOf nm qual pars bd sc dV kV doc pm an cdv ct), osl⟩) (hc : PySem.W.codeIn K cdv qual = true) (Sc : FnScope N ps sc)
    {A : Around} {fr : List PySem.Env} {s0 : Shared} {H0 : Hp} {args : Args} {us : List Value} {vs : List V} {Q : VK} {E : XK} (hroom : Room (k + 1) A) (e0 : Env0 P wd K mg base A fr s0 H0)
    (bnd : BindsTo s0 (PySem.W.fnOf nm qual pars bd sc dV kV doc pm an cdv ct) args (ps.zip us)) (rv : Vals vs us) (len : vs.length = ps.length)
    (hb : ∃ t, PSs (cxOf CX P wd K mg base N qual sc f cdv A fr s0 H0 E) bd t ∧ t { nx := fun _ H1 => Q .non H1, rt := Q } (start N vs) H0) :
    codeAny (model P wd) A (.call (.ref f) args) (CR CX fr P wd H0 s0 Q E) s0 := by
  have inK : K.In s0.heap := e0.mod.kin.keeps fun x u q => And.left (e0.bs x u q)
  have noL : s0.heap.NoLimit := e0.mod.nolimit.keeps fun x u q => And.left (e0.bs x u q)
  have kinds : ∀ p ∈ ps.zip us, sc.names.lookup p.1 = some .local ∨ (sc.names.lookup p.1 = some .cell ∧ ((cellsFrom (s0.heap.objs.size + 1) sc.names []).lookup p.1).isSome = true) := by
    rintro ⟨n, v⟩ hp
    cases Sc.par n (List.of_mem_zip hp).1 with
    | inl q => exact .inl q
    | inr q => exact .inr ⟨q, PySem.W.cellsFrom_some _ _ _ (.inl q)⟩
  apply codeAny_call_function hroom.depth (inK _ _ lk) rfl Sc.co Sc.gen rfl (PySem.W.codeRec_of inK hc)
  apply bnd
  apply wpAny_newFunctionEnv_cells Sc.kind kinds
  intro env he s1 x
  subst he
  obtain ⟨t, ht, hq⟩ := hb
  have I : Inv (cxOf CX P wd K mg base N qual sc f cdv A fr s0 H0 E) [] (start N vs) H0 s1 := inv_start Sc hroom.hd e0 len rv x
  have done : ∀ {σ1 : St} {H1 : Hp} {v : V} {u : Value} {s2 : Shared}, Inv (cxOf CX P wd K mg base N qual sc f cdv A fr s0 H0 E) [] σ1 H1 s2 → RelV v u → Q v H1 → CE fr P wd H0 s0 Q u s2 := by
    intro σ1 H1 v u s2 J rw_ q
    exact ⟨v, H1, J.os, J.bare, J.base, J.hok, rw_, q⟩
  refine ⟨noL.keeps x.toInCall.keep, codeAny_func (wpAny_mono (ht.run [] s1 (start N vs) H0 _ I hq) ?_ fun _ _ z => z)⟩
  intro fl s2 z
  cases fl with
  | brk => obtain ⟨_, _, _, q⟩ := z; exact q.elim
  | cont => obtain ⟨_, _, _, q⟩ := z; exact q.elim
  | next => obtain ⟨_, _, J, q⟩ := z; exact done (v := V.non) (u := Value.none) J rfl q
  | ret u => obtain ⟨_, _, _, J, r1, q⟩ := z; exact done J r1 q
/-- what a heap must be at the law's call: it knows of the script at most -/
structure Bare1 (P : Program) (wd : World) (K : PySem.W.Frag) (a : Addr) (ns : List Int) (h : Heap) (H : Hp) : Prop where
  one : ∀ x u, H x = some u → x = a ∧ K.lookup a = none ∧ ∃ o xs, u = .frz o (.lst xs)
  scr : SqL K H a (ns.map V.int)
  ok : HOk P wd H h
theorem Bare1.free {P : Program} {wd : World} {K : PySem.W.Frag} {a x : Addr} {ns : List Int} {h : Heap} {H : Hp} (B : Bare1 P wd K a ns h H) (hx : x = a → K.lookup a ≠ none) : H x = none := by
  cases q : H x with
  | none => rfl
  | some u => exact absurd (B.one x u q).2.1 (hx (B.one x u q).1)
/-- the two heaps: the script is an object of the text, or one that the heap knows -/
theorem bare_ex {P : Program} {wd : World} {K : PySem.W.Frag} {a : Addr} {vs : List Value} {ns : List Int} {h : Heap} (KX : K.In h) (ho : h.get? a = some { cls := .type "list", data := .seq vs.toArray }) (hi : PyProof.Rows.IntsAre vs ns) (hl : ns.length ≤ sizeLine) : ∃ H, Bare1 P wd K a ns h H := by
  have ev := vals_ints hi
  have el := hi.length
  cases hk : K.lookup a with
  | some o =>
    have e : h.get? a = some o := KX a o hk
    cases ho.symm.trans e
    refine ⟨fun _ => none, ⟨fun x u z => (nomatch (show (none : Option HO) = some u from z)), .inr ⟨_, vs.toArray, _, hk, rfl, rfl, rfl, ?_, ?_⟩, fun x u z => (nomatch (show (none : Option HO) = some u from z))⟩⟩
    · rw [List.size_toArray]; omega
    · simpa using ev
  | none =>
    refine ⟨fun x => if x = a then some (.frz { cls := .type "list", data := .seq vs.toArray } (.lst (ns.map V.int))) else none, ⟨fun x u z => ?_, .inl (.inr ⟨_, if_pos rfl⟩), fun x u z => ?_⟩⟩
    · split at z
      · rename_i q; cases z; exact ⟨q, hk, _, _, rfl⟩
      · cases z
    · split at z
      · rename_i q
        cases z
        subst q
        exact ⟨ho, by rw [List.length_map]; exact hl, vs, _, ev, ho⟩
      · cases z
theorem law_at {P : Program} {wd : World} {K : PySem.W.Frag} {mg mb : Str → Option Value} {fa a : Addr} {s1 : Shared} {vs : List Value} {ns : List Int}
    (KX : K.In s1.heap) (hns : s1.heap.Ns mainGlobals mg) (hb : s1.heap.Ns builtinsNs mb) (hbb : ∀ x : Str, x ≠ "__name__" → mb x = bootBuiltins x) (hlim : s1.heap.NoLimit) (hg : s1.gens = #[])
    (ho : s1.heap.get? a = some { cls := .type "list", data := .seq vs.toArray }) (hi : PyProof.Rows.IntsAre vs ns) (hl : ns.length ≤ sizeLine)
    (run : ∀ (base : Heap) (H : Hp), SqL K H a (ns.map V.int) → Env0 P wd K mg base callerA [] s1 H → codeAny (model P wd) callerA (.call (.ref fa) ⟨[.ref a], []⟩) (CR CX0 [] P wd H s1 (fun v _ => v = .bl true) fun _ _ _ => False) s1) :
    codeAny (model P wd) callerA (.call (.ref fa) ⟨[.ref a], []⟩) (fun r s' => r = .ok (.ret (.bool true)) ∧ OldK s1.heap s'.heap ∧ s'.os = s1.os ∧ PyProof.Rows.AllBare s'.gens) s1 := by
  obtain ⟨H, B⟩ := bare_ex (P := P) (wd := wd) KX ho hi hl
  have keepD : ∀ {x : Addr} {o : Obj} {es : Array DictEntry} {ep : Nat}, s1.heap.get? x = some o → o.data = .dict es ep → (hidT s1.heap H).get? x = some o := by
    intro x o es ep e d
    refine hidT_get e ?_
    cases q : H x with
    | none => rfl
    | some u =>
      obtain ⟨rfl, _⟩ := B.one x u q
      rw [ho] at e
      cases e
      exact nomatch (show Data.seq vs.toArray _ = Data.dict es ep from d)
  have keepN : ∀ {x : Addr} {m : Str → Option Value}, s1.heap.Ns x m → (hidT s1.heap H).Ns x m := by
    rintro x m ⟨o, es, ep, e, d, r⟩
    exact ⟨o, es, ep, keepD e d, d, r⟩
  have inB : K.In (hidT s1.heap H) := by
    intro x o e
    refine hidT_get (KX x o e) (B.free fun z => ?_)
    subst z
    rw [e]
    exact fun z => nomatch z
  obtain ⟨mc, l1, l2⟩ := hlim
  have M : Mod K mg (hidT s1.heap H) := ⟨inB, keepN hns, ⟨mb, keepN hb, hbb⟩, ⟨mc, keepN l1, l2⟩⟩
  have nil_ : ∀ {x : Addr}, x ∉ ([] : List Addr) := by simp
  have e0 : Env0 P wd K mg (hidT s1.heap H) callerA [] s1 H := {
    frames := rfl
    mod := M
    bs := fun x o e => of_hidT e
    bsz := Nat.le_of_eq (hidT_size _ _)
    funs := trivial
    frf := fun x z => absurd z nil_
    hok := B.ok
    bare := .of_eq hg }
  refine codeAny_mono (run _ H B.scr e0) ?_
  rintro (e | fl) s2 z
  · exact (show False from z).elim
  · cases fl with
    | next => exact z.elim
    | brk => exact z.elim
    | cont => exact z.elim
    | ret u =>
      obtain ⟨v, H2, os, bare, un, ok2, r2, q⟩ := z
      have q : v = V.bl true := q
      subst q
      have eu : u = Value.bool true := r2
      subst eu
      refine ⟨rfl, OldK.of_keep fun x o e => ?_, os, bare⟩
      cases q : H x with
      | none => exact un.keep x o e q (fun z => nil_ z) (by simp)
      | some u =>
        obtain ⟨_, _, ob, xs, rfl⟩ := B.one x u q
        have f2 := un.frzs x ob _ q
        obtain ⟨w1, _⟩ := B.ok x _ q
        obtain ⟨w2, _⟩ := ok2 x _ f2
        rw [w1] at e
        cases e
        exact w2
/-- a row from the law's run where nothing is being shown -/
theorem walk_at {l : PySem.W.OpenLaw} {n : Nat} {q : Program} {loose : List Str} {XP : (Str → Option Value) → Heap → Prop} {YP : World → Heap → Prop} {d : DefRec} {K : Params → PySem.W.Frag}
    (hn : l.most = some n) (hn2 : n ≤ sizeLine) (hdf : d.params.defaults = []) (hY : ∀ (w : World) (h : Heap), YP w h → (K w.params).In h)
    (F : ∀ (w : World) (mg : Str → Option Value) (fa : Addr) (h : Heap), (K w.params).In h → h.Ns mainGlobals mg → mg d.name = some (.ref fa) →
      ∀ (base : Heap) (H : Hp) (s1 : Shared) (a : Addr) (ns : List Int), ns.length ≤ n → SqL (K w.params) H a (ns.map V.int) → Env0 l.prog w (K w.params) mg base callerA [] s1 H →
        codeAny (model l.prog w) callerA (.call (.ref fa) ⟨[.ref a], []⟩) (CR CX0 [] l.prog w H s1 (fun v _ => v = .bl true) fun _ _ _ => False) s1) :
    PySem.W.WalkO q loose XP YP l.row.toRowW d [] (fun f vs => PySem.call f vs) := by
  apply Att.attach_call hn hdf
  intro w s0 s1 mg mb fa o pm cd doc a vs ns G Y _ _ _ hmg hobj hi hlen hg
  have inK := hY w _ Y
  exact law_at inK G.T.g G.T.b G.T.builtins G.T.nolimit hg hobj hi (Nat.le_trans hlen hn2) fun base H hS e0 => F w mg fa _ inK G.T.g hmg base H s1 a ns hlen hS e0
end Pd

/-! Pd: repr of data; the law's start with draws of the kind C. -/
namespace Pd
open PySem PySem.Spec L2
/-! ### the signs of what repr tells -/
def Cps (x : Str) : Prop := ∀ c ∈ x.cps.toList, c < 0x110000
theorem cps_iff {x : Str} : PyData.canLay0 (.str x) = true ↔ Cps x := by
  simp only [PyData.canLay0]
  unfold PyData.strOk Cps
  rw [← Array.all_toList, List.all_eq_true]
  simp only [decide_eq_true_eq]
theorem cps_of (s : String) : Cps (Str.ofString s) := by
  intro c hc
  rw [Str.ofString_eq_toList] at hc
  obtain ⟨k, _, rfl⟩ := List.mem_map.mp (show c ∈ s.toList.map Char.toNat from hc)
  have := k.valid
  rcases this with h | h
  · exact Nat.lt_trans h (by decide)
  · exact h.2
theorem cps_app {x y : Str} (hx : Cps x) (hy : Cps y) : Cps (x ++ y) := by
  intro c hc
  have hc : c ∈ (x.cps ++ y.cps).toList := hc
  rw [Array.toList_append] at hc
  rcases List.mem_append.mp hc with h | h
  · exact hx c h
  · exact hy c h
theorem cps_from : ∀ (ts : List Str) (k : Nat) (acc : Str), Cps acc → (∀ t ∈ ts, Cps t) → Cps (textFrom k acc ts)
  | [], _, _, h, _ => h
  | t :: ts, k, acc, h, ht => cps_from ts (k + 1) _ (cps_app (cps_app h (cps_of _)) (ht t (List.mem_cons_self ..))) fun u hu => ht u (List.mem_cons_of_mem _ hu)
theorem cps_list {ts : List Str} (ht : ∀ t ∈ ts, Cps t) : Cps (listText ts) := cps_app (cps_from ts 0 _ (cps_of _) ht) (cps_of _)
theorem cps_join : ∀ {ts : List Str}, (∀ t ∈ ts, Cps t) → Cps (Str.join ", " ts)
  | [], _ => cps_of ""
  | [x], h => h x (List.mem_singleton_self _)
  | x :: y :: r, h => by
    show Cps (x ++ ", " ++ Str.join ", " (y :: r))
    exact cps_app (cps_app (h x (List.mem_cons_self ..)) (cps_of _)) (cps_join fun t ht => h t (List.mem_cons_of_mem _ ht))
theorem cps_tuple {ts : List Str} (ht : ∀ t ∈ ts, Cps t) : Cps (tupleText ts) := cps_app (cps_app (cps_of _) (cps_join ht)) (cps_of _)
theorem cps_char {q c : Nat} (hq : q < 0x110000) (hc : c < 0x110000) : ∀ z ∈ Builtin.Str.reprChar q c, z < 0x110000 := by
  have hex : ∀ wd z : Nat, z ∈ List.replicate (wd - ((Nat.toDigits 16 c).map Char.toNat).length) 48 ++ (Nat.toDigits 16 c).map Char.toNat → z < 0x110000 := by
    intro wd z hz
    rcases List.mem_append.mp hz with h | h
    · rw [(List.mem_replicate.mp h).2]; decide
    · obtain ⟨k, _, rfl⟩ := List.mem_map.mp h
      rcases k.valid with h | h
      · exact Nat.lt_trans h (by decide)
      · exact h.2
  intro z hz
  unfold Builtin.Str.reprChar at hz
  simp only at hz
  split at hz
  · simp only [List.mem_cons, List.not_mem_nil, or_false] at hz; rcases hz with rfl | rfl <;> omega
  · split at hz
    · simp only [List.mem_cons, List.not_mem_nil, or_false] at hz; omega
    · split at hz
      · simp only [List.mem_cons, List.not_mem_nil, or_false] at hz; omega
      · split at hz
        · simp only [List.mem_cons, List.not_mem_nil, or_false] at hz; omega
        · split at hz
          · simp only [List.mem_cons, List.not_mem_nil, or_false] at hz; omega
          · split at hz
            · rcases List.mem_append.mp hz with h | h
              · simp only [List.mem_cons, List.not_mem_nil, or_false] at h; omega
              · exact hex _ z h
            · split at hz
              · rcases List.mem_append.mp hz with h | h
                · simp only [List.mem_cons, List.not_mem_nil, or_false] at h; omega
                · exact hex _ z h
              · rcases List.mem_append.mp hz with h | h
                · simp only [List.mem_cons, List.not_mem_nil, or_false] at h; omega
                · exact hex _ z h
theorem cps_fold {q : Nat} (hq : q < 0x110000) : ∀ (l : List Nat) (acc : Array Nat), (∀ c ∈ l, c < 0x110000) → (∀ c ∈ acc.toList, c < 0x110000) → ∀ c ∈ (l.foldl (fun out c => out ++ (Builtin.Str.reprChar q c).toArray) acc).toList, c < 0x110000
  | [], _, _, h => h
  | x :: l, acc, hl, h => cps_fold hq l _ (fun c hc => hl c (List.mem_cons_of_mem _ hc)) fun c hc => by
    rw [Array.toList_append] at hc
    rcases List.mem_append.mp hc with z | z
    · exact h c z
    · exact cps_char hq (hl x (List.mem_cons_self ..)) c z
theorem cps_repr {x : Str} (h : Cps x) : Cps (reprText x) := by
  have hq : reprQuote x < 0x110000 := by unfold reprQuote; split <;> decide
  intro c hc
  unfold reprText at hc
  have hc : c ∈ ((x.cps.foldl (fun out c => out ++ (Builtin.Str.reprChar (reprQuote x) c).toArray) #[reprQuote x]).push (reprQuote x)).toList := hc
  rw [Array.toList_push] at hc
  rcases List.mem_append.mp hc with z | z
  · rw [← Array.foldl_toList] at z
    exact cps_fold hq x.cps.toList _ h (fun c hc => by rw [List.mem_singleton.mp hc]; exact hq) c z
  · rw [List.mem_singleton.mp z]; exact hq
mutual
theorem cps_shown : ∀ d : D, d.canLay0 = true → Cps d.shown
  | .none, _ => by simp only [PyData.shown]; exact cps_of _
  | .bool b, _ => by simp only [PyData.shown]; cases b <;> exact cps_of _
  | .int i, _ => by simp only [PyData.shown]; exact cps_of _
  | .str x, h => by simp only [PyData.shown]; exact cps_repr (cps_iff.mp h)
  | .list xs, h => by simp only [PyData.shown]; exact cps_list (cps_shownA xs (by simpa only [PyData.canLay0] using h))
  | .tuple xs, h => by simp only [PyData.shown]; exact cps_tuple (cps_shownA xs (by simpa only [PyData.canLay0] using h))
  | .dict _, h => by simp [PyData.canLay0] at h
theorem cps_shownA : ∀ ds : List D, PyData.canLayAll0 ds = true → ∀ t ∈ PyData.shownAll ds, Cps t
  | [], _, t, ht => by simp only [PyData.shownAll] at ht; exact nomatch ht
  | d :: ds, h, t, ht => by
    simp only [PyData.canLayAll0, Bool.and_eq_true] at h
    simp only [PyData.shownAll] at ht
    rcases List.mem_cons.mp ht with rfl | z
    · exact cps_shown d h.1
    · exact cps_shownA ds h.2 t z
end
/-- what may be shown -/
def showOk (d : D) : Bool := PyData.layable0 d && (PyData.showable d && PyData.intsShort 13 d)
theorem sok_shown {d : D} (h : showOk d = true) : SOk d.shown := by
  unfold showOk at h
  rw [Bool.and_eq_true, Bool.and_eq_true] at h
  refine ⟨PyData.shown_fits_of_layable0 (B := 13) (by decide) (by decide) h.1 h.2.2, cps_iff.mpr (cps_shown d ?_)⟩
  have := h.1
  unfold PyData.layable0 at this
  rw [Bool.and_eq_true, Bool.and_eq_true] at this
  exact this.1.1
section
variable {X : Cx} {K : PySem.W.Frag}
def rRepr (K : PySem.W.Frag) : List V → Hp → VK → Prop := fun vs H Q => ∃ x d, vs = [x] ∧ Dp K H x d ∧ showOk d = true ∧ Q (.str d.shown) H
theorem cr_repr (hG : X.A.guards = some []) (hu : X.A.units + 65 < cLine) : CallR X (.builtin "repr") (rRepr X.K) := by
  intro pins s σ H xs us Q I r h
  obtain ⟨x, d, rfl, hd, hs, q⟩ := h
  obtain ⟨u, rfl, ru⟩ := vals1 r
  obtain ⟨as, rd⟩ := Dp.reads I d x u hd ru
  have hs0 := hs
  unfold showOk at hs
  rw [Bool.and_eq_true, Bool.and_eq_true] at hs
  have hz : d.shown.length ≤ sizeLine := (sok_shown hs0).1
  have hdep : d.depth ≤ 64 := PyData.depth_le_of_layable hs.1
  have leaf : ∀ (tk : Tok), Q (.str d.shown) H → EP X pins σ Q (.str d.shown s.toks) { s with toks := s.toks + 1 } := fun _ q => ⟨.str _, H, I.tok _, ⟨_, rfl⟩, q⟩
  have ref : ∀ a : Addr, u = .ref a → wpAny (model X.prog X.w) X.A (call (.builtin "repr") [u]) (EP X pins σ Q) X.xe s := by
    rintro a rfl
    refine repr_of_reads' rd hs.2.1 (PyData.noDict_hsm (PyData.hasDict_of_canLay d ?_)) hG (by omega) (fun _ _ e => e) (fun h' u' tk k => ?_) hz
    · have := hs.1
      unfold PyData.layable0 at this
      rw [Bool.and_eq_true, Bool.and_eq_true] at this
      exact this.1.1
    · have I2 : Inv X pins σ H { s with heap := h', toks := s.toks } := I.kept fun b o e => k b o e
      exact ⟨.str _, H, I2.tok _, ⟨_, rfl⟩, q⟩
  cases hd with
  | non =>
    cases ru
    have e : (PyData.none).shown = ("None" : Str) := PyData.shown_none
    rw [e] at q
    exact PySem.P.repr_of_none ⟨.str _, H, I.tok _, ⟨_, rfl⟩, q⟩
  | bl b =>
    cases ru
    rw [PyData.shown_bool] at q
    exact PySem.P.repr_of_bool ⟨.str _, H, I.tok _, ⟨_, rfl⟩, q⟩
  | int i =>
    obtain ⟨t, rfl⟩ := ru
    rw [PyData.shown_int] at q
    have hl : i.natAbs.log2 < 1920 := by simpa only [PyData.showable, decide_eq_true_eq] using hs.2.1
    exact PySem.P.repr_of_int hl ⟨.str _, H, I.tok _, ⟨_, rfl⟩, q⟩
  | str y =>
    obtain ⟨t, rfl⟩ := ru
    rw [PyData.shown_str] at q hz
    exact PySem.P.repr_of_str ⟨.str _, H, I.tok _, ⟨_, rfl⟩, q⟩ hz
  | lst _ _ => exact ref _ ru
  | tup _ _ => exact ref _ ru
def dRepr : List D → Option D
  | [d] => if showOk d = true then some (.str d.shown) else none
  | _ => none
theorem cd_repr : CallD K (rRepr K) dRepr := by
  intro I H xs ds zs s p hz Q k
  cases p with
  | nil => cases hz
  | cons a b =>
    cases b with
    | nil =>
      have hz : (if _ then _ else none) = some zs := hz
      split at hz
      · rename_i hc
        cases hz
        exact ⟨_, _, rfl, (a.mono s).dp, hc, k _ I H (Pst.refl s) (.str (sok_shown hc))⟩
      · cases hz
    | cons _ _ => cases hz
end
/-! ### the law's start -/
def lawEC (N i : Nat) (c : Addr) : Env := ((List.replicate N SV.un).set 0 (.raw (.ref c))).set i .st
theorem law_startC {K : PySem.W.Frag} {N i : Nat} {m : MS Dc} {σ : St} {H : Hp} {g : Dc} {D : Ends} (hl : σ.length = N) (h0 : σ[0]? = some (some (.ref g.c))) (hi : σ[i]? = some (some (.ref g.s))) (ok : (drC K).ok g H) (hm : ∃ e g', m (lawEC N i g.c) g = some (.re (.bool true), e, g')) (k : ∀ H', D.rt (.bl true) H') :
    tS K (drC K) m D σ H := by
  obtain ⟨e, g', hm⟩ := hm
  refine ⟨⟨fun _ => none, fun _ => none, fun _ => none, (drC K).fp g, .ref g.s⟩, lawEC N i g.c, g, .re (.bool true), e, g', ?_, hm, fun v σ' I' H' s' R' p => by cases p; exact k H'⟩
  have at_ : ∀ k, (lawEC N i g.c).at k = .un ∨ (k = i ∧ (lawEC N i g.c).at k = .st) ∨ (k = 0 ∧ (lawEC N i g.c).at k = .raw (.ref g.c)) := fun k => by
    unfold lawEC
    rw [at_set]
    by_cases z : k = i ∧ i < ((List.replicate N SV.un).set 0 (.raw (.ref g.c))).length
    · rw [if_pos z]; exact .inr (.inl ⟨z.1, rfl⟩)
    · rw [if_neg z, at_set]
      by_cases z0 : k = 0 ∧ 0 < (List.replicate N SV.un).length
      · rw [if_pos z0]; exact .inr (.inr ⟨z0.1, rfl⟩)
      · rw [if_neg z0]
        refine .inl ?_
        show (List.replicate N SV.un).getD k .un = .un
        rw [List.getD_eq_getElem?_getD, List.getElem?_replicate]
        split <;> rfl
  exact {
    e0 := fun _ _ z => nomatch z
    eI := fun _ _ z => nomatch z
    ag := fun _ _ z => nomatch z
    ge := Same.refl _
    gfp := fun _ => Iff.rfl
    grt := rfl
    gok := ok
    fI := fun _ _ => rfl
    f0 := fun _ _ => rfl
    len := by unfold lawEC; rw [List.length_set, List.length_set, List.length_replicate]; exact hl
    slot := fun k => by
      rcases at_ k with e | ⟨rfl, e⟩ | ⟨rfl, e⟩
      · rw [e]; trivial
      · rw [e]; exact hi
      · rw [e]; exact h0
    dis := fun k j p ds es _ e1 => by
      rcases at_ k with e | ⟨_, e⟩ | ⟨_, e⟩ <;> rw [e] at e1 <;> cases e1 }
/-- the state at the law's start -/
theorem drC_new {K : PySem.W.Frag} {H : Hp} {a q : Addr} {ns : List Int} (hS : SqL K H a (ns.map V.int)) (hq : H q = none) : ∃ g : Dc, g.s = q ∧ g.c = a ∧ g.ns = ns ∧ (drC K).ok g (upd H q (.lst [.int 0, .int 0])) := by
  rcases hS with h | h
  · have ne : q ≠ a := fun z => by subst z; rcases h with h | ⟨o, h⟩ <;> rw [hq] at h <;> cases h
    refine ⟨⟨q, a, true, 0, 0, ns⟩, rfl, rfl, rfl, upd_same, fun _ => ne, ?_⟩
    unfold ScrOk
    rw [if_pos rfl]
    show Rd (upd H q _) a _
    unfold Rd at h ⊢
    rw [upd_ne ne.symm]
    exact h
  · refine ⟨⟨q, a, false, 0, 0, ns⟩, rfl, rfl, rfl, upd_same, (fun z => nomatch z), ?_⟩
    unfold ScrOk
    rw [if_neg (by simp)]
    exact fun H' => .inr h
end Pd

/-! Pd: sorted(set(..)) of numbers, of tuples of numbers. -/
namespace Pd
open PySem PySem.Spec L2
/-! ### the sorted list without doubles, by a key -/
def insK {α : Type} (key : α → Int) (x : α) : List α → List α
  | [] => [x]
  | y :: ys => if key x < key y then x :: y :: ys else if key x = key y then y :: ys else y :: insK key x ys
def sortK {α : Type} (key : α → Int) : List α → List α
  | [] => []
  | x :: xs => insK key x (sortK key xs)
section
variable {α : Type} {key : α → Int}
theorem insK_mem {x z : α} : ∀ {l : List α}, z ∈ insK key x l → z = x ∨ z ∈ l
  | [], h => .inl (List.mem_singleton.mp h)
  | y :: ys, h => by
    unfold insK at h
    split at h
    · exact List.mem_cons.mp h
    · split at h
      · exact .inr h
      · rcases List.mem_cons.mp h with e | e
        · exact .inr (by rw [e]; exact List.mem_cons_self ..)
        · rcases insK_mem e with e | e
          · exact .inl e
          · exact .inr (List.mem_cons_of_mem _ e)
theorem insK_old {x z : α} : ∀ {l : List α}, z ∈ l → z ∈ insK key x l
  | y :: ys, h => by
    unfold insK
    split
    · exact List.mem_cons_of_mem _ h
    · split
      · exact h
      · rcases List.mem_cons.mp h with e | e
        · rw [e]; exact List.mem_cons_self ..
        · exact List.mem_cons_of_mem _ (insK_old e)
theorem insK_new {x : α} : ∀ {l : List α}, ∃ z ∈ insK key x l, key z = key x
  | [] => ⟨x, List.mem_singleton_self _, rfl⟩
  | y :: ys => by
    unfold insK
    split
    · exact ⟨x, List.mem_cons_self .., rfl⟩
    · split
      · rename_i h; exact ⟨y, List.mem_cons_self .., h.symm⟩
      · obtain ⟨z, h1, h2⟩ := insK_new (x := x) (l := ys)
        exact ⟨z, List.mem_cons_of_mem _ h1, h2⟩
theorem sortK_mem : ∀ {l : List α} {z : α}, z ∈ sortK key l → z ∈ l
  | x :: xs, z, h => by
    rcases insK_mem h with e | e
    · rw [e]; exact List.mem_cons_self ..
    · exact List.mem_cons_of_mem _ (sortK_mem e)
theorem sortK_has : ∀ {l : List α} {z : α}, z ∈ l → ∃ y ∈ sortK key l, key y = key z
  | x :: xs, z, h => by
    rcases List.mem_cons.mp h with e | e
    · rw [e]; exact insK_new
    · obtain ⟨y, h1, h2⟩ := sortK_has e
      exact ⟨y, insK_old h1, h2⟩
theorem insK_srt {x : α} : ∀ {l : List α}, l.Pairwise (fun a b => key a < key b) → (insK key x l).Pairwise fun a b => key a < key b
  | [], _ => List.pairwise_singleton _ _
  | y :: ys, h => by
    have h' := List.pairwise_cons.mp h
    unfold insK
    split
    · rename_i hxy
      refine List.pairwise_cons.mpr ⟨fun z hz => ?_, h⟩
      rcases List.mem_cons.mp hz with e | e
      · rw [e]; exact hxy
      · exact Int.lt_trans hxy (h'.1 z e)
    · split
      · exact h
      · rename_i h1 h2
        refine List.pairwise_cons.mpr ⟨fun z hz => ?_, insK_srt h'.2⟩
        rcases insK_mem hz with e | e
        · rw [e]; omega
        · exact h'.1 z e
theorem sortK_srt : ∀ l : List α, (sortK key l).Pairwise fun a b => key a < key b
  | [] => List.Pairwise.nil
  | x :: xs => insK_srt (sortK_srt xs)
theorem insK_len {x : α} : ∀ {l : List α}, (insK key x l).length ≤ l.length + 1
  | [] => Nat.le_refl _
  | y :: ys => by
    unfold insK
    split
    · exact Nat.le_refl _
    · split
      · exact Nat.le_succ _
      · rw [List.length_cons, List.length_cons]
        exact Nat.succ_le_succ insK_len
theorem sortK_len : ∀ l : List α, (sortK key l).length ≤ l.length
  | [] => Nat.le_refl _
  | x :: xs => Nat.le_trans insK_len (Nat.succ_le_succ (sortK_len xs))
/-- two rising lists of the same members are one -/
theorem rise_ext {P : α → Prop} (inj : ∀ a b, P a → P b → key a = key b → a = b) : ∀ {a b : List α}, (∀ x ∈ a, P x) → (∀ x ∈ b, P x) → a.Pairwise (fun x y => key x < key y) → b.Pairwise (fun x y => key x < key y) → (∀ x, x ∈ a ↔ x ∈ b) → a = b
  | [], [], _, _, _, _, _ => rfl
  | [], y :: _, _, _, _, _, h => nomatch (h y).mpr (List.mem_cons_self ..)
  | x :: _, [], _, _, _, _, h => nomatch (h x).mp (List.mem_cons_self ..)
  | x :: a, y :: b, pa, pb, ha, hb, h => by
    have ha' := List.pairwise_cons.mp ha
    have hb' := List.pairwise_cons.mp hb
    have e : x = y := by
      rcases List.mem_cons.mp ((h x).mp (List.mem_cons_self ..)) with e | e
      · exact e
      · rcases List.mem_cons.mp ((h y).mpr (List.mem_cons_self ..)) with e2 | e2
        · exact e2.symm
        · have h1 := hb'.1 x e
          have h2 := ha'.1 y e2
          omega
    subst e
    rw [rise_ext inj (fun z hz => pa z (List.mem_cons_of_mem _ hz)) (fun z hz => pb z (List.mem_cons_of_mem _ hz)) ha'.2 hb'.2 fun z => ⟨fun hz => ?_, fun hz => ?_⟩]
    · rcases List.mem_cons.mp ((h z).mp (List.mem_cons_of_mem _ hz)) with e | e
      · subst e
        have := ha'.1 z hz
        omega
      · exact e
    · rcases List.mem_cons.mp ((h z).mpr (List.mem_cons_of_mem _ hz)) with e | e
      · subst e
        have := hb'.1 z hz
        omega
      · exact e
end
/-- the data: all numbers, or all tuples of d numbers below 64 -/
def tupI : D → Option (List Int)
  | .tuple ds => intsD ds
  | _ => none
def tupsI : List D → Option (List (List Int))
  | [] => some []
  | d :: ds => match tupI d, tupsI ds with
    | some ns, some r => some (ns :: r)
    | _, _ => none
theorem tupsI_some : ∀ {ds : List D} {ks : List (List Int)}, tupsI ds = some ks → ds = ks.map fun ns => .tuple (ns.map .int)
  | [], ks, h => by cases h; rfl
  | d :: ds, ks, h => by
    unfold tupsI at h
    split at h
    · rename_i ns r e1 e2
      cases h
      rw [List.map_cons, ← tupsI_some e2]
      cases d with
      | tuple es => rw [intsD_some (show intsD es = some ns from e1)]
      | _ => cases e1
    · cases h
theorem tupsI_mm : ∀ ks : List (List Int), tupsI (ks.map fun ns => PyData.tuple (ns.map .int)) = some ks
  | [] => rfl
  | ns :: ks => by
    have e : ∀ l : List Int, intsD (l.map PyData.int) = some l := fun l => by
      induction l with
      | nil => rfl
      | cons x l ih => show (intsD (l.map PyData.int)).map (x :: ·) = _; rw [ih]; rfl
    show (match intsD (ns.map PyData.int), tupsI (ks.map fun ns => PyData.tuple (ns.map .int)) with
      | some ns, some r => some (ns :: r)
      | _, _ => none) = _
    rw [e, tupsI_mm ks]
def fitT (d : Nat) (ks : List (List Int)) : Bool := ks.all fun ns => decide (ns.length = d) && ns.all fun m => decide (0 ≤ m) && decide (m < 64)
def widthT : List (List Int) → Nat
  | [] => 1
  | ns :: _ => ns.length
def dSortedSet : List D → Option (List D)
  | [.list ds] => match intsD ds with
    | some ns => if ns.length < 64 then some ((sortK id ns).map .int) else none
    | none => match tupsI ds with
      | some ks => if ks.length < 64 ∧ 1 ≤ widthT ks ∧ fitT (widthT ks) ks = true then some ((sortK (TS.code 64) ks).map fun ns => .tuple (ns.map .int)) else none
      | none => none
  | _ => none
theorem code_eq {B : Int} : ∀ {a b : List Int}, a.length = b.length → TS.Bd B a → TS.Bd B b → TS.code B a = TS.code B b → a = b
  | [], [], _, _, _, _ => rfl
  | [], _ :: _, h, _, _, _ => nomatch h
  | _ :: _, [], h, _, _, _ => nomatch h
  | x :: a, y :: b, h, ha, hb, e => by
    have hl : a.length = b.length := Nat.succ.inj h
    rcases Int.lt_trichotomy x y with z | z | z
    · have := TS.code_lt hl ha.tail hb.tail z
      omega
    · subst z
      have e2 : TS.code B a = TS.code B b := by
        have e : x * B ^ a.length + TS.code B a = x * B ^ b.length + TS.code B b := e
        rw [hl] at e
        omega
      rw [code_eq hl ha.tail hb.tail e2]
    · have := TS.code_lt hl.symm hb.tail ha.tail z
      omega
theorem fitT_of {d : Nat} {ks : List (List Int)} (h : fitT d ks = true) : ∀ ns ∈ ks, ns.length = d ∧ TS.Bd 64 ns := by
  intro ns hn
  have := List.all_eq_true.mp h ns hn
  rw [Bool.and_eq_true, decide_eq_true_eq, List.all_eq_true] at this
  refine ⟨this.1, fun m hm => ?_⟩
  have := this.2 m hm
  rw [Bool.and_eq_true, decide_eq_true_eq, decide_eq_true_eq] at this
  exact this
/-- the tuples' addresses -/
theorem tups_rp {K : PySem.W.Frag} {I : Hp} : ∀ {ks : List (List Int)} {vs : List V}, RpA K I vs (ks.map fun ns => .tuple (ns.map .int)) → ∃ L : List (Addr × List Int), vs = L.map (fun p => V.ref p.1) ∧ L.map (·.2) = ks ∧ ∀ p ∈ L, SqT K I p.1 (p.2.map V.int)
  | [], _, h => by cases h; exact ⟨[], rfl, rfl, fun _ h => nomatch h⟩
  | ns :: ks, _, h => by
    cases h with
    | cons a b =>
      obtain ⟨L, rfl, e2, h⟩ := tups_rp b
      cases a with
      | tup hp ra hz =>
        rename_i ad xs
        have := ra.ints
        subst this
        exact ⟨(ad, ns) :: L, rfl, by rw [List.map_cons, e2], fun p hp' => by
          rcases List.mem_cons.mp hp' with e | e
          · rw [e]; exact hp
          · exact h p e⟩
theorem tups_of {K : PySem.W.Frag} {I : Hp} : ∀ {L : List (Addr × List Int)}, (∀ p ∈ L, SqT K I p.1 (p.2.map V.int) ∧ p.2.length ≤ sizeLine) → RpA K I (L.map fun p => V.ref p.1) ((L.map (·.2)).map fun ns => .tuple (ns.map .int))
  | [], _ => .nil
  | p :: L, h => .cons (.tup (h p (List.mem_cons_self ..)).1 (RpA.of_ints _) (by rw [List.length_map]; exact (h p (List.mem_cons_self ..)).2)) (tups_of fun q hq => h q (List.mem_cons_of_mem _ hq))
def rSST (K : PySem.W.Frag) (P : Program) (w : World) : List V → Hp → VK → Prop := fun vs H Q => rSetOfT K P w vs H fun v H2 => rSortedT K P w [v] H2 Q
theorem rSST_of {K : PySem.W.Frag} {P : Program} {w : World} {I H : Hp} {xs : List V} {ds zs : List D} {ks : List (List Int)} (s : Same I H) (p : RpA K I xs [.list ds]) (ek : tupsI ds = some ks) (hc : ks.length < 64 ∧ 1 ≤ widthT ks ∧ fitT (widthT ks) ks = true) (ez : zs = (sortK (TS.code 64) ks).map fun ns => .tuple (ns.map .int))
    {Q : VK} (k : ∀ p vs H', H p = none → Same H H' → H' p = some (.lst vs) → RpA K I vs zs → zs.length ≤ sizeLine → Q (.ref p) H') : rSST K P w xs H Q := by
  have ed := tupsI_some ek
  cases p with
  | cons a b =>
    cases b
    cases a with
    | lst hp ra hz =>
      rename_i l vs
      rw [ed] at ra hz
      obtain ⟨L, rfl, e2, hL⟩ := tups_rp ra
      have hlen : L.length = ks.length := by rw [← e2, List.length_map]
      have fit := fitT_of hc.2.2
      refine ⟨l, L, rfl, SqL.of (s _ _ hp), fun p hp' => same_t s (hL p hp'), by rw [hlen]; exact hc.1, fun a2 L2 hn hsub hall => ?_⟩
      have hs2 : Same H (upd H a2 (SetTO P w a2 L2)) := same_new hn
      have mem2 : ∀ p ∈ L2, p.2 ∈ ks := fun p hp' => by rw [← e2]; exact List.mem_map.mpr ⟨p, hsub p hp', rfl⟩
      refine ⟨a2, L2, widthT ks, 64, rfl, upd_same, fun p hp' => same_t hs2 (same_t s (hL p (hsub p hp'))), hc.2.1, fun p hp' => fit _ (mem2 p hp'), fun L3 q pm nd hl3 srt hq => ?_⟩
      have hq0 : H q = none := by
        by_cases z : q = a2
        · rw [z]; exact hn
        · rw [upd_ne z] at hq; exact hq
      have mem3 : ∀ p ∈ L3, p ∈ L := fun p hp' => hsub p (pm.mem_iff.mp hp')
      have em : L3.map (·.2) = sortK (TS.code 64) ks := by
        refine rise_ext (key := TS.code 64) (P := fun ns => ns.length = widthT ks ∧ TS.Bd 64 ns) (fun x y hx hy e => code_eq (by rw [hx.1, hy.1]) hx.2 hy.2 e) (fun x hx => ?_) (fun x hx => fit x (sortK_mem hx)) ?_ (sortK_srt _) fun x => ⟨fun hx => ?_, fun hx => ?_⟩
        · obtain ⟨p, hp', rfl⟩ := List.mem_map.mp hx
          exact fit _ (mem2 p (pm.mem_iff.mp hp'))
        · rw [List.pairwise_map]
          have nd' : L3.Pairwise fun p q => p.2 ≠ q.2 := List.pairwise_map.mp nd
          refine (srt.and nd').imp_of_mem fun {p q} hp' hq' h => ?_
          have fp := fit _ (mem2 p (pm.mem_iff.mp hp'))
          have fq := fit _ (mem2 q (pm.mem_iff.mp hq'))
          rcases Int.lt_or_eq_of_le h.1 with z | z
          · exact z
          · exact absurd (code_eq (by rw [fp.1, fq.1]) fp.2 fq.2 z) h.2
        · obtain ⟨p, hp', rfl⟩ := List.mem_map.mp hx
          obtain ⟨y, h1, h2⟩ := sortK_has (key := TS.code 64) (mem2 p (pm.mem_iff.mp hp'))
          have fp := fit _ (mem2 p (pm.mem_iff.mp hp'))
          have fy := fit _ (sortK_mem h1)
          rw [← code_eq (by rw [fy.1, fp.1]) fy.2 fp.2 h2]
          exact h1
        · have hx' := sortK_mem hx
          rw [← e2] at hx'
          obtain ⟨p, hp', rfl⟩ := List.mem_map.mp hx'
          obtain ⟨p2, h1, h2⟩ := List.mem_map.mp (hall p hp')
          exact List.mem_map.mpr ⟨p2, pm.mem_iff.mpr h1, h2⟩
      have hw : ∀ p ∈ L3, p.2.length ≤ sizeLine := fun p hp' => by
        have hm : PyData.tuple (p.2.map .int) ∈ ks.map fun ns => PyData.tuple (ns.map .int) := List.mem_map.mpr ⟨p.2, mem2 p (pm.mem_iff.mp hp'), rfl⟩
        obtain ⟨i, hi⟩ := List.getElem?_of_mem hm
        obtain ⟨v, _, rv⟩ := ra.get hi
        cases rv with
        | tup _ _ hz => rw [List.length_map] at hz; exact hz
      have r3 : RpA K I (L3.map fun p => V.ref p.1) zs := by
        rw [ez, ← em]
        exact tups_of fun p hp' => ⟨hL p (mem3 p hp'), hw p hp'⟩
      refine k q _ _ hq0 (hs2.trans (same_new hq)) upd_same r3 ?_
      rw [ez, List.length_map]
      have := sortK_len (key := TS.code 64) ks
      have : (64 : Nat) ≤ sizeLine := by decide
      omega
end Pd

/-! Pd: set(xs) of a list of numbers, sorted. -/
namespace Pd
open PySem PySem.Spec L2
/-- a set as it is made -/
abbrev bornSet (w : World) : Obj := { cls := .type "set", dict := none, data := .set #[] 0 (.fresh 0 0 (!w.params.followText "set-order")) }
section
variable {P : Program} {w : World} {A : Around} {E : Value → Shared → Prop} {s : Shared}
/-- what set(xs) leaves: the heap, the tokens, how many -/
def SetMade (w : World) (s : Shared) (ns : List Int) (h2 : Heap) (cnt : Nat) : Prop :=
  SetR w h2 s.heap.objs.size (fun j => decide (j ∈ ns)) cnt ∧ cnt ≤ ns.length ∧ ∀ x o, s.heap.get? x = some o → h2.get? x = some o
set_option maxHeartbeats 8000000 in
theorem setOf_ints {l : Addr} {its : Array Value} (ns : List Int) {Q : Value → Shared → Prop} (hd : A.handled = none) (hl : s.heap.IsList l its) (hi : PyProof.Rows.IntsAre its.toList ns) (hb : ns.length + 1 < scanBound)
    (fin : ∀ (h2 : Heap) (tk cnt : Nat), SetMade w s ns h2 cnt → Q (.ref s.heap.objs.size) { s with heap := h2, toks := tk }) : wpAny (model P w) A (call (.type "set") [.ref l]) Q E s := by
  have en : its.size = ns.length := by have := hi.length; simpa using this
  obtain ⟨_, _, m1⟩ := F.called_set.mro
  have m2 := F.called_set.made
  have m3 := F.called_set.sub
  apply wpAny_call
  apply codeAny_of_tree
  show wpAny _ _ (callAny (.type "set") _) _ _ _
  apply wpAny_pure
  refine ⟨Code.quiet_builtin _ (by decide +kernel), ?_⟩
  apply codeAny_builtin F.entry_type_call
  rw [Around.under_plain (weight_type_call_type "set" [.ref l] []) rfl]
  have m4 := F.called_set.notType
  have m5 := F.called_set.canCreate
  have m6 := F.typeCall_set_1 (.ref l)
  repeat (any_goals (first | assumption | wp_step))
  refine codeAny_mono (code_set_led1 (.ref l) (E := E) (Q₁ := fun ob t => ob = .ref s.heap.objs.size ∧ t = { s with heap := s.heap.push (bornSet w) }) ⟨rfl, rfl⟩) ?_
  rintro (e | fl) t z
  · exact z
  cases fl with
  | ret ob =>
    obtain ⟨rfl, rfl⟩ := z
    have at0 : (s.heap.push (bornSet w)).get? s.heap.objs.size = some (bornSet w) := Heap.get?_push_size _ rfl
    have ty0 : Shared.TypeIs { s with heap := s.heap.push (bornSet w) } (.ref s.heap.objs.size) "set" := ⟨_, at0, rfl⟩
    have i1 := F.called_set.init.lookup
    have i2 := F.called_set.init.bind (.ref s.heap.objs.size)
    repeat (any_goals (first | assumption | wp_step))
    refine codeAny_mono (codeAny_call_builtin (R := wants (fun r t => r = .none ∧ ∃ h2 tk cnt, t = { s with heap := h2, toks := tk } ∧ SetMade w s ns h2 cnt) E) F.called_set.init.plain F.entry_set_init (check_set_init_1 ty0 ?_)) ?_
    · obtain ⟨⟨lc, ld, ldt, lsl⟩, hol, hcl, nl, hdl⟩ := hl
      simp only at hcl hdl
      subst hcl
      subst hdl
      have at1 : (s.heap.push (bornSet w)).get? l = some { cls := .type "list", dict := ld, data := .seq its nl, slots := lsl } := Heap.get?_push_of_some _ hol
      have u1 := F.sub_list_set
      have u2 := F.sub_list_frozenset
      have u3 : (Value.type "list" == Value.type "dict") = false := by decide
      have isl : (s.heap.push (bornSet w)).IsList l its := ⟨_, at1, rfl, nl, rfl⟩
      unfold Builtin.«set.__init__» noKeywords Builtin.Frozenset.updateFrom
      generalize ep : pyIter = PI
      wp_walk
      subst ep
      refine wpAny_pyIter_list isl ?_
      apply wpAny_bind
      apply wpAny_runValue
      have lt : l < s.heap.objs.size := Heap.lt_size hol
      have q3 : A.in1.in1.in1.handled = none := by simp [hd]
      have sz : (s.heap.push (bornSet w)).objs.size = s.heap.objs.size + 1 := Heap.size_push ..
      have n1 : l ≠ (s.heap.push (bornSet w)).objs.size := by rw [sz]; exact Nat.ne_of_lt (Nat.lt_succ_of_lt lt)
      have n2 : s.heap.objs.size ∉ [(s.heap.push (bornSet w)).objs.size, l] := by
        rw [sz]
        simp only [List.mem_cons, List.not_mem_nil, or_false, not_or]
        exact ⟨Nat.ne_of_lt (Nat.lt_succ_self _), Nat.ne_of_gt lt⟩
      have each : ∀ (i : Nat) (v : Value), its[i]? = some v → ∃ k t, ns[i]? = some k ∧ v = .int k t := by
        intro i v hv
        have lt2 : i < ns.length := by rw [← en]; exact (Array.getElem?_eq_some_iff.mp hv).1
        obtain ⟨t, e⟩ := PyProof.Rows.IntsAre.int_at hi i v (by rw [Array.getElem?_toList]; exact hv)
        have eg := List.getElem?_eq_getElem lt2
        rw [List.getD_eq_getElem?_getD, eg] at e
        exact ⟨_, t, eg, e⟩
      refine set_update_ints ((Walks.list q3 _ l n1 its).toS) s.heap.objs.size n2 ns en hb each (its.size - 0) 0 _ (by omega) (Nat.zero_le _)
        ⟨⟨_, Heap.get?_push_size _ rfl, rfl, rfl⟩, (isl.push _)⟩ ⟨0, Nat.le_refl 0, setR_new_at (Heap.get?_push_of_some _ at0)⟩ ?_
      rintro ⟨h2, g2, d2, tk2, os2⟩ cnt mv hc hS
      have x1 : g2 = s.gens := mv.gens
      have x2 : d2 = s.drawn := mv.drawn
      have x3 : os2 = s.os := mv.os
      subst x1
      subst x2
      subst x3
      show wpAny _ _ _ _ _ _
      apply wpAny_pure
      show wpAny _ _ (ret Value.none) _ _ _
      apply wpAny_pure
      refine ⟨rfl, h2, tk2, cnt, rfl, hS, by omega, fun x o e => ?_⟩
      have lt3 : x < s.heap.objs.size := Heap.lt_size e
      refine mv.heap x o ?_ (Heap.get?_push_of_some _ (Heap.get?_push_of_some _ e))
      rw [sz]
      simp only [List.mem_cons, List.not_mem_nil, or_false, not_or]
      exact ⟨Nat.ne_of_lt lt3, Nat.ne_of_lt (Nat.lt_succ_of_lt lt3)⟩
    · rintro (e | f2) t z
      · exact z
      cases f2 with
      | ret r =>
        obtain ⟨rfl, h2, tk, cnt, rfl, made⟩ := z
        repeat (any_goals (first | assumption | wp_step))
        exact fin _ _ _ made
      | _ => exact z.elim
  | _ => exact z.elim
end
section
variable {G : Type} {X : Cx} {S : Gs G} {K : PySem.W.Frag}
def rSetI (K : PySem.W.Frag) (w : World) : List V → Hp → VK → Prop := fun xs H Q => ∃ (l : Addr) (ns : List Int), xs = [V.ref l] ∧ SqL K H l (ns.map V.int) ∧ ns.length < 64 ∧
  ∀ a cnt, H a = none → cnt ≤ ns.length → Q (.ref a) (upd H a (SetO w a (fun j => decide (j ∈ ns)) cnt))
theorem cr_setI (hc : X.calm = true) : CallR X (.type "set") (rSetI X.K X.w) := by
  intro pins s σ H xs us Q I r h
  obtain ⟨l, ns, rfl, hl, h64, q⟩ := h
  rw [Vals.ref1 r]
  obtain ⟨its, rv, pl, hz⟩ := I.list hl
  have hn : H s.heap.objs.size = none := I.hok.fresh (Nat.le_refl _)
  refine setOf_ints (P := X.prog) (w := X.w) ns (I.ok.hd hc) pl.isList (by simpa using rv.ints) (by unfold scanBound; omega) fun h2 tk cnt hm => ?_
  obtain ⟨hS, hcnt, kp⟩ := hm
  exact ⟨.ref s.heap.objs.size, _, I.laid (t' := tk) kp (Nat.le_refl _) (setO_new hS), rfl, q _ cnt hn hcnt⟩
def rSSI (K : PySem.W.Frag) (w : World) : List V → Hp → VK → Prop := fun vs H Q => rSetI K w vs H fun v H2 => rSortedSet w [v] H2 Q
theorem rSSI_of {w : World} {I H : Hp} {xs : List V} {ds zs : List D} {ns : List Int} (s : Same I H) (p : RpA K I xs [.list ds]) (en : intsD ds = some ns) (hc : ns.length < 64) (ez : zs = (sortK id ns).map .int)
    {Q : VK} (k : ∀ p vs H', H p = none → Same H H' → H' p = some (.lst vs) → RpA K I vs zs → zs.length ≤ sizeLine → Q (.ref p) H') : rSSI K w xs H Q := by
  have ed := intsD_some en
  cases p with
  | cons a b =>
    cases b
    cases a with
    | lst hp ra hz =>
      rename_i l vs
      rw [ed] at ra hz
      have := ra.ints
      subst this
      refine ⟨l, ns, rfl, SqL.of (s _ _ hp), hc, fun a2 cnt hn hcnt => ?_⟩
      refine ⟨a2, _, cnt, rfl, upd_same, by omega, fun out q srt mem hl hq => ?_⟩
      have hq0 : H q = none := by
        by_cases z : q = a2
        · rw [z]; exact hn
        · rw [upd_ne z] at hq; exact hq
      have em : out = sortK id ns := by
        refine rise_ext (key := id) (P := fun _ => True) (fun x y _ _ e => e) (fun _ _ => trivial) (fun _ _ => trivial) srt (sortK_srt _) fun x => ⟨fun hx => ?_, fun hx => ?_⟩
        · have hx := (mem x).mp hx
          obtain ⟨y, h1, h2⟩ := sortK_has (key := id) (of_decide_eq_true hx)
          have h2 : y = x := h2
          rw [← h2]
          exact h1
        · exact (mem x).mpr (decide_eq_true (sortK_mem hx))
      refine k q _ _ hq0 ((same_new hn).trans (same_new hq)) upd_same (by rw [ez, em]; exact RpA.of_ints _) ?_
      rw [ez, List.length_map]
      have := sortK_len (key := id) ns
      have : (64 : Nat) ≤ sizeLine := by decide
      omega
/-- sorted(set(e)) -/
theorem df_sortedSet {e : Expr} {ml : ML G} {p q q2 pos : Pos} (hc : X.calm = true) (hu : X.A.units + 65 < cLine) (hg : Gl X "sorted") (hm : X.mg "sorted" = none) (hg2 : Gl X "set") (hm2 : X.mg "set" = none) (ha : DA X S [e] ml)
    (he : starEach [e] X.env = (false, eval e X.env) :: starEach [] X.env := by rfl) (hpl : (backTo q2 (starEach [] X.env)).any (·.1) = false := by rfl)
    (he2 : starEach [.Call (.Name "set" q) [e] [] q2] X.env = (false, eval (.Call (.Name "set" q) [e] [] q2) X.env) :: starEach [] X.env := by rfl) (hpl2 : (backTo pos (starEach [] X.env)).any (·.1) = false := by rfl) :
    DF X S (.Call (.Name "sorted" p) [.Call (.Name "set" q) [e] [] q2] [] pos) (mCallF dSortedSet ml) := by
  have h1 := pe_callB (pos := pos) (p := p) (cr_sortedSet hc) hg hm (by decide +kernel) (pa_cons (pe_callTy (pos := q2) (p := q) (cr_setI hc) hg2 hm2 (by decide +kernel) ha (by decide) (by decide) he hpl) pa_nil he2) (by decide) (by decide) he2 hpl2
  have h2 := pe_callB (pos := pos) (p := p) (cr_sortedT hc) hg hm (by decide +kernel) (pa_cons (pe_callTy (pos := q2) (p := q) (cr_setOfT hc (by omega)) hg2 hm2 (by decide +kernel) ha (by decide) (by decide) he hpl) pa_nil he2) (by decide) (by decide) he2 hpl2
  refine ⟨fun pins s σ H Q I hq => ?_⟩
  obtain ⟨w, env, g, d, g', R, e0, k⟩ := hq
  obtain ⟨xs, g1, e1, e3⟩ := bD_some e0
  obtain ⟨e3, rfl⟩ := map_some e3
  unfold dSortedSet at e3
  split at e3
  · rename_i ds
    split at e3
    · rename_i ns en
      split at e3
      · rename_i hc64
        cases e3
        exact h1.run pins s σ H Q I ⟨w, env, g, _, g', R, e1, fun vs I1 H1 s1 R1 p1 => rSSI_of R1.eI p1 en hc64 rfl fun p us H3 h0 sm hp ra z => k p us I1 H3 s1 (Rel.fresh (p := p) R1 sm) (R1.nob h0) hp ra z⟩
      · cases e3
    · split at e3
      · rename_i ks ek
        split at e3
        · rename_i hcc
          cases e3
          exact h2.run pins s σ H Q I ⟨w, env, g, _, g', R, e1, fun vs I1 H1 s1 R1 p1 => rSST_of R1.eI p1 ek hcc rfl fun p us H3 h0 sm hp ra z => k p us I1 H3 s1 (Rel.fresh (p := p) R1 sm) (R1.nob h0) hp ra z⟩
        · cases e3
      · cases e3
  · cases e3
end
end Pd

/-! Pd: in, of data; dicts of texts that stand; a module's tuples. -/
namespace Pd
open PySem PySem.Spec L2
section
variable {G : Type} {X : Cx} {S : Gs G} {K : PySem.W.Frag} {a b e : Expr} {es : List Expr} {pos : Pos} {ma mb me : ME G} {ml : ML G} {mg : Str → Option Value}
variable {w : Wd} {env env' : Env} {g g' g1 g2 g3 : G} {σ : St} {H H' I' : Hp}
/-! ### in, deep -/
def rInDD (K : PySem.W.Frag) (neg : Bool) : R2 := fun x y H Q => ∃ d ds, Dp K H x d ∧ (Dp K H y (.list ds) ∨ (neg = false ∧ Dp K H y (.tuple ds))) ∧ SeqAt.shaped d = true ∧ SeqAt.shaped (.list ds) = true ∧ Q (.bl (if neg then !ds.any (fun z => PyData.eqv z d) else ds.any fun z => PyData.eqv z d)) H
theorem op_inDD (hu : X.A.units + 65 < cLine) : OpR X (compareOp .In) (rInDD X.K false) := by
  intro pins s σ H x y v u Q I rx ry h
  obtain ⟨d, ds, hd, he, sd, se, q⟩ := h
  obtain ⟨as, r1⟩ := Dp.reads I d x v hd rx
  rcases he with he | ⟨_, he⟩
  · obtain ⟨bs, r2⟩ := Dp.reads I (.list ds) y u he ry
    exact SeqAt.in_list_reads r2 r1 (SeqAt.canLay_of_shaped se) (SeqAt.canLay_of_shaped sd) (PyProof.Rows.room_in_shaped sd hu) ⟨.bl _, H, I, rfl, q⟩
  · obtain ⟨bs, r2⟩ := Dp.reads I (.tuple ds) y u he ry
    exact SeqAt.in_tuple_reads r2 r1 (SeqAt.canLay_of_shaped se) (SeqAt.canLay_of_shaped sd) (PyProof.Rows.room_in_shaped sd hu) ⟨.bl _, H, I, rfl, q⟩
theorem op_notInDD (hu : X.A.units + 65 < cLine) : OpR X (compareOp .NotIn) (rInDD X.K true) := by
  intro pins s σ H x y v u Q I rx ry h
  obtain ⟨d, ds, hd, he, sd, se, q⟩ := h
  obtain ⟨as, r1⟩ := Dp.reads I d x v hd rx
  rcases he with he | ⟨z, _⟩
  · obtain ⟨bs, r2⟩ := Dp.reads I (.list ds) y u he ry
    exact SeqAt.notIn_list_reads r2 r1 (SeqAt.canLay_of_shaped se) (SeqAt.canLay_of_shaped sd) (PyProof.Rows.room_in_shaped sd hu) ⟨.bl _, H, I, rfl, q⟩
  · cases z
def dInD (neg : Bool) : D → D → Option D
  | x, .list ds => if x.depth ≤ 64 ∧ (PyData.list ds).depth ≤ 64 then some (.bool (if neg then !ds.any (fun z => PyData.eqv z x) else ds.any fun z => PyData.eqv z x)) else none
  | x, .tuple ds => if neg = false ∧ x.depth ≤ 64 ∧ (PyData.list ds).depth ≤ 64 then some (.bool (if neg then !ds.any (fun z => PyData.eqv z x) else ds.any fun z => PyData.eqv z x)) else none
  | _, _ => none
theorem shaped_list {I : Hp} {vs : List V} {ds : List D} (ra : RpA K I vs ds) (hd : (PyData.list ds).depth ≤ 64) : SeqAt.shaped (.list ds) = true := by
  unfold SeqAt.shaped
  rw [Bool.and_eq_true]
  refine ⟨?_, by simpa using hd⟩
  simp only [PyData.canLay0]
  exact ra.lay
theorem od_inD (neg : Bool) : OpD K (rInDD K neg) (dInD neg) := by
  intro I H x y d e z s p q hz Q k
  cases q with
  | lst hq ra hl =>
    have hz : (if _ then _ else none) = some z := hz
    split at hz
    · rename_i hc
      cases hz
      exact ⟨d, _, (p.mono s).dp, .inl (Rp.mono s (.lst hq ra hl)).dp, shaped_of p hc.1, shaped_list ra hc.2, k _ I H (Pst.refl s) (.bl _)⟩
    · cases hz
  | tup hq ra hl =>
    have hz : (if _ then _ else none) = some z := hz
    split at hz
    · rename_i hc
      cases hz
      exact ⟨d, _, (p.mono s).dp, .inr ⟨hc.1, (Rp.mono s (.tup hq ra hl)).dp⟩, shaped_of p hc.2.1, shaped_list ra hc.2.2, k _ I H (Pst.refl s) (.bl _)⟩
    · cases hz
  | _ => cases hz
/-! ### a dict of texts -/
theorem Rel.putKd {i : Nat} {v : V} {kvs : List (Str × D)} (R : Rel K S w env g σ H) (r : KdOk K w.I v kvs) : Rel K S w (env.set i (.kd kvs)) g (σ.set i (some v)) H :=
  R.put (fun k e _ => ⟨v, e, r⟩) fun p ds z => nomatch z
def tKd {G : Type} (K : PySem.W.Frag) (S : Gs G) (ks : List Str) (ml : ML G) : St → Hp → (List (V × V) → Hp → Prop) → Prop := fun σ H Q => ∃ w env g ds g', Rel K S w env g σ H ∧ ml env g = some (ds, g') ∧ ds.length = ks.length ∧
  ∀ vs I' H', Same w.I I' → Rel K S (w.im I') env g' σ H' → RpA K I' vs ds → Q ((ks.zip vs).map fun p => (V.str p.1, p.2)) H'
structure DPs {G : Type} (X : Cx) (S : Gs G) (pos : Pos) (keys : List (Option Expr)) (values : List Expr) (ks : List Str) (ml : ML G) : Prop where
  pp : ∃ trs, PPs X pos keys values trs ∧ ∀ σ H Q, tKd X.K S ks ml σ H Q → tPairs trs σ H Q
theorem dps_nil : DPs X S pos [] [] [] mNil := ⟨[], pps_nil, fun σ H Q ⟨w, env, g, ds, g', R, e, _, k⟩ => by
  cases e
  exact k [] w.I H (Same.refl _) R .nil⟩
theorem dps_cons {k : Str} {j : Nat} {kp : Pos} {keys : List (Option Expr)} {v : Expr} {values : List Expr} {ks : List Str} {mv : ME G} (hv : DE X S v mv) (hr : DPs X S pos keys values ks ml) : DPs X S pos (some (.Constant (.str k) j kp) :: keys) (v :: values) (k :: ks) (mCons mv ml) := by
  obtain ⟨trs, hp, ht⟩ := hr.pp
  refine ⟨_, pps_cons pe_str hv hp, fun σ H Q ⟨w, env, g, ds, g', R, e, hl, kk⟩ => ?_⟩
  obtain ⟨x, g1, e1, e⟩ := bD_some e
  obtain ⟨xs, g2, e2, e⟩ := bD_some e
  cases e
  refine ⟨w, env, g, x, g1, R, e1, fun u I1 H1 s1 R1 p1 => ht _ _ _ ⟨w.im I1, env, g1, xs, g', R1, e2, Nat.succ.inj hl, fun vs I2 H2 s2 R2 ra => kk (u :: vs) I2 H2 (s1.trans s2) R2 (.cons (p1.mono s2) ra)⟩⟩
theorem merge_nd : ∀ (more acc : List (Key × V)), ((acc ++ more).map (·.1)).Nodup → mergeK acc more = acc ++ more
  | [], acc, _ => by rw [List.append_nil]; rfl
  | p :: more, acc, h => by
    have h2 : putK acc p.1 p.2 = acc ++ [p] := by
      unfold putK
      rw [if_neg]
      intro z
      obtain ⟨q, hq, e⟩ := List.any_eq_true.mp z
      have e := of_decide_eq_true e
      rw [List.map_append, List.nodup_append] at h
      exact h.2.2 q.1 (List.mem_map.mpr ⟨q, hq, rfl⟩) p.1 (List.mem_map.mpr ⟨p, List.mem_cons_self .., rfl⟩) e
    show mergeK (putK acc p.1 p.2) more = _
    rw [h2, merge_nd more (acc ++ [p]) (by rw [List.append_assoc]; exact h), List.append_assoc]
    rfl
def mSetKd (i : Nat) (ks : List Str) (ml : ML G) : MS G := fun env g => bD (ml env g) fun ds g1 => if ds.length = ks.length then some (.nx, env.set i (.kd (ks.zip ds)), g1) else none
theorem zip_fst {α β : Type} : ∀ {l : List α} {m : List β}, l.length = m.length → (l.zip m).map (·.1) = l
  | [], _, _ => rfl
  | _ :: _, [], h => nomatch h
  | x :: l, y :: m, h => by rw [List.zip_cons_cons, List.map_cons, zip_fst (Nat.succ.inj h)]
theorem zip_snd {α β : Type} : ∀ {l : List α} {m : List β}, l.length = m.length → (l.zip m).map (·.2) = m
  | [], [], _ => rfl
  | [], _ :: _, h => nomatch h
  | _ :: _, [], h => nomatch h
  | x :: l, y :: m, h => by rw [List.zip_cons_cons, List.map_cons, zip_snd (Nat.succ.inj h)]
theorem ds_setKd {i : Nat} {x : Str} {pos' dp : Pos} {keys : List (Option Expr)} {values : List Expr} {ks : List Str} (hN : X.N.Nodup) (hi : X.N[i]? = some x) (hx : Loc X.env.scope x) (hd : DPs X S dp keys values ks ml)
    (hks : ks.Nodup ∧ ks.length ≤ 15) (hall : keys.all (·.isSome) = true := by rfl) (hl : keys.length = values.length := by rfl) (h0 : keys ≠ [] := by simp) (h15 : keys.length ≤ 15 := by decide)
    (hs : swapsWith (.Dict keys values dp) (some (.Name x pos')) pos.line X.env = pure false := by rfl) (hf : X.fn x = true ∨ X.env.scope.names.lookup x = some .local := by first | exact .inl rfl | exact .inr rfl | assumption) :
    DS X S (.Assign [.Name x pos'] (.Dict keys values dp) pos) (mSetKd i ks ml) := by
  obtain ⟨trs, hp, ht⟩ := hd.pp
  refine PS.imp (ps_set hN hi hx (pe_disp hp hall hl h0 h15) hs hf) fun D σ H h => ?_
  obtain ⟨w, env, g, c, env', g', R, e, k⟩ := h
  obtain ⟨ds, g1, e1, e⟩ := bD_some e
  split at e
  · rename_i hlen
    cases e
    intro p h0
    have n := R.nob h0
    have R1 := (R.alloc (o := .dK []) h0).hold n upd_same
    refine ht _ _ _ ⟨w.hold p (.dK []), env, g, ds, g', R1, e1, hlen, fun vs I1 H1 s1 R2 ra => ?_⟩
    have hvl : ks.length = vs.length := by rw [ra.len, hlen]
    let kvs : List (Key × V) := (ks.zip vs).map fun q => (Sum.inr q.1, q.2)
    have hk1 : kvs.map (·.1) = ks.map Sum.inr := by
      show ((ks.zip vs).map fun q => ((Sum.inr q.1 : Key), q.2)).map (·.1) = _
      rw [List.map_map]
      have : ((·.1) ∘ fun q : Str × V => ((Sum.inr q.1 : Key), q.2)) = (Sum.inr ∘ (·.1)) := rfl
      rw [this, ← List.map_map, zip_fst hvl]
    have hk2 : kvs.map (·.2) = vs := by
      show ((ks.zip vs).map fun q => ((Sum.inr q.1 : Key), q.2)).map (·.2) = _
      rw [List.map_map]
      exact zip_snd hvl
    have hm : mergeK [] kvs = kvs := merge_nd kvs [] (by
      rw [List.nil_append, hk1]
      exact List.pairwise_map.mpr (hks.1.imp fun h e => h (Sum.inr.inj e)))
    have R2' : Rel X.K S ((w.im I1).hold p (.dK [])) env g' σ H1 := R2
    obtain ⟨R3, n3, hp1⟩ := R2'.unhold (u := .dK (mergeK [] kvs)) n.h0 (R.ge.free n.i)
    refine ⟨hp1, kvs, ?_, ?_, ?_⟩
    · show (ks.zip vs).map (fun q => (V.str q.1, q.2)) = ((ks.zip vs).map fun q => ((Sum.inr q.1 : Key), q.2)).map fun kv => (kV kv.1, kv.2)
      rw [List.map_map]
      rfl
    · show ((ks.zip vs).map _).length ≤ 15
      rw [List.length_map, List.length_zip]
      have := hks.2
      omega
    · have R4 := R3.freeze n3 upd_same
      have s2 : Same w.I (upd I1 p (.dK (mergeK [] kvs))) := Same.trans s1 (same_new n3.i)
      refine k _ _ _ s2 (R4.putKd ⟨p, kvs, rfl, ?_, ?_, ?_⟩)
      · show upd I1 p _ p = _
        rw [upd_same, hm]
      · rw [hk1]
        rw [show (ks.zip ds).map (fun q => (Sum.inr q.1 : Key)) = ((ks.zip ds).map (·.1)).map Sum.inr by rw [List.map_map]; rfl, zip_fst hlen.symm]
      · rw [hk2, zip_snd hlen.symm]
        exact ra.mono (same_new n3.i)
  · cases e
def mKdIx (j : Nat) (mi : ME G) : ME G := fun env g => bD (mi env g) fun i g1 => match env.at j, i with
  | .kd kvs, .str s => (kvs.find? fun p => decide (p.1 = s)).map fun p => (p.2, g1)
  | _, _ => none
theorem kd_find : ∀ {kvs : List (Str × D)} {vs : List (Key × V)} {s : Str} {q : Str × D} {I : Hp}, vs.map (·.1) = kvs.map (fun p => Sum.inr p.1) → RpA K I (vs.map (·.2)) (kvs.map (·.2)) → kvs.find? (fun p => decide (p.1 = s)) = some q → ∃ v, valV vs (Sum.inr s) = some v ∧ Rp K I v q.2
  | p :: kvs, [], s, q, I, h, _, _ => nomatch h
  | p :: kvs, u :: vs, s, q, I, h, r, hf => by
    rw [List.map_cons, List.map_cons] at h r
    obtain ⟨h1, h2⟩ := List.cons.inj h
    cases r with
    | cons r1 r2 =>
      by_cases e : p.1 = s
      · rw [List.find?_cons_of_pos (by simpa using e)] at hf
        cases hf
        exact ⟨u.2, valV_pos (by rw [h1, e]), r1⟩
      · rw [List.find?_cons_of_neg (by simpa using e)] at hf
        obtain ⟨v, e1, e2⟩ := kd_find h2 r2 hf
        exact ⟨v, (valV_neg (by rw [h1]; exact fun z => e (Sum.inr.inj z))).trans e1, e2⟩
theorem de_kdIx (j : Nat) {x : Str} {xp : Pos} {i : Expr} {mi : ME G} (hu : X.A.units + 65 < cLine) (hi : DE X S i mi) (hN : X.N[j]? = some x := by rfl) (hv : Vis X.env.scope x := by first | exact Or.inl rfl | exact Or.inr (Or.inl rfl) | exact Or.inr (Or.inr rfl)) (hd : (x == ("__debug__" : Str)) = false := by decide)
    (hcd : (x == ("__classdict__" : Str)) = false := by decide) (hs : NoSl i := by exact fun _ _ => rfl) : DE X S (.Subscript (.Name x xp) i pos) (mKdIx j mi) := PE.imp (pe_dget (by omega) (pe_var hN hv hd hcd) hi hs) fun σ H Q ⟨w, env, g, d, g', R, e, k⟩ => by
  obtain ⟨i, g1, e1, e⟩ := bD_some e
  split at e
  · rename_i kvs s ej
    obtain ⟨q, hq, e⟩ := Option.map_eq_some_iff.mp e
    cases e
    have sl := R.slot j
    rw [ej] at sl
    obtain ⟨v, sj, _⟩ := sl
    refine ⟨_, sj, w, env, g, _, g', R, e1, fun u I2 H2 s2 R2 p2 => ?_⟩
    cases p2 with
    | str hs =>
      have sl2 := R2.slot j
      rw [ej] at sl2
      obtain ⟨v2, sj2, a, vs, e3, e4, e5, r⟩ := sl2
      rw [sj] at sj2
      cases sj2
      obtain ⟨v', h1, h2⟩ := kd_find e5 r hq
      refine ⟨a, v', e3, ?_, k v' I2 H2 s2 R2 h2⟩
      rw [← h1]
      exact DGet.k (k := Sum.inr s) (R2.eI _ _ e4)
  · cases e
/-! ### a module's tuple -/
theorem Cst.tup {x : Str} {a : Addr} {od : Option Addr} {sl : Array (Option Value)} {n : Nat} {its : Array Value} {vs : List V} {ds : List D} (h : mg x = some (.ref a)) (lk : K.lookup a = some ⟨.type "tuple", od, .seq its n, sl⟩) (hv : Vals vs its.toList) (hd : ∀ H, RpA K H vs ds)
    (hl : its.size ≤ sizeLine := by exact Nat.le_of_ble_eq_true rfl) (hl2 : ds.length ≤ sizeLine := by exact Nat.le_of_ble_eq_true rfl) : Cst K mg x (.tuple ds) := ⟨_, .ref a, h, rfl, fun H => .tup (.inr ⟨_, its, n, lk, rfl, rfl, hl, hv⟩) (hd H) hl2⟩
end
end Pd

/-! Pd: > of scalars. -/
namespace Pd
open PySem PySem.Spec L2
section
variable {X : Cx} {K : PySem.W.Frag}
theorem op_gt_bl : OpR X (compareOp .Gt) (fun x y H Q => ∃ p q, x = .bl p ∧ y = .bl q ∧ Q (.bl (p && !q)) H) := by
  intro pins s σ H x y v u Q I rx ry h
  obtain ⟨p, q, rfl, rfl, k⟩ := h
  cases (show v = Value.bool p from rx)
  cases (show u = Value.bool q from ry)
  refine PyProof.Rows.gt_bool ⟨.bl (p && !q), H, I, ?_, k⟩
  cases p <;> cases q <;> rfl
abbrev rGtS : R2 := fun x y H Q => rI0 (fun i j => .bl (decide (j < i))) x y H Q ∨ ((∃ i j, x = .str i ∧ y = .str j ∧ Q (.bl (decide (j.cps.toList < i.cps.toList))) H) ∨ ∃ p q, x = .bl p ∧ y = .bl q ∧ Q (.bl (p && !q)) H)
theorem op_gtS : OpR X (compareOp .Gt) rGtS := op_gt.or (op_gt_str.or op_gt_bl)
def dGtS : D → D → Option D
  | .int i, .int j => some (.bool (decide (j < i)))
  | .str i, .str j => some (.bool (decide (j.cps.toList < i.cps.toList)))
  | .bool p, .bool q => some (.bool (p && !q))
  | _, _ => none
theorem od_gtS : OpD K rGtS dGtS := by
  intro I H x y d e z s p q hz Q k
  cases p with
  | int i =>
    cases q with
    | int j => cases hz; exact .inl ⟨i, j, rfl, rfl, k _ I H (Pst.refl s) (.bl _)⟩
    | _ => cases hz
  | str h =>
    cases q with
    | str h' => cases hz; exact .inr (.inl ⟨_, _, rfl, rfl, k _ I H (Pst.refl s) (.bl _)⟩)
    | _ => cases hz
  | bl a =>
    cases q with
    | bl b => cases hz; exact .inr (.inr ⟨a, b, rfl, rfl, k _ I H (Pst.refl s) (.bl _)⟩)
    | _ => cases hz
  | _ => cases hz
end
end Pd

namespace K32
open PySem PySem.Spec L2 Pd
/-! ### the text by places -/
def top (i : Nat) : Stmt := PySem.Challenge.pw_plainserial_k32_whole_bounds.main.body.getD i (.Pass ⟨0, 0, 0, 0⟩)
abbrev s_turned : Stmt := top 1
abbrev s_both : Stmt := top 2
abbrev s_either : Stmt := top 3
abbrev s_reckoned : Stmt := top 4
abbrev s_among : Stmt := top 5
abbrev s_value_of : Stmt := top 6
abbrev s_conjuncts : Stmt := top 7
abbrev s_strict_cells : Stmt := top 13
abbrev s_is_empty : Stmt := top 14
abbrev s_higher : Stmt := top 15
abbrev s_lower : Stmt := top 16
abbrev s_meet : Stmt := top 17
abbrev s_wider_low : Stmt := top 18
abbrev s_wider_high : Stmt := top 19
abbrev s_join : Stmt := top 20
abbrev s_of_values : Stmt := top 21
abbrev s_compared : Stmt := top 22
abbrev s_beside : Stmt := top 23
abbrev s_bounds_of : Stmt := top 24
abbrev s_listed : Stmt := top 25
abbrev s_is_within : Stmt := top 26
abbrev s_bounds_of_all : Stmt := top 27
abbrev s_sure_bounds : Stmt := top 28
abbrev s_single_value : Stmt := top 29
abbrev s__law_draw : Stmt := top 31
abbrev s__law_pick : Stmt := top 32
abbrev s__law_some : Stmt := top 33
abbrev s__law_leaf : Stmt := top 34
abbrev s__law_expr : Stmt := top 35
abbrev s__law_strict : Stmt := top 38
abbrev s__law_in : Stmt := top 39
abbrev s__law_ends : Stmt := top 40
abbrev s__law_meet : Stmt := top 41
abbrev s__law_join : Stmt := top 42
abbrev s__law_bounds : Stmt := top 43
abbrev s_law : Stmt := top 44
structure Txt (K : PySem.W.Frag) (mg : Str → Option Value) : Prop where
  d_turned : Dfn K mg "turned" "turned" s_turned ["value"]
  d_both : Dfn K mg "both" "both" s_both ["one", "other"]
  d_either : Dfn K mg "either" "either" s_either ["one", "other"]
  d_reckoned : Dfn K mg "reckoned" "reckoned" s_reckoned ["word", "one", "other"]
  d_among : Dfn K mg "among" "among" s_among ["value", "values"]
  d_value_of : Dfn K mg "value_of" "value_of" s_value_of ["tree", "rows", "fields"]
  d_conjuncts : Dfn K mg "conjuncts" "conjuncts" s_conjuncts ["tree"]
  d_strict_cells : Dfn K mg "strict_cells" "strict_cells" s_strict_cells ["tree"]
  d_is_empty : Dfn K mg "is_empty" "is_empty" s_is_empty ["low", "high"]
  d_higher : Dfn K mg "higher" "higher" s_higher ["one", "other"]
  d_lower : Dfn K mg "lower" "lower" s_lower ["one", "other"]
  d_meet : Dfn K mg "meet" "meet" s_meet ["one", "other"]
  d_wider_low : Dfn K mg "wider_low" "wider_low" s_wider_low ["one", "other"]
  d_wider_high : Dfn K mg "wider_high" "wider_high" s_wider_high ["one", "other"]
  d_join : Dfn K mg "join" "join" s_join ["one", "other"]
  d_of_values : Dfn K mg "of_values" "of_values" s_of_values ["values"]
  d_compared : Dfn K mg "compared" "compared" s_compared ["tree", "cell", "wanted"]
  d_beside : Dfn K mg "beside" "beside" s_beside ["word", "value", "wanted", "is_first"]
  d_bounds_of : Dfn K mg "bounds_of" "bounds_of" s_bounds_of ["tree", "cell", "wanted"]
  d_listed : Dfn K mg "listed" "listed" s_listed ["tree", "cell", "wanted"]
  d_is_within : Dfn K mg "is_within" "is_within" s_is_within ["bounds", "value"]
  d_bounds_of_all : Dfn K mg "bounds_of_all" "bounds_of_all" s_bounds_of_all ["parts", "cell"]
  d_sure_bounds : Dfn K mg "sure_bounds" "sure_bounds" s_sure_bounds ["condition", "cell"]
  d_single_value : Dfn K mg "single_value" "single_value" s_single_value ["bounds"]
  d__law_draw : Dfn K mg "_law_draw" "_law_draw" s__law_draw ["state", "script", "size"]
  d__law_pick : Dfn K mg "_law_pick" "_law_pick" s__law_pick ["state", "script", "items"]
  d__law_some : Dfn K mg "_law_some" "_law_some" s__law_some ["state", "script", "kind"]
  d__law_leaf : Dfn K mg "_law_leaf" "_law_leaf" s__law_leaf ["state", "script", "kind", "cells"]
  d__law_expr : Dfn K mg "_law_expr" "_law_expr" s__law_expr ["state", "script", "kind", "cells", "fuel"]
  d__law_strict : Dfn K mg "_law_strict" "_law_strict" s__law_strict ["tree"]
  d__law_in : Dfn K mg "_law_in" "_law_in" s__law_in ["bounds", "value"]
  d__law_ends : Dfn K mg "_law_ends" "_law_ends" s__law_ends ["one", "other", "tight", "is_low"]
  d__law_meet : Dfn K mg "_law_meet" "_law_meet" s__law_meet ["one", "other"]
  d__law_join : Dfn K mg "_law_join" "_law_join" s__law_join ["one", "other"]
  d__law_bounds : Dfn K mg "_law_bounds" "_law_bounds" s__law_bounds ["tree", "cell", "wanted"]
  c_ALL : Cst K mg "ALL" (.tuple [(.str "all")])
  c_KNOWN : Cst K mg "KNOWN" (.tuple [(.str "range"), .none, .none])
  c_NEVER : Cst K mg "NEVER" (.tuple [(.str "never")])
  c_NULL : Cst K mg "NULL" (.tuple [(.str "null")])
  z_int : mg "int" = none
  z_len : mg "len" = none
  z_range : mg "range" = none
  z_repr : mg "repr" = none
  z_sorted : mg "sorted" = none
  z_tuple : mg "tuple" = none
section
variable {P : Program} {wd : World} {K : PySem.W.Frag} {mg : Str → Option Value} {base : Heap}
/-! #### turned -/
abbrev n_turned : List Str := ["value"]
theorem sc_turned : FnScope n_turned ["value"] (defScope s_turned) := ⟨rfl, rfl, rfl, by decide +kernel, rfl, by decide +kernel, by decide +kernel⟩
def m_turned : MS Unit := (mRet (mIf (mOpT dIs (mVar 0) (mC .none)) (mC .none) (mBNot (mVar 0))))
def F_turned : List D → Option D := runP 1 1 m_turned
theorem ok_turned (T : Txt K mg) : Def1 P wd K mg base "turned" ["value"] 1 (spP K F_turned) := def_pure T.d_turned sc_turned fun f cdv A outer s H E hr =>
    (db_one (ds_ret (de_if (dt_cmp op_isN od_is (de_var 0) de_non (nomark _)) de_non (de_not (de_var 0)))))
/-! #### both -/
abbrev n_both : List Str := ["one", "other"]
theorem sc_both : FnScope n_both ["one", "other"] (defScope s_both) := ⟨rfl, rfl, rfl, by decide +kernel, rfl, by decide +kernel, by decide +kernel⟩
def m_both : MS Unit := (mSeq (mIfS (mOr (mOpT dIsB (mVar 0) (mC (.bool false))) (mOpT dIsB (mVar 1) (mC (.bool false))))
    (mRet (mC (.bool false)))
    mSkip)
    (mRet (mIf (mOr (mOpT dIs (mVar 0) (mC .none)) (mOpT dIs (mVar 1) (mC .none))) (mC .none) (mC (.bool true)))))
def F_both : List D → Option D := runP 2 2 m_both
theorem ok_both (T : Txt K mg) : Def1 P wd K mg base "both" ["one", "other"] 1 (spP K F_both) := def_pure T.d_both sc_both fun f cdv A outer s H E hr =>
    (db_cons (ds_if (PW.pt (dw_or (dt_cmp op_isB od_isB (de_var 0) de_bl (nomark _)) (dw_or1 (dt_cmp op_isB od_isB (de_var 1) de_bl (nomark _)))))
    (db_one (ds_ret de_bl))
    db_nil)
    (db_one (ds_ret (de_if (PW.pt (dw_or (dt_cmp op_isN od_is (de_var 0) de_non (nomark _)) (dw_or1 (dt_cmp op_isN od_is (de_var 1) de_non (nomark _))))) de_non de_bl))))
/-! #### either -/
abbrev n_either : List Str := ["one", "other"]
theorem sc_either : FnScope n_either ["one", "other"] (defScope s_either) := ⟨rfl, rfl, rfl, by decide +kernel, rfl, by decide +kernel, by decide +kernel⟩
def m_either : MS Unit := (mSeq (mIfS (mOr (mOpT dIsB (mVar 0) (mC (.bool true))) (mOpT dIsB (mVar 1) (mC (.bool true))))
    (mRet (mC (.bool true)))
    mSkip)
    (mRet (mIf (mOr (mOpT dIs (mVar 0) (mC .none)) (mOpT dIs (mVar 1) (mC .none))) (mC .none) (mC (.bool false)))))
def F_either : List D → Option D := runP 2 2 m_either
theorem ok_either (T : Txt K mg) : Def1 P wd K mg base "either" ["one", "other"] 1 (spP K F_either) := def_pure T.d_either sc_either fun f cdv A outer s H E hr =>
    (db_cons (ds_if (PW.pt (dw_or (dt_cmp op_isB od_isB (de_var 0) de_bl (nomark _)) (dw_or1 (dt_cmp op_isB od_isB (de_var 1) de_bl (nomark _)))))
    (db_one (ds_ret de_bl))
    db_nil)
    (db_one (ds_ret (de_if (PW.pt (dw_or (dt_cmp op_isN od_is (de_var 0) de_non (nomark _)) (dw_or1 (dt_cmp op_isN od_is (de_var 1) de_non (nomark _))))) de_non de_bl))))
/-! #### reckoned -/
abbrev n_reckoned : List Str := ["word", "one", "other"]
theorem sc_reckoned : FnScope n_reckoned ["word", "one", "other"] (defScope s_reckoned) := ⟨rfl, rfl, rfl, by decide +kernel, rfl, by decide +kernel, by decide +kernel⟩
def m_reckoned : MS Unit := (mSeq (mIfS (mOr (mOpT dIs (mVar 1) (mC .none)) (mOpT dIs (mVar 2) (mC .none)))
    (mRet (mC .none))
    mSkip)
    (mSeq (mIfS (mOpT dEq (mVar 0) (mC (.str "plus")))
    (mRet (mOp dAdd (mVar 1) (mVar 2)))
    mSkip)
    (mSeq (mIfS (mOpT dEq (mVar 0) (mC (.str "minus")))
    (mRet (mOp dSub (mVar 1) (mVar 2)))
    mSkip)
    (mSeq (mIfS (mOpT dEq (mVar 0) (mC (.str "times")))
    (mRet (mOp dMul (mVar 1) (mVar 2)))
    mSkip)
    (mRet (mIf (mOpT dEq (mVar 0) (mC (.str "same"))) (mOp dEq (mVar 1) (mVar 2)) (mOp dLt (mVar 1) (mVar 2))))))))
def F_reckoned : List D → Option D := runP 3 3 m_reckoned
theorem ok_reckoned (T : Txt K mg) : Def1 P wd K mg base "reckoned" ["word", "one", "other"] 1 (spP K F_reckoned) := def_pure T.d_reckoned sc_reckoned fun f cdv A outer s H E hr =>
    (db_cons (ds_if (PW.pt (dw_or (dt_cmp op_isN od_is (de_var 1) de_non (nomark _)) (dw_or1 (dt_cmp op_isN od_is (de_var 2) de_non (nomark _)))))
    (db_one (ds_ret de_non))
    db_nil)
    (db_cons (ds_if (dt_cmp (op_eqD (hu64 hr)) od_eq (de_var 0) de_str (nomark _))
    (db_one (ds_ret (de_op op_addD od_addD (de_var 1) (de_var 2))))
    db_nil)
    (db_cons (ds_if (dt_cmp (op_eqD (hu64 hr)) od_eq (de_var 0) de_str (nomark _))
    (db_one (ds_ret (de_op op_sub od_sub (de_var 1) (de_var 2))))
    db_nil)
    (db_cons (ds_if (dt_cmp (op_eqD (hu64 hr)) od_eq (de_var 0) de_str (nomark _))
    (db_one (ds_ret (de_op op_mul od_mul (de_var 1) (de_var 2))))
    db_nil)
    (db_one (ds_ret (de_if (dt_cmp (op_eqD (hu64 hr)) od_eq (de_var 0) de_str (nomark _)) (de_cmp (op_eqD (hu64 hr)) od_eq (de_var 1) (de_var 2) (nomark _)) (de_cmp (op_ltD (hu65 hr)) od_lt (de_var 1) (de_var 2) (nomark _)))))))))
/-! #### among -/
abbrev n_among : List Str := ["value", "values", "one"]
theorem sc_among : FnScope n_among ["value", "values"] (defScope s_among) := ⟨rfl, rfl, rfl, by decide +kernel, rfl, by decide +kernel, by decide +kernel⟩
def m_among : MS Unit := (mSeq (mIfS (mOpT dIs (mVar 0) (mC .none))
    (mRet (mC .none))
    mSkip)
    (mSeq (mIfS (mOpT (dInF false) (mVar 0) (mL (mComp (mItL (mVar 1)) [2] (bName 2) (mOpT dIsNot (mVar 2) (mC .none)) (mVar 2))))
    (mRet (mC (.bool true)))
    mSkip)
    (mRet (mIf (mOpT (dInF false) (mC .none) (mVar 1)) (mC .none) (mC (.bool false))))))
def F_among : List D → Option D := runP 3 2 m_among
theorem ok_among (T : Txt K mg) : Def1 P wd K mg base "among" ["value", "values"] 1 (spP K F_among) := def_pure T.d_among sc_among fun f cdv A outer s H E hr =>
    (db_cons (ds_if (dt_cmp op_isN od_is (de_var 0) de_non (nomark _))
    (db_one (ds_ret de_non))
    db_nil)
    (db_cons (ds_if (dt_cmp op_in_seq (od_inF false) (de_var 0) (de_fresh (df_comp (own := [("one", 2)]) rfl sc_among.nd (di_list (de_var 1)) (blkOk_by (N := n_among) (sc := defScope s_among) (by decide +kernel)) (fun _ _ _ _ _ => (dg_name (i := 2) sc_among.nd rfl (by first | exact Or.inl rfl | exact Or.inr rfl))) (fun _ _ _ _ _ => (dts_one (dt_cmp op_notN od_isNot (de_var 2) de_non (nomark _)))) (fun _ _ _ _ _ => (de_var 2)))) (by rfl))
    (db_one (ds_ret de_bl))
    db_nil)
    (db_one (ds_ret (de_if (dt_cmp op_in_seq (od_inF false) de_non (de_var 1) (by rfl)) de_non de_bl)))))
/-! #### value_of -/
abbrev n_value_of : List Str := ["tree", "rows", "fields", "word", "one", "other"]
theorem sc_value_of : FnScope n_value_of ["tree", "rows", "fields"] (defScope s_value_of) := ⟨rfl, rfl, rfl, by decide +kernel, rfl, by decide +kernel, by decide +kernel⟩
def m_value_of (self : List D → Option D) : MS Unit := (mSeq (mSet 3 (mOp dIx (mVar 0) (mC (.int 0))))
    (mSeq (mIfS (mOpT dEq (mVar 3) (mC (.str "value")))
    (mRet (mOp dIx (mVar 0) (mC (.int 1))))
    mSkip)
    (mSeq (mIfS (mOpT dEq (mVar 3) (mC (.str "cell")))
    (mRet (mOp dIx (mOp dIx (mVar 1) (mOp dIx (mVar 0) (mC (.int 1)))) (mOp dIx (mVar 0) (mC (.int 2)))))
    mSkip)
    (mSeq (mIfS (mOpT dEq (mVar 3) (mC (.str "field")))
    (mRet (mOp dIx (mVar 2) (mOp dIx (mVar 0) (mC (.int 1)))))
    mSkip)
    (mSeq (mSet 4 (mCall self (mCons (mOp dIx (mVar 0) (mC (.int 1))) (mCons (mVar 1) (mCons (mVar 2) mNil)))))
    (mSeq (mIfS (mOpT dEq (mVar 3) (mC (.str "null")))
    (mRet (mOp dIs (mVar 4) (mC .none)))
    mSkip)
    (mSeq (mIfS (mOpT dEq (mVar 3) (mC (.str "not")))
    (mRet (mCall F_turned (mCons (mVar 4) mNil)))
    mSkip)
    (mSeq (mIfS (mOpT dEq (mVar 3) (mC (.str "among")))
    (mRet (mCall F_among (mCons (mVar 4) (mCons (mOp dIx (mVar 0) (mC (.int 2))) mNil))))
    mSkip)
    (mSeq (mSet 5 (mCall self (mCons (mOp dIx (mVar 0) (mC (.int 2))) (mCons (mVar 1) (mCons (mVar 2) mNil)))))
    (mSeq (mIfS (mOpT dEq (mVar 3) (mC (.str "and")))
    (mRet (mCall F_both (mCons (mVar 4) (mCons (mVar 5) mNil))))
    mSkip)
    (mSeq (mIfS (mOpT dEq (mVar 3) (mC (.str "or")))
    (mRet (mCall F_either (mCons (mVar 4) (mCons (mVar 5) mNil))))
    mSkip)
    (mRet (mCall F_reckoned (mCons (mVar 3) (mCons (mVar 4) (mCons (mVar 5) mNil))))))))))))))))
def F_value_of : Nat → List D → Option D
  | 0 => fun _ => none
  | k + 1 => runP 6 3 (m_value_of (F_value_of k))
theorem ok_value_of (T : Txt K mg) : ∀ k : Nat, Def1 P wd K mg base "value_of" ["tree", "rows", "fields"] (2 + k) (spP K (F_value_of k))
  | 0 => def_no T.d_value_of sc_value_of spP_no
  | k + 1 => def_pure T.d_value_of sc_value_of fun f cdv A outer s H E hr =>
    (db_cons (ds_set (i := 3) sc_value_of.nd rfl (by first | exact Or.inl rfl | exact Or.inr rfl) (de_ix (de_var 0) de_int))
    (db_cons (ds_if (dt_cmp (op_eqD (hu64 hr)) od_eq (de_var 3) de_str (nomark _))
    (db_one (ds_ret (de_ix (de_var 0) de_int)))
    db_nil)
    (db_cons (ds_if (dt_cmp (op_eqD (hu64 hr)) od_eq (de_var 3) de_str (nomark _))
    (db_one (ds_ret (de_ix (de_ix (de_var 1) (de_ix (de_var 0) de_int)) (de_ix (de_var 0) de_int))))
    db_nil)
    (db_cons (ds_if (dt_cmp (op_eqD (hu64 hr)) od_eq (de_var 3) de_str (nomark _))
    (db_one (ds_ret (de_ix (de_var 2) (de_ix (de_var 0) de_int))))
    db_nil)
    (db_cons (ds_set (i := 4) sc_value_of.nd rfl (by first | exact Or.inl rfl | exact Or.inr rfl) (call_P (ok_value_of T k) (hr.mono (Nat.le_refl _)) rfl (da_cons (de_ix (de_var 0) de_int) (da_cons (de_var 1) (da_cons (de_var 2) da_nil)))))
    (db_cons (ds_if (dt_cmp (op_eqD (hu64 hr)) od_eq (de_var 3) de_str (nomark _))
    (db_one (ds_ret (de_cmp op_isN od_is (de_var 4) de_non (nomark _))))
    db_nil)
    (db_cons (ds_if (dt_cmp (op_eqD (hu64 hr)) od_eq (de_var 3) de_str (nomark _))
    (db_one (ds_ret (call_P (ok_turned T) (hr.mono (Nat.le_trans (by decide : 1 ≤ 2) (Nat.le_add_right 2 k))) rfl (da_cons (de_var 4) da_nil))))
    db_nil)
    (db_cons (ds_if (dt_cmp (op_eqD (hu64 hr)) od_eq (de_var 3) de_str (nomark _))
    (db_one (ds_ret (call_P (ok_among T) (hr.mono (Nat.le_trans (by decide : 1 ≤ 2) (Nat.le_add_right 2 k))) rfl (da_cons (de_var 4) (da_cons (de_ix (de_var 0) de_int) da_nil)))))
    db_nil)
    (db_cons (ds_set (i := 5) sc_value_of.nd rfl (by first | exact Or.inl rfl | exact Or.inr rfl) (call_P (ok_value_of T k) (hr.mono (Nat.le_refl _)) rfl (da_cons (de_ix (de_var 0) de_int) (da_cons (de_var 1) (da_cons (de_var 2) da_nil)))))
    (db_cons (ds_if (dt_cmp (op_eqD (hu64 hr)) od_eq (de_var 3) de_str (nomark _))
    (db_one (ds_ret (call_P (ok_both T) (hr.mono (Nat.le_trans (by decide : 1 ≤ 2) (Nat.le_add_right 2 k))) rfl (da_cons (de_var 4) (da_cons (de_var 5) da_nil)))))
    db_nil)
    (db_cons (ds_if (dt_cmp (op_eqD (hu64 hr)) od_eq (de_var 3) de_str (nomark _))
    (db_one (ds_ret (call_P (ok_either T) (hr.mono (Nat.le_trans (by decide : 1 ≤ 2) (Nat.le_add_right 2 k))) rfl (da_cons (de_var 4) (da_cons (de_var 5) da_nil)))))
    db_nil)
    (db_one (ds_ret (call_P (ok_reckoned T) (hr.mono (Nat.le_trans (by decide : 1 ≤ 2) (Nat.le_add_right 2 k))) rfl (da_cons (de_var 3) (da_cons (de_var 4) (da_cons (de_var 5) da_nil)))))))))))))))))
/-! #### conjuncts -/
abbrev n_conjuncts : List Str := ["tree"]
theorem sc_conjuncts : FnScope n_conjuncts ["tree"] (defScope s_conjuncts) := ⟨rfl, rfl, rfl, by decide +kernel, rfl, by decide +kernel, by decide +kernel⟩
def m_conjuncts (self : List D → Option D) : MS Unit := (mSeq (mIfS (mOpT dIs (mVar 0) (mC .none))
    (mRetF (mLst mNil))
    mSkip)
    (mSeq (mIfS (mOpT dEq (mOp dIx (mVar 0) (mC (.int 0))) (mC (.str "and")))
    (mRet (mOp dAdd (mCall self (mCons (mOp dIx (mVar 0) (mC (.int 1))) mNil)) (mCall self (mCons (mOp dIx (mVar 0) (mC (.int 2))) mNil))))
    mSkip)
    (mRetF (mLst (mCons (mVar 0) mNil)))))
def F_conjuncts : Nat → List D → Option D
  | 0 => fun _ => none
  | k + 1 => runP 1 1 (m_conjuncts (F_conjuncts k))
theorem ok_conjuncts (T : Txt K mg) : ∀ k : Nat, Def1 P wd K mg base "conjuncts" ["tree"] (1 + k) (spP K (F_conjuncts k))
  | 0 => def_no T.d_conjuncts sc_conjuncts spP_no
  | k + 1 => def_pure T.d_conjuncts sc_conjuncts fun f cdv A outer s H E hr =>
    (db_cons (ds_if (dt_cmp op_isN od_is (de_var 0) de_non (nomark _))
    (db_one (ds_retF (df_lst da_nil)))
    db_nil)
    (db_cons (ds_if (dt_cmp (op_eqD (hu64 hr)) od_eq (de_ix (de_var 0) de_int) de_str (nomark _))
    (db_one (ds_ret (de_op op_addD od_addD (call_P (ok_conjuncts T k) (hr.mono (Nat.le_refl _)) rfl (da_cons (de_ix (de_var 0) de_int) da_nil)) (call_P (ok_conjuncts T k) (hr.mono (Nat.le_refl _)) rfl (da_cons (de_ix (de_var 0) de_int) da_nil)))))
    db_nil)
    (db_one (ds_retF (df_lst (da_cons (de_var 0) da_nil))))))
/-! #### strict_cells -/
abbrev n_strict_cells : List Str := ["tree"]
theorem sc_strict_cells : FnScope n_strict_cells ["tree"] (defScope s_strict_cells) := ⟨rfl, rfl, rfl, by decide +kernel, rfl, by decide +kernel, by decide +kernel⟩
def m_strict_cells (self : List D → Option D) : MS Unit := (mSeq (mIfS (mOpT dEq (mOp dIx (mVar 0) (mC (.int 0))) (mC (.str "cell")))
    (mRetF (mLst (mCons (mSlT (mVar 0) (mPart (mC (.int 1))) mNo) mNil)))
    mSkip)
    (mSeq (mIfS (mOpT (dInF false) (mOp dIx (mVar 0) (mC (.int 0))) (mTup (mCons (mC (.str "plus")) (mCons (mC (.str "minus")) (mCons (mC (.str "times")) mNil)))))
    (mRet (mOp dAdd (mCall self (mCons (mOp dIx (mVar 0) (mC (.int 1))) mNil)) (mCall self (mCons (mOp dIx (mVar 0) (mC (.int 2))) mNil))))
    mSkip)
    (mRetF (mLst mNil))))
def F_strict_cells : Nat → List D → Option D
  | 0 => fun _ => none
  | k + 1 => runP 1 1 (m_strict_cells (F_strict_cells k))
theorem ok_strict_cells (T : Txt K mg) : ∀ k : Nat, Def1 P wd K mg base "strict_cells" ["tree"] (1 + k) (spP K (F_strict_cells k))
  | 0 => def_no T.d_strict_cells sc_strict_cells spP_no
  | k + 1 => def_pure T.d_strict_cells sc_strict_cells fun f cdv A outer s H E hr =>
    (db_cons (ds_if (dt_cmp (op_eqD (hu64 hr)) od_eq (de_ix (de_var 0) de_int) de_str (nomark _))
    (db_one (ds_retF (df_lst (da_cons (de_sliceT (de_var 0) (do_some de_int) do_none) da_nil))))
    db_nil)
    (db_cons (ds_if (dt_cmp op_in_seq (od_inF false) (de_ix (de_var 0) de_int) (de_tup (da_cons de_str (da_cons de_str (da_cons de_str da_nil)))) (by rfl))
    (db_one (ds_ret (de_op op_addD od_addD (call_P (ok_strict_cells T k) (hr.mono (Nat.le_refl _)) rfl (da_cons (de_ix (de_var 0) de_int) da_nil)) (call_P (ok_strict_cells T k) (hr.mono (Nat.le_refl _)) rfl (da_cons (de_ix (de_var 0) de_int) da_nil)))))
    db_nil)
    (db_one (ds_retF (df_lst da_nil)))))
/-! #### is_empty -/
abbrev n_is_empty : List Str := ["low", "high"]
theorem sc_is_empty : FnScope n_is_empty ["low", "high"] (defScope s_is_empty) := ⟨rfl, rfl, rfl, by decide +kernel, rfl, by decide +kernel, by decide +kernel⟩
def m_is_empty : MS Unit := (mSeq (mIfS (mOr (mOpT dIs (mVar 0) (mC .none)) (mOpT dIs (mVar 1) (mC .none)))
    (mRet (mC (.bool false)))
    mSkip)
    (mRet (mBOr (mOp dLt (mOp dIx (mVar 1) (mC (.int 0))) (mOp dIx (mVar 0) (mC (.int 0)))) (mBAnd (mOp dEq (mOp dIx (mVar 0) (mC (.int 0))) (mOp dIx (mVar 1) (mC (.int 0)))) (mBNot (mBAnd (mOp dIx (mVar 0) (mC (.int 1))) (mOp dIx (mVar 1) (mC (.int 1)))))))))
def F_is_empty : List D → Option D := runP 2 2 m_is_empty
theorem ok_is_empty (T : Txt K mg) : Def1 P wd K mg base "is_empty" ["low", "high"] 1 (spP K F_is_empty) := def_pure T.d_is_empty sc_is_empty fun f cdv A outer s H E hr =>
    (db_cons (ds_if (PW.pt (dw_or (dt_cmp op_isN od_is (de_var 0) de_non (nomark _)) (dw_or1 (dt_cmp op_isN od_is (de_var 1) de_non (nomark _)))))
    (db_one (ds_ret de_bl))
    db_nil)
    (db_one (ds_ret (de_or (de_cmp (op_ltD (hu65 hr)) od_lt (de_ix (de_var 1) de_int) (de_ix (de_var 0) de_int) (nomark _)) (de_and1 (de_and (de_cmp (op_eqD (hu64 hr)) od_eq (de_ix (de_var 0) de_int) (de_ix (de_var 1) de_int) (nomark _)) (de_and1 (de_not (de_and (de_ix (de_var 0) de_int) (de_and1 (de_ix (de_var 1) de_int)))))))))))
/-! #### higher -/
abbrev n_higher : List Str := ["one", "other"]
theorem sc_higher : FnScope n_higher ["one", "other"] (defScope s_higher) := ⟨rfl, rfl, rfl, by decide +kernel, rfl, by decide +kernel, by decide +kernel⟩
def m_higher : MS Unit := (mSeq (mIfS (mOr (mOpT dIs (mVar 0) (mC .none)) (mOpT dIs (mVar 1) (mC .none)))
    (mRet (mIf (mOpT dIs (mVar 0) (mC .none)) (mVar 1) (mVar 0)))
    mSkip)
    (mSeq (mIfS (mOpT dEq (mOp dIx (mVar 0) (mC (.int 0))) (mOp dIx (mVar 1) (mC (.int 0))))
    (mRet (mIf (mNot (mTru (mOp dIx (mVar 0) (mC (.int 1))))) (mVar 0) (mVar 1)))
    mSkip)
    (mRet (mIf (mOpT dGtS (mOp dIx (mVar 0) (mC (.int 0))) (mOp dIx (mVar 1) (mC (.int 0)))) (mVar 0) (mVar 1)))))
def F_higher : List D → Option D := runP 2 2 m_higher
theorem ok_higher (T : Txt K mg) : Def1 P wd K mg base "higher" ["one", "other"] 1 (spP K F_higher) := def_pure T.d_higher sc_higher fun f cdv A outer s H E hr =>
    (db_cons (ds_if (PW.pt (dw_or (dt_cmp op_isN od_is (de_var 0) de_non (nomark _)) (dw_or1 (dt_cmp op_isN od_is (de_var 1) de_non (nomark _)))))
    (db_one (ds_ret (de_if (dt_cmp op_isN od_is (de_var 0) de_non (nomark _)) (de_var 1) (de_var 0))))
    db_nil)
    (db_cons (ds_if (dt_cmp (op_eqD (hu64 hr)) od_eq (de_ix (de_var 0) de_int) (de_ix (de_var 1) de_int) (nomark _))
    (db_one (ds_ret (de_if (dt_not (dt_tru (de_ix (de_var 0) de_int))) (de_var 0) (de_var 1))))
    db_nil)
    (db_one (ds_ret (de_if (dt_cmp op_gtS od_gtS (de_ix (de_var 0) de_int) (de_ix (de_var 1) de_int) (nomark _)) (de_var 0) (de_var 1))))))
/-! #### lower -/
abbrev n_lower : List Str := ["one", "other"]
theorem sc_lower : FnScope n_lower ["one", "other"] (defScope s_lower) := ⟨rfl, rfl, rfl, by decide +kernel, rfl, by decide +kernel, by decide +kernel⟩
def m_lower : MS Unit := (mSeq (mIfS (mOr (mOpT dIs (mVar 0) (mC .none)) (mOpT dIs (mVar 1) (mC .none)))
    (mRet (mIf (mOpT dIs (mVar 0) (mC .none)) (mVar 1) (mVar 0)))
    mSkip)
    (mSeq (mIfS (mOpT dEq (mOp dIx (mVar 0) (mC (.int 0))) (mOp dIx (mVar 1) (mC (.int 0))))
    (mRet (mIf (mNot (mTru (mOp dIx (mVar 0) (mC (.int 1))))) (mVar 0) (mVar 1)))
    mSkip)
    (mRet (mIf (mOpT dLt (mOp dIx (mVar 0) (mC (.int 0))) (mOp dIx (mVar 1) (mC (.int 0)))) (mVar 0) (mVar 1)))))
def F_lower : List D → Option D := runP 2 2 m_lower
theorem ok_lower (T : Txt K mg) : Def1 P wd K mg base "lower" ["one", "other"] 1 (spP K F_lower) := def_pure T.d_lower sc_lower fun f cdv A outer s H E hr =>
    (db_cons (ds_if (PW.pt (dw_or (dt_cmp op_isN od_is (de_var 0) de_non (nomark _)) (dw_or1 (dt_cmp op_isN od_is (de_var 1) de_non (nomark _)))))
    (db_one (ds_ret (de_if (dt_cmp op_isN od_is (de_var 0) de_non (nomark _)) (de_var 1) (de_var 0))))
    db_nil)
    (db_cons (ds_if (dt_cmp (op_eqD (hu64 hr)) od_eq (de_ix (de_var 0) de_int) (de_ix (de_var 1) de_int) (nomark _))
    (db_one (ds_ret (de_if (dt_not (dt_tru (de_ix (de_var 0) de_int))) (de_var 0) (de_var 1))))
    db_nil)
    (db_one (ds_ret (de_if (dt_cmp (op_ltD (hu65 hr)) od_lt (de_ix (de_var 0) de_int) (de_ix (de_var 1) de_int) (nomark _)) (de_var 0) (de_var 1))))))
/-! #### meet -/
abbrev n_meet : List Str := ["one", "other", "low", "high"]
theorem sc_meet : FnScope n_meet ["one", "other"] (defScope s_meet) := ⟨rfl, rfl, rfl, by decide +kernel, rfl, by decide +kernel, by decide +kernel⟩
def m_meet : MS Unit := (mSeq (mIfS (mOpT (dInD false) (mC (.tuple [(.str "never")])) (mTup (mCons (mVar 0) (mCons (mVar 1) mNil))))
    (mRet (mC (.tuple [(.str "never")])))
    mSkip)
    (mSeq (mIfS (mOr (mOpT dEq (mVar 0) (mC (.tuple [(.str "all")]))) (mOpT dEq (mVar 1) (mC (.tuple [(.str "all")]))))
    (mRet (mIf (mOpT dEq (mVar 0) (mC (.tuple [(.str "all")]))) (mVar 1) (mVar 0)))
    mSkip)
    (mSeq (mIfS (mOr (mOpT dEq (mVar 0) (mC (.tuple [(.str "null")]))) (mOpT dEq (mVar 1) (mC (.tuple [(.str "null")]))))
    (mRet (mIf (mOpT dEq (mVar 0) (mVar 1)) (mC (.tuple [(.str "null")])) (mC (.tuple [(.str "never")]))))
    mSkip)
    (mSeq (mPar 2 3 (mCons (mCall F_higher (mCons (mOp dIx (mVar 0) (mC (.int 1))) (mCons (mOp dIx (mVar 1) (mC (.int 1))) mNil))) (mCons (mCall F_lower (mCons (mOp dIx (mVar 0) (mC (.int 2))) (mCons (mOp dIx (mVar 1) (mC (.int 2))) mNil))) mNil)))
    (mRet (mIf (mTru (mCall F_is_empty (mCons (mVar 2) (mCons (mVar 3) mNil)))) (mC (.tuple [(.str "never")])) (mTup (mCons (mC (.str "range")) (mCons (mVar 2) (mCons (mVar 3) mNil))))))))))
def F_meet : List D → Option D := runP 4 2 m_meet
theorem ok_meet (T : Txt K mg) : Def1 P wd K mg base "meet" ["one", "other"] 2 (spP K F_meet) := def_pure T.d_meet sc_meet fun f cdv A outer s H E hr =>
    (db_cons (ds_if (dt_cmp (op_inDD (hu65 hr)) (od_inD false) (de_cst T.c_NEVER) (de_tup (da_cons (de_var 0) (da_cons (de_var 1) da_nil))) (by rfl))
    (db_one (ds_ret (de_cst T.c_NEVER)))
    db_nil)
    (db_cons (ds_if (PW.pt (dw_or (dt_cmp (op_eqD (hu64 hr)) od_eq (de_var 0) (de_cst T.c_ALL) (nomark _)) (dw_or1 (dt_cmp (op_eqD (hu64 hr)) od_eq (de_var 1) (de_cst T.c_ALL) (nomark _)))))
    (db_one (ds_ret (de_if (dt_cmp (op_eqD (hu64 hr)) od_eq (de_var 0) (de_cst T.c_ALL) (nomark _)) (de_var 1) (de_var 0))))
    db_nil)
    (db_cons (ds_if (PW.pt (dw_or (dt_cmp (op_eqD (hu64 hr)) od_eq (de_var 0) (de_cst T.c_NULL) (nomark _)) (dw_or1 (dt_cmp (op_eqD (hu64 hr)) od_eq (de_var 1) (de_cst T.c_NULL) (nomark _)))))
    (db_one (ds_ret (de_if (dt_cmp (op_eqD (hu64 hr)) od_eq (de_var 0) (de_var 1) (nomark _)) (de_cst T.c_NULL) (de_cst T.c_NEVER))))
    db_nil)
    (db_cons (ds_par (i := 2) (j := 3) rfl sc_meet.nd rfl rfl (by decide) rfl rfl (da_cons (call_P (ok_higher T) (hr.mono (by decide)) rfl (da_cons (de_ix (de_var 0) de_int) (da_cons (de_ix (de_var 1) de_int) da_nil))) (da_cons (call_P (ok_lower T) (hr.mono (by decide)) rfl (da_cons (de_ix (de_var 0) de_int) (da_cons (de_ix (de_var 1) de_int) da_nil))) da_nil)) (by rfl))
    (db_one (ds_ret (de_if (dt_tru (call_P (ok_is_empty T) (hr.mono (by decide)) rfl (da_cons (de_var 2) (da_cons (de_var 3) da_nil)))) (de_cst T.c_NEVER) (de_tup (da_cons de_str (da_cons (de_var 2) (da_cons (de_var 3) da_nil)))))))))))
/-! #### wider_low -/
abbrev n_wider_low : List Str := ["one", "other"]
theorem sc_wider_low : FnScope n_wider_low ["one", "other"] (defScope s_wider_low) := ⟨rfl, rfl, rfl, by decide +kernel, rfl, by decide +kernel, by decide +kernel⟩
def m_wider_low : MS Unit := (mSeq (mIfS (mOr (mOpT dIs (mVar 0) (mC .none)) (mOpT dIs (mVar 1) (mC .none)))
    (mRet (mC .none))
    mSkip)
    (mRet (mIf (mOpT dEq (mCall F_higher (mCons (mVar 0) (mCons (mVar 1) mNil))) (mVar 0)) (mVar 1) (mVar 0))))
def F_wider_low : List D → Option D := runP 2 2 m_wider_low
theorem ok_wider_low (T : Txt K mg) : Def1 P wd K mg base "wider_low" ["one", "other"] 2 (spP K F_wider_low) := def_pure T.d_wider_low sc_wider_low fun f cdv A outer s H E hr =>
    (db_cons (ds_if (PW.pt (dw_or (dt_cmp op_isN od_is (de_var 0) de_non (nomark _)) (dw_or1 (dt_cmp op_isN od_is (de_var 1) de_non (nomark _)))))
    (db_one (ds_ret de_non))
    db_nil)
    (db_one (ds_ret (de_if (dt_cmp (op_eqD (hu64 hr)) od_eq (call_P (ok_higher T) (hr.mono (by decide)) rfl (da_cons (de_var 0) (da_cons (de_var 1) da_nil))) (de_var 0) (nomark _)) (de_var 1) (de_var 0)))))
/-! #### wider_high -/
abbrev n_wider_high : List Str := ["one", "other"]
theorem sc_wider_high : FnScope n_wider_high ["one", "other"] (defScope s_wider_high) := ⟨rfl, rfl, rfl, by decide +kernel, rfl, by decide +kernel, by decide +kernel⟩
def m_wider_high : MS Unit := (mSeq (mIfS (mOr (mOpT dIs (mVar 0) (mC .none)) (mOpT dIs (mVar 1) (mC .none)))
    (mRet (mC .none))
    mSkip)
    (mRet (mIf (mOpT dEq (mCall F_lower (mCons (mVar 0) (mCons (mVar 1) mNil))) (mVar 0)) (mVar 1) (mVar 0))))
def F_wider_high : List D → Option D := runP 2 2 m_wider_high
theorem ok_wider_high (T : Txt K mg) : Def1 P wd K mg base "wider_high" ["one", "other"] 2 (spP K F_wider_high) := def_pure T.d_wider_high sc_wider_high fun f cdv A outer s H E hr =>
    (db_cons (ds_if (PW.pt (dw_or (dt_cmp op_isN od_is (de_var 0) de_non (nomark _)) (dw_or1 (dt_cmp op_isN od_is (de_var 1) de_non (nomark _)))))
    (db_one (ds_ret de_non))
    db_nil)
    (db_one (ds_ret (de_if (dt_cmp (op_eqD (hu64 hr)) od_eq (call_P (ok_lower T) (hr.mono (by decide)) rfl (da_cons (de_var 0) (da_cons (de_var 1) da_nil))) (de_var 0) (nomark _)) (de_var 1) (de_var 0)))))
/-! #### join -/
abbrev n_join : List Str := ["one", "other"]
theorem sc_join : FnScope n_join ["one", "other"] (defScope s_join) := ⟨rfl, rfl, rfl, by decide +kernel, rfl, by decide +kernel, by decide +kernel⟩
def m_join : MS Unit := (mSeq (mIfS (mOr (mOpT dEq (mVar 0) (mC (.tuple [(.str "never")]))) (mOpT dEq (mVar 1) (mC (.tuple [(.str "never")]))))
    (mRet (mIf (mOpT dEq (mVar 0) (mC (.tuple [(.str "never")]))) (mVar 1) (mVar 0)))
    mSkip)
    (mSeq (mIfS (mOr (mOpT dEq (mVar 0) (mC (.tuple [(.str "all")]))) (mOr (mOpT dEq (mVar 1) (mC (.tuple [(.str "all")]))) (mOpT dNe (mOp dEq (mVar 0) (mC (.tuple [(.str "null")]))) (mOp dEq (mVar 1) (mC (.tuple [(.str "null")]))))))
    (mRet (mC (.tuple [(.str "all")])))
    mSkip)
    (mSeq (mIfS (mOpT dEq (mVar 0) (mC (.tuple [(.str "null")])))
    (mRet (mC (.tuple [(.str "null")])))
    mSkip)
    (mRet (mTup (mCons (mC (.str "range")) (mCons (mCall F_wider_low (mCons (mOp dIx (mVar 0) (mC (.int 1))) (mCons (mOp dIx (mVar 1) (mC (.int 1))) mNil))) (mCons (mCall F_wider_high (mCons (mOp dIx (mVar 0) (mC (.int 2))) (mCons (mOp dIx (mVar 1) (mC (.int 2))) mNil))) mNil))))))))
def F_join : List D → Option D := runP 2 2 m_join
theorem ok_join (T : Txt K mg) : Def1 P wd K mg base "join" ["one", "other"] 3 (spP K F_join) := def_pure T.d_join sc_join fun f cdv A outer s H E hr =>
    (db_cons (ds_if (PW.pt (dw_or (dt_cmp (op_eqD (hu64 hr)) od_eq (de_var 0) (de_cst T.c_NEVER) (nomark _)) (dw_or1 (dt_cmp (op_eqD (hu64 hr)) od_eq (de_var 1) (de_cst T.c_NEVER) (nomark _)))))
    (db_one (ds_ret (de_if (dt_cmp (op_eqD (hu64 hr)) od_eq (de_var 0) (de_cst T.c_NEVER) (nomark _)) (de_var 1) (de_var 0))))
    db_nil)
    (db_cons (ds_if (PW.pt (dw_or (dt_cmp (op_eqD (hu64 hr)) od_eq (de_var 0) (de_cst T.c_ALL) (nomark _)) (dw_or (dt_cmp (op_eqD (hu64 hr)) od_eq (de_var 1) (de_cst T.c_ALL) (nomark _)) (dw_or1 (dt_cmp (op_neD (hu64 hr)) od_ne (de_cmp (op_eqD (hu64 hr)) od_eq (de_var 0) (de_cst T.c_NULL) (nomark _)) (de_cmp (op_eqD (hu64 hr)) od_eq (de_var 1) (de_cst T.c_NULL) (nomark _)) (nomark _))))))
    (db_one (ds_ret (de_cst T.c_ALL)))
    db_nil)
    (db_cons (ds_if (dt_cmp (op_eqD (hu64 hr)) od_eq (de_var 0) (de_cst T.c_NULL) (nomark _))
    (db_one (ds_ret (de_cst T.c_NULL)))
    db_nil)
    (db_one (ds_ret (de_tup (da_cons de_str (da_cons (call_P (ok_wider_low T) (hr.mono (by decide)) rfl (da_cons (de_ix (de_var 0) de_int) (da_cons (de_ix (de_var 1) de_int) da_nil))) (da_cons (call_P (ok_wider_high T) (hr.mono (by decide)) rfl (da_cons (de_ix (de_var 0) de_int) (da_cons (de_ix (de_var 1) de_int) da_nil))) da_nil)))))))))
/-! #### of_values -/
abbrev n_of_values : List Str := ["values", "known", "value"]
theorem sc_of_values : FnScope n_of_values ["values"] (defScope s_of_values) := ⟨rfl, rfl, rfl, by decide +kernel, rfl, by decide +kernel, by decide +kernel⟩
def m_of_values : MS Unit := (mSeq (mSet 1 (mL (mCallF dSorted (mCons (mL (mComp (mItL (mVar 0)) [2] (bName 2) (mOpT dIsNot (mVar 2) (mC .none)) (mVar 2))) mNil))))
    (mRet (mIf (mOpT dEq (mCall dLen (mCons (mVar 1) mNil)) (mC (.int 0))) (mC (.tuple [(.str "never")])) (mTup (mCons (mC (.str "range")) (mCons (mTup (mCons (mOp dIx (mVar 1) (mC (.int 0))) (mCons (mC (.bool true)) mNil))) (mCons (mTup (mCons (mOp dIx (mVar 1) (mUn dNeg (mC (.int 1)))) (mCons (mC (.bool true)) mNil))) mNil)))))))
def F_of_values : List D → Option D := runP 3 1 m_of_values
theorem ok_of_values (T : Txt K mg) : Def1 P wd K mg base "of_values" ["values"] 1 (spP K F_of_values) := def_pure T.d_of_values sc_of_values fun f cdv A outer s H E hr =>
    (db_cons (ds_set (i := 1) sc_of_values.nd rfl (by first | exact Or.inl rfl | exact Or.inr rfl) (de_fresh (df_callB (cr_sortD (hu65 hr)) cf_sorted rfl T.z_sorted (by decide +kernel) (da_cons (de_fresh (df_comp (own := [("value", 2)]) rfl sc_of_values.nd (di_list (de_var 0)) (blkOk_by (N := n_of_values) (sc := defScope s_of_values) (by decide +kernel)) (fun _ _ _ _ _ => (dg_name (i := 2) sc_of_values.nd rfl (by first | exact Or.inl rfl | exact Or.inr rfl))) (fun _ _ _ _ _ => (dts_one (dt_cmp op_notN od_isNot (de_var 2) de_non (nomark _)))) (fun _ _ _ _ _ => (de_var 2)))) da_nil))))
    (db_one (ds_ret (de_if (dt_cmp (op_eqD (hu64 hr)) od_eq (de_callB call_len cd_len rfl T.z_len (by decide +kernel) (da_cons (de_var 1) da_nil)) de_int (nomark _)) (de_cst T.c_NEVER) (de_tup (da_cons de_str (da_cons (de_tup (da_cons (de_ix (de_var 1) de_int) (da_cons de_bl da_nil))) (da_cons (de_tup (da_cons (de_ix (de_var 1) (de_un un_neg ud_neg de_int)) (da_cons de_bl da_nil))) da_nil))))))))
/-! #### beside -/
abbrev n_beside : List Str := ["word", "value", "wanted", "is_first", "end"]
theorem sc_beside : FnScope n_beside ["word", "value", "wanted", "is_first"] (defScope s_beside) := ⟨rfl, rfl, rfl, by decide +kernel, rfl, by decide +kernel, by decide +kernel⟩
def m_beside : MS Unit := (mSeq (mIfS (mOpT dEq (mVar 0) (mC (.str "same")))
    (mRet (mIf (mTru (mVar 2)) (mTup (mCons (mC (.str "range")) (mCons (mTup (mCons (mVar 1) (mCons (mC (.bool true)) mNil))) (mCons (mTup (mCons (mVar 1) (mCons (mC (.bool true)) mNil))) mNil)))) (mC (.tuple [(.str "range"), .none, .none]))))
    mSkip)
    (mSeq (mIfS (mOpT dEq (mVar 3) (mVar 2))
    (mSeq (mSet 4 (mTup (mCons (mVar 1) (mCons (mBNot (mVar 2)) mNil))))
    (mRet (mIf (mTru (mVar 3)) (mTup (mCons (mC (.str "range")) (mCons (mC .none) (mCons (mVar 4) mNil)))) (mTup (mCons (mC (.str "range")) (mCons (mC .none) (mCons (mTup (mCons (mVar 1) (mCons (mC (.bool true)) mNil))) mNil)))))))
    mSkip)
    (mRet (mTup (mCons (mC (.str "range")) (mCons (mTup (mCons (mVar 1) (mCons (mVar 3) mNil))) (mCons (mC .none) mNil)))))))
def F_beside : List D → Option D := runP 5 4 m_beside
theorem ok_beside (T : Txt K mg) : Def1 P wd K mg base "beside" ["word", "value", "wanted", "is_first"] 1 (spP K F_beside) := def_pure T.d_beside sc_beside fun f cdv A outer s H E hr =>
    (db_cons (ds_if (dt_cmp (op_eqD (hu64 hr)) od_eq (de_var 0) de_str (nomark _))
    (db_one (ds_ret (de_if (dt_tru (de_var 2)) (de_tup (da_cons de_str (da_cons (de_tup (da_cons (de_var 1) (da_cons de_bl da_nil))) (da_cons (de_tup (da_cons (de_var 1) (da_cons de_bl da_nil))) da_nil)))) (de_cst T.c_KNOWN))))
    db_nil)
    (db_cons (ds_if (dt_cmp (op_eqD (hu64 hr)) od_eq (de_var 3) (de_var 2) (nomark _))
    (db_cons (ds_set (i := 4) sc_beside.nd rfl (by first | exact Or.inl rfl | exact Or.inr rfl) (de_tup (da_cons (de_var 1) (da_cons (de_not (de_var 2)) da_nil))))
    (db_one (ds_ret (de_if (dt_tru (de_var 3)) (de_tup (da_cons de_str (da_cons de_non (da_cons (de_var 4) da_nil)))) (de_tup (da_cons de_str (da_cons de_non (da_cons (de_tup (da_cons (de_var 1) (da_cons de_bl da_nil))) da_nil))))))))
    db_nil)
    (db_one (ds_ret (de_tup (da_cons de_str (da_cons (de_tup (da_cons (de_var 1) (da_cons (de_var 3) da_nil))) (da_cons de_non da_nil))))))))
/-! #### compared -/
abbrev n_compared : List Str := ["tree", "cell", "wanted", "word", "one", "other"]
theorem sc_compared : FnScope n_compared ["tree", "cell", "wanted"] (defScope s_compared) := ⟨rfl, rfl, rfl, by decide +kernel, rfl, by decide +kernel, by decide +kernel⟩
def m_compared : MS Unit := (mSeq (mAsg (bTup 3 (bCons (bName 3) (bCons (bName 4) (bCons (bName 5) bNil)))) (mVar 0))
    (mSeq (mIfS (mOpT (dInD false) (mTup (mCons (mC (.str "value")) (mCons (mC .none) mNil))) (mTup (mCons (mVar 4) (mCons (mVar 5) mNil))))
    (mRet (mC (.tuple [(.str "never")])))
    mSkip)
    (mSeq (mIfS (mAnd (mOpT dEq (mVar 4) (mOp dAdd (mTup (mCons (mC (.str "cell")) mNil)) (mVar 1))) (mOpT dEq (mOp dIx (mVar 5) (mC (.int 0))) (mC (.str "value"))))
    (mRet (mCall F_beside (mCons (mVar 3) (mCons (mOp dIx (mVar 5) (mC (.int 1))) (mCons (mVar 2) (mCons (mC (.bool true)) mNil))))))
    mSkip)
    (mSeq (mIfS (mAnd (mOpT dEq (mVar 5) (mOp dAdd (mTup (mCons (mC (.str "cell")) mNil)) (mVar 1))) (mOpT dEq (mOp dIx (mVar 4) (mC (.int 0))) (mC (.str "value"))))
    (mRet (mCall F_beside (mCons (mVar 3) (mCons (mOp dIx (mVar 4) (mC (.int 1))) (mCons (mVar 2) (mCons (mC (.bool false)) mNil))))))
    mSkip)
    (mRet (mIf (mOpT (dInD false) (mVar 1) (mOp dAdd (mCall (F_strict_cells 9) (mCons (mVar 4) mNil)) (mCall (F_strict_cells 9) (mCons (mVar 5) mNil)))) (mC (.tuple [(.str "range"), .none, .none])) (mC (.tuple [(.str "all")]))))))))
def F_compared : List D → Option D := runP 6 3 m_compared
theorem ok_compared (T : Txt K mg) : Def1 P wd K mg base "compared" ["tree", "cell", "wanted"] 11 (spP K F_compared) := def_pure T.d_compared sc_compared fun f cdv A outer s H E hr =>
    (db_cons (ds_asg (de_var 0) (dg_tup rfl (dgs_cons (dg_name (i := 3) sc_compared.nd rfl (by first | exact Or.inl rfl | exact Or.inr rfl)) (dgs_cons (dg_name (i := 4) sc_compared.nd rfl (by first | exact Or.inl rfl | exact Or.inr rfl)) (dgs_cons (dg_name (i := 5) sc_compared.nd rfl (by first | exact Or.inl rfl | exact Or.inr rfl)) dgs_nil)))))
    (db_cons (ds_if (dt_cmp (op_inDD (hu65 hr)) (od_inD false) (de_tup (da_cons de_str (da_cons de_non da_nil))) (de_tup (da_cons (de_var 4) (da_cons (de_var 5) da_nil))) (by rfl))
    (db_one (ds_ret (de_cst T.c_NEVER)))
    db_nil)
    (db_cons (ds_if (PW.pt (dw_and (dt_cmp (op_eqD (hu64 hr)) od_eq (de_var 4) (de_op op_addD od_addD (de_tup (da_cons de_str da_nil)) (de_var 1)) (nomark _)) (dw_and1 (dt_cmp (op_eqD (hu64 hr)) od_eq (de_ix (de_var 5) de_int) de_str (nomark _)))))
    (db_one (ds_ret (call_P (ok_beside T) (hr.mono (by decide)) rfl (da_cons (de_var 3) (da_cons (de_ix (de_var 5) de_int) (da_cons (de_var 2) (da_cons de_bl da_nil)))))))
    db_nil)
    (db_cons (ds_if (PW.pt (dw_and (dt_cmp (op_eqD (hu64 hr)) od_eq (de_var 5) (de_op op_addD od_addD (de_tup (da_cons de_str da_nil)) (de_var 1)) (nomark _)) (dw_and1 (dt_cmp (op_eqD (hu64 hr)) od_eq (de_ix (de_var 4) de_int) de_str (nomark _)))))
    (db_one (ds_ret (call_P (ok_beside T) (hr.mono (by decide)) rfl (da_cons (de_var 3) (da_cons (de_ix (de_var 4) de_int) (da_cons (de_var 2) (da_cons de_bl da_nil)))))))
    db_nil)
    (db_one (ds_ret (de_if (dt_cmp (op_inDD (hu65 hr)) (od_inD false) (de_var 1) (de_op op_addD od_addD (call_P (ok_strict_cells T 9) (hr.mono (by decide)) rfl (da_cons (de_var 4) da_nil)) (call_P (ok_strict_cells T 9) (hr.mono (by decide)) rfl (da_cons (de_var 5) da_nil))) (by rfl)) (de_cst T.c_KNOWN) (de_cst T.c_ALL))))))))
/-! #### listed -/
abbrev n_listed : List Str := ["tree", "cell", "wanted"]
theorem sc_listed : FnScope n_listed ["tree", "cell", "wanted"] (defScope s_listed) := ⟨rfl, rfl, rfl, by decide +kernel, rfl, by decide +kernel, by decide +kernel⟩
def m_listed : MS Unit := (mSeq (mIfS (mAnd (mNot (mTru (mVar 2))) (mOpT (dInF false) (mC .none) (mOp dIx (mVar 0) (mC (.int 2)))))
    (mRet (mC (.tuple [(.str "never")])))
    mSkip)
    (mSeq (mIfS (mOpT dEq (mOp dIx (mVar 0) (mC (.int 1))) (mOp dAdd (mTup (mCons (mC (.str "cell")) mNil)) (mVar 1)))
    (mRet (mIf (mTru (mVar 2)) (mCall F_of_values (mCons (mOp dIx (mVar 0) (mC (.int 2))) mNil)) (mC (.tuple [(.str "range"), .none, .none]))))
    mSkip)
    (mSeq (mIfS (mAnd (mTru (mVar 2)) (mOpT dEq (mCall F_of_values (mCons (mOp dIx (mVar 0) (mC (.int 2))) mNil)) (mC (.tuple [(.str "never")]))))
    (mRet (mC (.tuple [(.str "never")])))
    mSkip)
    (mRet (mIf (mOpT (dInD false) (mVar 1) (mCall (F_strict_cells 9) (mCons (mOp dIx (mVar 0) (mC (.int 1))) mNil))) (mC (.tuple [(.str "range"), .none, .none])) (mC (.tuple [(.str "all")])))))))
def F_listed : List D → Option D := runP 3 3 m_listed
theorem ok_listed (T : Txt K mg) : Def1 P wd K mg base "listed" ["tree", "cell", "wanted"] 11 (spP K F_listed) := def_pure T.d_listed sc_listed fun f cdv A outer s H E hr =>
    (db_cons (ds_if (PW.pt (dw_and (dt_not (dt_tru (de_var 2))) (dw_and1 (dt_cmp op_in_seq (od_inF false) de_non (de_ix (de_var 0) de_int) (by rfl)))))
    (db_one (ds_ret (de_cst T.c_NEVER)))
    db_nil)
    (db_cons (ds_if (dt_cmp (op_eqD (hu64 hr)) od_eq (de_ix (de_var 0) de_int) (de_op op_addD od_addD (de_tup (da_cons de_str da_nil)) (de_var 1)) (nomark _))
    (db_one (ds_ret (de_if (dt_tru (de_var 2)) (call_P (ok_of_values T) (hr.mono (by decide)) rfl (da_cons (de_ix (de_var 0) de_int) da_nil)) (de_cst T.c_KNOWN))))
    db_nil)
    (db_cons (ds_if (PW.pt (dw_and (dt_tru (de_var 2)) (dw_and1 (dt_cmp (op_eqD (hu64 hr)) od_eq (call_P (ok_of_values T) (hr.mono (by decide)) rfl (da_cons (de_ix (de_var 0) de_int) da_nil)) (de_cst T.c_NEVER) (nomark _)))))
    (db_one (ds_ret (de_cst T.c_NEVER)))
    db_nil)
    (db_one (ds_ret (de_if (dt_cmp (op_inDD (hu65 hr)) (od_inD false) (de_var 1) (call_P (ok_strict_cells T 9) (hr.mono (by decide)) rfl (da_cons (de_ix (de_var 0) de_int) da_nil)) (by rfl)) (de_cst T.c_KNOWN) (de_cst T.c_ALL)))))))
/-! #### bounds_of -/
abbrev n_bounds_of : List Str := ["tree", "cell", "wanted", "word", "one", "other"]
theorem sc_bounds_of : FnScope n_bounds_of ["tree", "cell", "wanted"] (defScope s_bounds_of) := ⟨rfl, rfl, rfl, by decide +kernel, rfl, by decide +kernel, by decide +kernel⟩
def m_bounds_of (self : List D → Option D) : MS Unit := (mSeq (mSet 3 (mOp dIx (mVar 0) (mC (.int 0))))
    (mSeq (mIfS (mOpT dEq (mVar 3) (mC (.str "value")))
    (mRet (mIf (mOpT dEq (mOp dIx (mVar 0) (mC (.int 1))) (mVar 2)) (mC (.tuple [(.str "all")])) (mC (.tuple [(.str "never")]))))
    mSkip)
    (mSeq (mIfS (mOpT dEq (mVar 3) (mC (.str "field")))
    (mRet (mC (.tuple [(.str "all")])))
    mSkip)
    (mSeq (mIfS (mOpT dEq (mVar 3) (mC (.str "cell")))
    (mRet (mIf (mOpT dEq (mSlT (mVar 0) (mPart (mC (.int 1))) mNo) (mVar 1)) (mTup (mCons (mC (.str "range")) (mCons (mTup (mCons (mVar 2) (mCons (mC (.bool true)) mNil))) (mCons (mTup (mCons (mVar 2) (mCons (mC (.bool true)) mNil))) mNil)))) (mC (.tuple [(.str "all")]))))
    mSkip)
    (mSeq (mIfS (mOpT dEq (mVar 3) (mC (.str "not")))
    (mRet (mCall self (mCons (mOp dIx (mVar 0) (mC (.int 1))) (mCons (mVar 1) (mCons (mBNot (mVar 2)) mNil)))))
    mSkip)
    (mSeq (mIfS (mOpT (dInF false) (mVar 3) (mTup (mCons (mC (.str "and")) (mCons (mC (.str "or")) mNil))))
    (mSeq (mPar 4 5 (mCons (mCall self (mCons (mOp dIx (mVar 0) (mC (.int 1))) (mCons (mVar 1) (mCons (mVar 2) mNil)))) (mCons (mCall self (mCons (mOp dIx (mVar 0) (mC (.int 2))) (mCons (mVar 1) (mCons (mVar 2) mNil)))) mNil)))
    (mRet (mIf (mOpT dEq (mOp dEq (mVar 3) (mC (.str "and"))) (mVar 2)) (mCall F_meet (mCons (mVar 4) (mCons (mVar 5) mNil))) (mCall F_join (mCons (mVar 4) (mCons (mVar 5) mNil))))))
    mSkip)
    (mSeq (mIfS (mOpT dEq (mVar 3) (mC (.str "null")))
    (mSeq (mIfS (mOpT dEq (mOp dIx (mVar 0) (mC (.int 1))) (mOp dAdd (mTup (mCons (mC (.str "cell")) mNil)) (mVar 1)))
    (mRet (mIf (mTru (mVar 2)) (mC (.tuple [(.str "null")])) (mC (.tuple [(.str "range"), .none, .none]))))
    mSkip)
    (mRet (mIf (mOr (mTru (mVar 2)) (mOpT (dInD true) (mVar 1) (mCall (F_strict_cells 9) (mCons (mOp dIx (mVar 0) (mC (.int 1))) mNil)))) (mC (.tuple [(.str "all")])) (mC (.tuple [(.str "range"), .none, .none])))))
    mSkip)
    (mSeq (mIfS (mOpT dEq (mVar 3) (mC (.str "among")))
    (mRet (mCall F_listed (mCons (mVar 0) (mCons (mVar 1) (mCons (mVar 2) mNil)))))
    mSkip)
    (mRet (mCall F_compared (mCons (mVar 0) (mCons (mVar 1) (mCons (mVar 2) mNil)))))))))))))
def F_bounds_of : Nat → List D → Option D
  | 0 => fun _ => none
  | k + 1 => runP 6 3 (m_bounds_of (F_bounds_of k))
theorem ok_bounds_of (T : Txt K mg) : ∀ k : Nat, Def1 P wd K mg base "bounds_of" ["tree", "cell", "wanted"] (12 + k) (spP K (F_bounds_of k))
  | 0 => def_no T.d_bounds_of sc_bounds_of spP_no
  | k + 1 => def_pure T.d_bounds_of sc_bounds_of fun f cdv A outer s H E hr =>
    (db_cons (ds_set (i := 3) sc_bounds_of.nd rfl (by first | exact Or.inl rfl | exact Or.inr rfl) (de_ix (de_var 0) de_int))
    (db_cons (ds_if (dt_cmp (op_eqD (hu64 hr)) od_eq (de_var 3) de_str (nomark _))
    (db_one (ds_ret (de_if (dt_cmp (op_eqD (hu64 hr)) od_eq (de_ix (de_var 0) de_int) (de_var 2) (nomark _)) (de_cst T.c_ALL) (de_cst T.c_NEVER))))
    db_nil)
    (db_cons (ds_if (dt_cmp (op_eqD (hu64 hr)) od_eq (de_var 3) de_str (nomark _))
    (db_one (ds_ret (de_cst T.c_ALL)))
    db_nil)
    (db_cons (ds_if (dt_cmp (op_eqD (hu64 hr)) od_eq (de_var 3) de_str (nomark _))
    (db_one (ds_ret (de_if (dt_cmp (op_eqD (hu64 hr)) od_eq (de_sliceT (de_var 0) (do_some de_int) do_none) (de_var 1) (nomark _)) (de_tup (da_cons de_str (da_cons (de_tup (da_cons (de_var 2) (da_cons de_bl da_nil))) (da_cons (de_tup (da_cons (de_var 2) (da_cons de_bl da_nil))) da_nil)))) (de_cst T.c_ALL))))
    db_nil)
    (db_cons (ds_if (dt_cmp (op_eqD (hu64 hr)) od_eq (de_var 3) de_str (nomark _))
    (db_one (ds_ret (call_P (ok_bounds_of T k) (hr.mono (Nat.le_refl _)) rfl (da_cons (de_ix (de_var 0) de_int) (da_cons (de_var 1) (da_cons (de_not (de_var 2)) da_nil))))))
    db_nil)
    (db_cons (ds_if (dt_cmp op_in_seq (od_inF false) (de_var 3) (de_tup (da_cons de_str (da_cons de_str da_nil))) (by rfl))
    (db_cons (ds_par (i := 4) (j := 5) rfl sc_bounds_of.nd rfl rfl (by decide) rfl rfl (da_cons (call_P (ok_bounds_of T k) (hr.mono (Nat.le_refl _)) rfl (da_cons (de_ix (de_var 0) de_int) (da_cons (de_var 1) (da_cons (de_var 2) da_nil)))) (da_cons (call_P (ok_bounds_of T k) (hr.mono (Nat.le_refl _)) rfl (da_cons (de_ix (de_var 0) de_int) (da_cons (de_var 1) (da_cons (de_var 2) da_nil)))) da_nil)) (by rfl))
    (db_one (ds_ret (de_if (dt_cmp (op_eqD (hu64 hr)) od_eq (de_cmp (op_eqD (hu64 hr)) od_eq (de_var 3) de_str (nomark _)) (de_var 2) (nomark _)) (call_P (ok_meet T) (hr.mono (Nat.le_trans (by decide : 2 ≤ 12) (Nat.le_add_right 12 k))) rfl (da_cons (de_var 4) (da_cons (de_var 5) da_nil))) (call_P (ok_join T) (hr.mono (Nat.le_trans (by decide : 3 ≤ 12) (Nat.le_add_right 12 k))) rfl (da_cons (de_var 4) (da_cons (de_var 5) da_nil)))))))
    db_nil)
    (db_cons (ds_if (dt_cmp (op_eqD (hu64 hr)) od_eq (de_var 3) de_str (nomark _))
    (db_cons (ds_if (dt_cmp (op_eqD (hu64 hr)) od_eq (de_ix (de_var 0) de_int) (de_op op_addD od_addD (de_tup (da_cons de_str da_nil)) (de_var 1)) (nomark _))
    (db_one (ds_ret (de_if (dt_tru (de_var 2)) (de_cst T.c_NULL) (de_cst T.c_KNOWN))))
    db_nil)
    (db_one (ds_ret (de_if (PW.pt (dw_or (dt_tru (de_var 2)) (dw_or1 (dt_cmp (op_notInDD (hu65 hr)) (od_inD true) (de_var 1) (call_P (ok_strict_cells T 9) (hr.mono (Nat.le_trans (by decide : 10 ≤ 12) (Nat.le_add_right 12 k))) rfl (da_cons (de_ix (de_var 0) de_int) da_nil)) (by rfl))))) (de_cst T.c_ALL) (de_cst T.c_KNOWN)))))
    db_nil)
    (db_cons (ds_if (dt_cmp (op_eqD (hu64 hr)) od_eq (de_var 3) de_str (nomark _))
    (db_one (ds_ret (call_P (ok_listed T) (hr.mono (Nat.le_trans (by decide : 11 ≤ 12) (Nat.le_add_right 12 k))) rfl (da_cons (de_var 0) (da_cons (de_var 1) (da_cons (de_var 2) da_nil))))))
    db_nil)
    (db_one (ds_ret (call_P (ok_compared T) (hr.mono (Nat.le_trans (by decide : 11 ≤ 12) (Nat.le_add_right 12 k))) rfl (da_cons (de_var 0) (da_cons (de_var 1) (da_cons (de_var 2) da_nil))))))))))))))
/-! #### is_within -/
abbrev n_is_within : List Str := ["bounds", "value"]
theorem sc_is_within : FnScope n_is_within ["bounds", "value"] (defScope s_is_within) := ⟨rfl, rfl, rfl, by decide +kernel, rfl, by decide +kernel, by decide +kernel⟩
def m_is_within : MS Unit := (mSeq (mIfS (mOpT dNe (mOp dIx (mVar 0) (mC (.int 0))) (mC (.str "range")))
    (mRet (mBOr (mOp dEq (mVar 0) (mC (.tuple [(.str "all")]))) (mBAnd (mOp dEq (mVar 0) (mC (.tuple [(.str "null")]))) (mOp dIs (mVar 1) (mC .none)))))
    mSkip)
    (mSeq (mIfS (mOpT dIs (mVar 1) (mC .none))
    (mRet (mC (.bool false)))
    mSkip)
    (mRet (mBAnd (mBNot (mCall F_is_empty (mCons (mOp dIx (mVar 0) (mC (.int 1))) (mCons (mTup (mCons (mVar 1) (mCons (mC (.bool true)) mNil))) mNil)))) (mBNot (mCall F_is_empty (mCons (mTup (mCons (mVar 1) (mCons (mC (.bool true)) mNil))) (mCons (mOp dIx (mVar 0) (mC (.int 2))) mNil))))))))
def F_is_within : List D → Option D := runP 2 2 m_is_within
theorem ok_is_within (T : Txt K mg) : Def1 P wd K mg base "is_within" ["bounds", "value"] 2 (spP K F_is_within) := def_pure T.d_is_within sc_is_within fun f cdv A outer s H E hr =>
    (db_cons (ds_if (dt_cmp (op_neD (hu64 hr)) od_ne (de_ix (de_var 0) de_int) de_str (nomark _))
    (db_one (ds_ret (de_or (de_cmp (op_eqD (hu64 hr)) od_eq (de_var 0) (de_cst T.c_ALL) (nomark _)) (de_and1 (de_and (de_cmp (op_eqD (hu64 hr)) od_eq (de_var 0) (de_cst T.c_NULL) (nomark _)) (de_and1 (de_cmp op_isN od_is (de_var 1) de_non (nomark _))))))))
    db_nil)
    (db_cons (ds_if (dt_cmp op_isN od_is (de_var 1) de_non (nomark _))
    (db_one (ds_ret de_bl))
    db_nil)
    (db_one (ds_ret (de_and (de_not (call_P (ok_is_empty T) (hr.mono (by decide)) rfl (da_cons (de_ix (de_var 0) de_int) (da_cons (de_tup (da_cons (de_var 1) (da_cons de_bl da_nil))) da_nil)))) (de_and1 (de_not (call_P (ok_is_empty T) (hr.mono (by decide)) rfl (da_cons (de_tup (da_cons (de_var 1) (da_cons de_bl da_nil))) (da_cons (de_ix (de_var 0) de_int) da_nil))))))))))
/-! #### bounds_of_all -/
abbrev n_bounds_of_all : List Str := ["parts", "cell", "found", "part"]
theorem sc_bounds_of_all : FnScope n_bounds_of_all ["parts", "cell"] (defScope s_bounds_of_all) := ⟨rfl, rfl, rfl, by decide +kernel, rfl, by decide +kernel, by decide +kernel⟩
def lb_bounds_of_all_1 : MS Unit := (mSet 2 (mCall F_meet (mCons (mVar 2) (mCons (mCall (F_bounds_of 9) (mCons (mVar 3) (mCons (mVar 1) (mCons (mC (.bool true)) mNil)))) mNil))))
def m_bounds_of_all : MS Unit := (mSeq (mSet 2 (mC (.tuple [(.str "all")])))
    (mSeq (mFor (mItL (mVar 0)) (bName 3) lb_bounds_of_all_1)
    (mRet (mVar 2))))
def F_bounds_of_all : List D → Option D := runP 4 2 m_bounds_of_all
theorem ok_bounds_of_all (T : Txt K mg) : Def1 P wd K mg base "bounds_of_all" ["parts", "cell"] 22 (spP K F_bounds_of_all) := def_pure T.d_bounds_of_all sc_bounds_of_all fun f cdv A outer s H E hr =>
    (db_cons (ds_set (i := 2) sc_bounds_of_all.nd rfl (by first | exact Or.inl rfl | exact Or.inr rfl) (de_cst T.c_ALL))
    (db_cons (ds_for PassesOwn.never rfl (di_list (de_var 0)) (dg_name (i := 3) sc_bounds_of_all.nd rfl (by first | exact Or.inl rfl | exact Or.inr rfl))
    (db_one (ds_set (i := 2) sc_bounds_of_all.nd rfl (by first | exact Or.inl rfl | exact Or.inr rfl) (call_P (ok_meet T) (hr.mono (by decide)) rfl (da_cons (de_var 2) (da_cons (call_P (ok_bounds_of T 9) (hr.mono (by decide)) rfl (da_cons (de_var 3) (da_cons (de_var 1) (da_cons de_bl da_nil)))) da_nil))))))
    (db_one (ds_ret (de_var 2)))))
/-! #### sure_bounds -/
abbrev n_sure_bounds : List Str := ["condition", "cell"]
theorem sc_sure_bounds : FnScope n_sure_bounds ["condition", "cell"] (defScope s_sure_bounds) := ⟨rfl, rfl, rfl, by decide +kernel, rfl, by decide +kernel, by decide +kernel⟩
def m_sure_bounds : MS Unit := (mRet (mCall F_bounds_of_all (mCons (mCall (F_conjuncts 9) (mCons (mVar 0) mNil)) (mCons (mVar 1) mNil))))
def F_sure_bounds : List D → Option D := runP 2 2 m_sure_bounds
theorem ok_sure_bounds (T : Txt K mg) : Def1 P wd K mg base "sure_bounds" ["condition", "cell"] 23 (spP K F_sure_bounds) := def_pure T.d_sure_bounds sc_sure_bounds fun f cdv A outer s H E hr =>
    (db_one (ds_ret (call_P (ok_bounds_of_all T) (hr.mono (by decide)) rfl (da_cons (call_P (ok_conjuncts T 9) (hr.mono (by decide)) rfl (da_cons (de_var 0) da_nil)) (da_cons (de_var 1) da_nil)))))
/-! #### single_value -/
abbrev n_single_value : List Str := ["bounds"]
theorem sc_single_value : FnScope n_single_value ["bounds"] (defScope s_single_value) := ⟨rfl, rfl, rfl, by decide +kernel, rfl, by decide +kernel, by decide +kernel⟩
def m_single_value : MS Unit := (mSeq (mIfS (mAnd (mOpT dEq (mOp dIx (mVar 0) (mC (.int 0))) (mC (.str "range"))) (mAnd (mOpT dIsNot (mOp dIx (mVar 0) (mC (.int 1))) (mC .none)) (mOpT dEq (mOp dIx (mVar 0) (mC (.int 1))) (mOp dIx (mVar 0) (mC (.int 2))))))
    (mRet (mTup (mCons (mOp dIx (mOp dIx (mVar 0) (mC (.int 1))) (mC (.int 0))) mNil)))
    mSkip)
    (mRet (mC .none)))
def F_single_value : List D → Option D := runP 1 1 m_single_value
theorem ok_single_value (T : Txt K mg) : Def1 P wd K mg base "single_value" ["bounds"] 1 (spP K F_single_value) := def_pure T.d_single_value sc_single_value fun f cdv A outer s H E hr =>
    (db_cons (ds_if (PW.pt (dw_and (dt_cmp (op_eqD (hu64 hr)) od_eq (de_ix (de_var 0) de_int) de_str (nomark _)) (dw_and (dt_cmp op_notN od_isNot (de_ix (de_var 0) de_int) de_non (nomark _)) (dw_and1 (dt_cmp (op_eqD (hu64 hr)) od_eq (de_ix (de_var 0) de_int) (de_ix (de_var 0) de_int) (nomark _))))))
    (db_one (ds_ret (de_tup (da_cons (de_ix (de_ix (de_var 0) de_int) de_int) da_nil))))
    db_nil)
    (db_one (ds_ret de_non)))
/-! #### _law_draw -/
abbrev n__law_draw : List Str := ["state", "script", "size", "cell", "mixed", "digit"]
theorem sc__law_draw : FnScope n__law_draw ["state", "script", "size"] (defScope s__law_draw) := ⟨rfl, rfl, rfl, by decide +kernel, rfl, by decide +kernel, by decide +kernel⟩
def m__law_draw : MS Dc := (mSeq (mIfS (mOpT dEq (mStIx 0 (mC (.int 1))) (mC (.int 0)))
    (mSeq (mSet 3 (mC (.int 0)))
    (mSeq (mIfS (mOpT dGtI (mRawLen 1) (mC (.int 0)))
    (mSet 3 (mRawIx 1 (mOp dMod (mStIx 0 (mC (.int 0))) (mRawLen 1))))
    mSkip)
    (mSeq (mIfS (mOpT dLtI (mVar 3) (mC (.int 0)))
    (mSet 3 (mOp dSub (mC (.int 1)) (mOp dMul (mC (.int 2)) (mVar 3))))
    mSkip)
    (mSeq (mSet 4 (mOp dMod (mCall dInt (mCons (mOp dMul (mOp dAdd (mOp dAdd (mVar 3) (mOp dMul (mStIx 0 (mC (.int 0))) (mC (.int 7919)))) (mC (.int 1))) (mC (.int 48271))) mNil)) (mC (.int 2147483647))))
    (mSeq (mStSet 0 (mC (.int 1)) (mOp dMod (mCall dInt (mCons (mOp dAdd (mOp dMul (mVar 4) (mC (.int 69621))) (mOp dMul (mStIx 0 (mC (.int 0))) (mC (.int 104729)))) mNil)) (mC (.int 4294967291))))
    (mSeq (mIfS (mAnd (mOpT dGeI (mVar 3) (mOp dPow (mC (.int 10)) (mC (.int 18)))) (mOpT dLtI (mStIx 0 (mC (.int 0))) (mRawLen 1)))
    (mStSet 0 (mC (.int 1)) (mVar 3))
    mSkip)
    (mStSet 0 (mC (.int 0)) (mOp dAdd (mStIx 0 (mC (.int 0))) (mC (.int 1))))))))))
    mSkip)
    (mSeq (mSet 5 (mOp dMod (mCall dInt (mCons (mStIx 0 (mC (.int 1))) mNil)) (mVar 2)))
    (mSeq (mStSet 0 (mC (.int 1)) (mOp dDiv (mStIx 0 (mC (.int 1))) (mVar 2)))
    (mRet (mVar 5)))))
def F__law_draw : List SV → Dc → Option (D × Dc) := runG 6 3 m__law_draw
theorem ok__law_draw (T : Txt K mg) : Def1 P wd K mg base "_law_draw" ["state", "script", "size"] 1 (spG K (drC K) F__law_draw) := def_ghost T.d__law_draw sc__law_draw fun f cdv A outer s H E hr =>
    (db_cons (ds_if (dt_cmp (op_eqD (hu64 hr)) od_eq (de_stIx 0 de_int) de_int (nomark _))
    (db_cons (ds_set (i := 3) sc__law_draw.nd rfl (by first | exact Or.inl rfl | exact Or.inr rfl) de_int)
    (db_cons (ds_if (dt_cmp op_gt od_gtI (de_rawLen 1 rfl T.z_len) de_int (nomark _))
    (db_one (ds_set (i := 3) sc__law_draw.nd rfl (by first | exact Or.inl rfl | exact Or.inr rfl) (de_rawIx 1 (de_op op_modN od_mod (de_stIx 0 de_int) (de_rawLen 1 rfl T.z_len)))))
    db_nil)
    (db_cons (ds_if (dt_cmp op_lt od_ltI (de_var 3) de_int (nomark _))
    (db_one (ds_set (i := 3) sc__law_draw.nd rfl (by first | exact Or.inl rfl | exact Or.inr rfl) (de_op op_sub od_sub de_int (de_op op_mul od_mul de_int (de_var 3)))))
    db_nil)
    (db_cons (ds_set (i := 4) sc__law_draw.nd rfl (by first | exact Or.inl rfl | exact Or.inr rfl) (de_op op_modN od_mod (de_callTy call_int1 cd_int rfl T.z_int (by decide +kernel) (da_cons (de_op op_mul od_mul (de_op op_addD od_addD (de_op op_addD od_addD (de_var 3) (de_op op_mul od_mul (de_stIx 0 de_int) de_int)) de_int) de_int) da_nil)) de_int))
    (db_cons (ds_stSet 0 de_int (de_op op_modN od_mod (de_callTy call_int1 cd_int rfl T.z_int (by decide +kernel) (da_cons (de_op op_addD od_addD (de_op op_mul od_mul (de_var 4) de_int) (de_op op_mul od_mul (de_stIx 0 de_int) de_int)) da_nil)) de_int))
    (db_cons (ds_if (PW.pt (dw_and (dt_cmp op_ge od_geI (de_var 3) (de_op op_pow od_pow de_int de_int) (nomark _)) (dw_and1 (dt_cmp op_lt od_ltI (de_stIx 0 de_int) (de_rawLen 1 rfl T.z_len) (nomark _)))))
    (db_one (ds_stSet 0 de_int (de_var 3)))
    db_nil)
    (db_one (ds_stSet 0 de_int (de_op op_addD od_addD (de_stIx 0 de_int) de_int)))))))))
    db_nil)
    (db_cons (ds_set (i := 5) sc__law_draw.nd rfl (by first | exact Or.inl rfl | exact Or.inr rfl) (de_op op_modN od_mod (de_callTy call_int1 cd_int rfl T.z_int (by decide +kernel) (da_cons (de_stIx 0 de_int) da_nil)) (de_var 2)))
    (db_cons (ds_stSet 0 de_int (de_op op_fdivN od_div (de_stIx 0 de_int) (de_var 2)))
    (db_one (ds_ret (de_var 5))))))
/-! #### _law_pick -/
abbrev n__law_pick : List Str := ["state", "script", "items"]
theorem sc__law_pick : FnScope n__law_pick ["state", "script", "items"] (defScope s__law_pick) := ⟨rfl, rfl, rfl, by decide +kernel, rfl, by decide +kernel, by decide +kernel⟩
def m__law_pick : MS Dc := (mRet (mOp dIx (mVar 2) (mCallG F__law_draw (gConsS 0 (gConsS 1 (gCons (mCall dLen (mCons (mVar 2) mNil)) gNil))))))
def F__law_pick : List SV → Dc → Option (D × Dc) := runG 3 3 m__law_pick
theorem ok__law_pick (T : Txt K mg) : Def1 P wd K mg base "_law_pick" ["state", "script", "items"] 2 (spG K (drC K) F__law_pick) := def_ghost T.d__law_pick sc__law_pick fun f cdv A outer s H E hr =>
    (db_one (ds_ret (de_ix (de_var 2) (call_G (ok__law_draw T) (hr.mono (by decide)) rfl (dg_st (i := 0) (dg_st (i := 1) (dg_cons (de_callB call_len cd_len rfl T.z_len (by decide +kernel) (da_cons (de_var 2) da_nil)) dg_nil)))))))
/-! #### _law_some -/
abbrev n__law_some : List Str := ["state", "script", "kind"]
theorem sc__law_some : FnScope n__law_some ["state", "script", "kind"] (defScope s__law_some) := ⟨rfl, rfl, rfl, by decide +kernel, rfl, by decide +kernel, by decide +kernel⟩
def m__law_some : MS Dc := (mSeq (mIfS (mOpT dEq (mCallG F__law_draw (gConsS 0 (gConsS 1 (gCons (mC (.int 6)) gNil)))) (mC (.int 0)))
    (mRet (mC .none))
    mSkip)
    (mSeq (mIfS (mOpT dEq (mVar 2) (mC (.str "int")))
    (mRet (mOp dSub (mCallG F__law_draw (gConsS 0 (gConsS 1 (gCons (mC (.int 6)) gNil)))) (mC (.int 2))))
    mSkip)
    (mSeq (mIfS (mOpT dEq (mVar 2) (mC (.str "bool")))
    (mRet (mOp dEq (mCallG F__law_draw (gConsS 0 (gConsS 1 (gCons (mC (.int 2)) gNil)))) (mC (.int 0))))
    mSkip)
    (mRet (mCallG F__law_pick (gConsS 0 (gConsS 1 (gCons (mL (mLst (mCons (mC (.str "")) (mCons (mC (.str "a")) (mCons (mC (.str "b")) (mCons (mC (.str "ab")) (mCons (mC (.str "b a")) mNil))))))) gNil))))))))
def F__law_some : List SV → Dc → Option (D × Dc) := runG 3 3 m__law_some
theorem ok__law_some (T : Txt K mg) : Def1 P wd K mg base "_law_some" ["state", "script", "kind"] 3 (spG K (drC K) F__law_some) := def_ghost T.d__law_some sc__law_some fun f cdv A outer s H E hr =>
    (db_cons (ds_if (dt_cmp (op_eqD (hu64 hr)) od_eq (call_G (ok__law_draw T) (hr.mono (by decide)) rfl (dg_st (i := 0) (dg_st (i := 1) (dg_cons de_int dg_nil)))) de_int (nomark _))
    (db_one (ds_ret de_non))
    db_nil)
    (db_cons (ds_if (dt_cmp (op_eqD (hu64 hr)) od_eq (de_var 2) de_str (nomark _))
    (db_one (ds_ret (de_op op_sub od_sub (call_G (ok__law_draw T) (hr.mono (by decide)) rfl (dg_st (i := 0) (dg_st (i := 1) (dg_cons de_int dg_nil)))) de_int)))
    db_nil)
    (db_cons (ds_if (dt_cmp (op_eqD (hu64 hr)) od_eq (de_var 2) de_str (nomark _))
    (db_one (ds_ret (de_cmp (op_eqD (hu64 hr)) od_eq (call_G (ok__law_draw T) (hr.mono (by decide)) rfl (dg_st (i := 0) (dg_st (i := 1) (dg_cons de_int dg_nil)))) de_int (nomark _))))
    db_nil)
    (db_one (ds_ret (call_G (ok__law_pick T) (hr.mono (by decide)) rfl (dg_st (i := 0) (dg_st (i := 1) (dg_cons (de_fresh (df_lst (da_cons de_str (da_cons de_str (da_cons de_str (da_cons de_str (da_cons de_str da_nil))))))) dg_nil)))))))))
/-! #### _law_leaf -/
abbrev n__law_leaf : List Str := ["state", "script", "kind", "cells", "own", "cell"]
theorem sc__law_leaf : FnScope n__law_leaf ["state", "script", "kind", "cells"] (defScope s__law_leaf) := ⟨rfl, rfl, rfl, by decide +kernel, rfl, by decide +kernel, by decide +kernel⟩
def m__law_leaf : MS Dc := (mSeq (mThen (mSetF 4 (mComp (mItL (mVar 3)) [5] (bName 5) (mOpT dEq (mOp dIx (mVar 5) (mC (.int 2))) (mVar 2)) (mVar 5))) 4)
    (mSeq (mIfS (mAnd (mOpT dNe (mVar 4) (mL (mLst mNil))) (mOpT dGtI (mCallG F__law_draw (gConsS 0 (gConsS 1 (gCons (mC (.int 3)) gNil)))) (mC (.int 0))))
    (mRet (mOp dAdd (mTup (mCons (mC (.str "cell")) mNil)) (mSlT (mCallG F__law_pick (gConsS 0 (gConsS 1 (gCons (mVar 4) gNil)))) mNo (mPart (mC (.int 2))))))
    mSkip)
    (mRet (mTup (mCons (mC (.str "value")) (mCons (mCallG F__law_some (gConsS 0 (gConsS 1 (gCons (mVar 2) gNil)))) mNil))))))
def F__law_leaf : List SV → Dc → Option (D × Dc) := runG 6 4 m__law_leaf
theorem ok__law_leaf (T : Txt K mg) : Def1 P wd K mg base "_law_leaf" ["state", "script", "kind", "cells"] 4 (spG K (drC K) F__law_leaf) := def_ghost T.d__law_leaf sc__law_leaf fun f cdv A outer s H E hr =>
    (db_cons (ds_then 4 (ds_setLc (own := [("cell", 5)]) rfl sc__law_leaf.nd rfl rfl (sw_true rfl rfl rfl (by decide +kernel)) (di_list (de_var 3)) (blkOk_by (N := n__law_leaf) (sc := defScope s__law_leaf) (by decide +kernel)) (fun _ _ _ _ _ => (dg_name (i := 5) sc__law_leaf.nd rfl (by first | exact Or.inl rfl | exact Or.inr rfl))) (fun _ _ _ _ _ => (dts_one (dt_cmp (op_eqD (hu64 hr)) od_eq (de_ix (de_var 5) de_int) (de_var 2) (nomark _)))) (fun _ _ _ _ _ => (de_var 5))))
    (db_cons (ds_if (PW.pt (dw_and (dt_cmp (op_neD (hu64 hr)) od_ne (de_var 4) (de_fresh (df_lst da_nil)) (nomark _)) (dw_and1 (dt_cmp op_gt od_gtI (call_G (ok__law_draw T) (hr.mono (by decide)) rfl (dg_st (i := 0) (dg_st (i := 1) (dg_cons de_int dg_nil)))) de_int (nomark _)))))
    (db_one (ds_ret (de_op op_addD od_addD (de_tup (da_cons de_str da_nil)) (de_sliceT (call_G (ok__law_pick T) (hr.mono (by decide)) rfl (dg_st (i := 0) (dg_st (i := 1) (dg_cons (de_var 4) dg_nil)))) do_none (do_some de_int)))))
    db_nil)
    (db_one (ds_ret (de_tup (da_cons de_str (da_cons (call_G (ok__law_some T) (hr.mono (by decide)) rfl (dg_st (i := 0) (dg_st (i := 1) (dg_cons (de_var 2) dg_nil)))) da_nil)))))))
/-! #### _law_expr -/
abbrev n__law_expr : List Str := ["state", "script", "kind", "cells", "fuel", "word", "inner", "one", "turn"]
theorem sc__law_expr : FnScope n__law_expr ["state", "script", "kind", "cells", "fuel"] (defScope s__law_expr) := ⟨rfl, rfl, rfl, by decide +kernel, rfl, by decide +kernel, by decide +kernel⟩
def m__law_expr (self : List SV → Dc → Option (D × Dc)) : MS Dc := (mSeq (mIfS (mOr (mOpT dEq (mVar 4) (mC (.int 0))) (mOr (mOpT dEq (mVar 2) (mC (.str "text"))) (mOpT dEq (mCallG F__law_draw (gConsS 0 (gConsS 1 (gCons (mC (.int 4)) gNil)))) (mC (.int 0)))))
    (mRet (mCallG F__law_leaf (gConsS 0 (gConsS 1 (gCons (mVar 2) (gCons (mVar 3) gNil))))))
    mSkip)
    (mSeq (mIfS (mOpT dEq (mVar 2) (mC (.str "int")))
    (mSeq (mSet 5 (mCallG F__law_pick (gConsS 0 (gConsS 1 (gCons (mL (mLst (mCons (mC (.str "plus")) (mCons (mC (.str "minus")) (mCons (mC (.str "times")) mNil))))) gNil)))))
    (mRet (mTup (mCons (mVar 5) (mCons (mCallG self (gConsS 0 (gConsS 1 (gCons (mVar 2) (gCons (mVar 3) (gCons (mOp dSub (mVar 4) (mC (.int 1))) gNil)))))) (mCons (mCallG self (gConsS 0 (gConsS 1 (gCons (mVar 2) (gCons (mVar 3) (gCons (mOp dSub (mVar 4) (mC (.int 1))) gNil)))))) mNil))))))
    mSkip)
    (mSeq (mSet 5 (mCallG F__law_pick (gConsS 0 (gConsS 1 (gCons (mL (mLst (mCons (mC (.str "same")) (mCons (mC (.str "less")) (mCons (mC (.str "same")) (mCons (mC (.str "less")) (mCons (mC (.str "and")) (mCons (mC (.str "or")) (mCons (mC (.str "and")) (mCons (mC (.str "not")) (mCons (mC (.str "null")) (mCons (mC (.str "among")) mNil)))))))))))) gNil)))))
    (mSeq (mSet 6 (mCallG F__law_pick (gConsS 0 (gConsS 1 (gCons (mL (mLst (mCons (mC (.str "int")) (mCons (mC (.str "int")) (mCons (mC (.str "text")) (mCons (mC (.str "bool")) mNil)))))) gNil)))))
    (mSeq (mIfS (mOpT (dInF false) (mVar 5) (mL (mLst (mCons (mC (.str "and")) (mCons (mC (.str "or")) (mCons (mC (.str "not")) mNil))))))
    (mSet 6 (mC (.str "bool")))
    mSkip)
    (mSeq (mSet 7 (mCallG self (gConsS 0 (gConsS 1 (gCons (mVar 6) (gCons (mVar 3) (gCons (mOp dSub (mVar 4) (mC (.int 1))) gNil)))))))
    (mSeq (mIfS (mOpT (dInF false) (mVar 5) (mL (mLst (mCons (mC (.str "not")) (mCons (mC (.str "null")) mNil)))))
    (mRet (mTup (mCons (mVar 5) (mCons (mVar 7) mNil))))
    mSkip)
    (mSeq (mIfS (mOpT dEq (mVar 5) (mC (.str "among")))
    (mRet (mTup (mCons (mVar 5) (mCons (mVar 7) (mCons (mL (mComp (mRng1 (mCons (mOp dAdd (mC (.int 1)) (mCallG F__law_draw (gConsS 0 (gConsS 1 (gCons (mC (.int 3)) gNil))))) mNil)) [8] (bName 8) mYes (mCallG F__law_some (gConsS 0 (gConsS 1 (gCons (mVar 6) gNil)))))) mNil)))))
    mSkip)
    (mRet (mTup (mCons (mVar 5) (mCons (mVar 7) (mCons (mCallG self (gConsS 0 (gConsS 1 (gCons (mVar 6) (gCons (mVar 3) (gCons (mOp dSub (mVar 4) (mC (.int 1))) gNil)))))) mNil)))))))))))))
def F__law_expr : Nat → List SV → Dc → Option (D × Dc)
  | 0 => fun _ _ => none
  | k + 1 => runG 9 5 (m__law_expr (F__law_expr k))
theorem ok__law_expr (T : Txt K mg) : ∀ k : Nat, Def1 P wd K mg base "_law_expr" ["state", "script", "kind", "cells", "fuel"] (5 + k) (spG K (drC K) (F__law_expr k))
  | 0 => def_no T.d__law_expr sc__law_expr spG_no
  | k + 1 => def_ghost T.d__law_expr sc__law_expr fun f cdv A outer s H E hr =>
    (db_cons (ds_if (PW.pt (dw_or (dt_cmp (op_eqD (hu64 hr)) od_eq (de_var 4) de_int (nomark _)) (dw_or (dt_cmp (op_eqD (hu64 hr)) od_eq (de_var 2) de_str (nomark _)) (dw_or1 (dt_cmp (op_eqD (hu64 hr)) od_eq (call_G (ok__law_draw T) (hr.mono (Nat.le_trans (by decide : 1 ≤ 5) (Nat.le_add_right 5 k))) rfl (dg_st (i := 0) (dg_st (i := 1) (dg_cons de_int dg_nil)))) de_int (nomark _))))))
    (db_one (ds_ret (call_G (ok__law_leaf T) (hr.mono (Nat.le_trans (by decide : 4 ≤ 5) (Nat.le_add_right 5 k))) rfl (dg_st (i := 0) (dg_st (i := 1) (dg_cons (de_var 2) (dg_cons (de_var 3) dg_nil)))))))
    db_nil)
    (db_cons (ds_if (dt_cmp (op_eqD (hu64 hr)) od_eq (de_var 2) de_str (nomark _))
    (db_cons (ds_set (i := 5) sc__law_expr.nd rfl (by first | exact Or.inl rfl | exact Or.inr rfl) (call_G (ok__law_pick T) (hr.mono (Nat.le_trans (by decide : 2 ≤ 5) (Nat.le_add_right 5 k))) rfl (dg_st (i := 0) (dg_st (i := 1) (dg_cons (de_fresh (df_lst (da_cons de_str (da_cons de_str (da_cons de_str da_nil))))) dg_nil)))))
    (db_one (ds_ret (de_tup (da_cons (de_var 5) (da_cons (call_G (ok__law_expr T k) (hr.mono (Nat.le_refl _)) rfl (dg_st (i := 0) (dg_st (i := 1) (dg_cons (de_var 2) (dg_cons (de_var 3) (dg_cons (de_op op_sub od_sub (de_var 4) de_int) dg_nil)))))) (da_cons (call_G (ok__law_expr T k) (hr.mono (Nat.le_refl _)) rfl (dg_st (i := 0) (dg_st (i := 1) (dg_cons (de_var 2) (dg_cons (de_var 3) (dg_cons (de_op op_sub od_sub (de_var 4) de_int) dg_nil)))))) da_nil)))))))
    db_nil)
    (db_cons (ds_set (i := 5) sc__law_expr.nd rfl (by first | exact Or.inl rfl | exact Or.inr rfl) (call_G (ok__law_pick T) (hr.mono (Nat.le_trans (by decide : 2 ≤ 5) (Nat.le_add_right 5 k))) rfl (dg_st (i := 0) (dg_st (i := 1) (dg_cons (de_fresh (df_lst (da_cons de_str (da_cons de_str (da_cons de_str (da_cons de_str (da_cons de_str (da_cons de_str (da_cons de_str (da_cons de_str (da_cons de_str (da_cons de_str da_nil)))))))))))) dg_nil)))))
    (db_cons (ds_set (i := 6) sc__law_expr.nd rfl (by first | exact Or.inl rfl | exact Or.inr rfl) (call_G (ok__law_pick T) (hr.mono (Nat.le_trans (by decide : 2 ≤ 5) (Nat.le_add_right 5 k))) rfl (dg_st (i := 0) (dg_st (i := 1) (dg_cons (de_fresh (df_lst (da_cons de_str (da_cons de_str (da_cons de_str (da_cons de_str da_nil)))))) dg_nil)))))
    (db_cons (ds_if (dt_cmp op_in_seq (od_inF false) (de_var 5) (de_fresh (df_lst (da_cons de_str (da_cons de_str (da_cons de_str da_nil))))) (by rfl))
    (db_one (ds_set (i := 6) sc__law_expr.nd rfl (by first | exact Or.inl rfl | exact Or.inr rfl) de_str))
    db_nil)
    (db_cons (ds_set (i := 7) sc__law_expr.nd rfl (by first | exact Or.inl rfl | exact Or.inr rfl) (call_G (ok__law_expr T k) (hr.mono (Nat.le_refl _)) rfl (dg_st (i := 0) (dg_st (i := 1) (dg_cons (de_var 6) (dg_cons (de_var 3) (dg_cons (de_op op_sub od_sub (de_var 4) de_int) dg_nil)))))))
    (db_cons (ds_if (dt_cmp op_in_seq (od_inF false) (de_var 5) (de_fresh (df_lst (da_cons de_str (da_cons de_str da_nil)))) (by rfl))
    (db_one (ds_ret (de_tup (da_cons (de_var 5) (da_cons (de_var 7) da_nil)))))
    db_nil)
    (db_cons (ds_if (dt_cmp (op_eqD (hu64 hr)) od_eq (de_var 5) de_str (nomark _))
    (db_one (ds_ret (de_tup (da_cons (de_var 5) (da_cons (de_var 7) (da_cons (de_fresh (df_comp (own := [("turn", 8)]) rfl sc__law_expr.nd (di_range1 rfl T.z_range (da_cons (de_op op_addD od_addD de_int (call_G (ok__law_draw T) (hr.mono (Nat.le_trans (by decide : 1 ≤ 5) (Nat.le_add_right 5 k))) rfl (dg_st (i := 0) (dg_st (i := 1) (dg_cons de_int dg_nil))))) da_nil)) (blkOk_by (N := n__law_expr) (sc := defScope s__law_expr) (by decide +kernel)) (fun _ _ _ _ _ => (dg_name (i := 8) sc__law_expr.nd rfl (by first | exact Or.inl rfl | exact Or.inr rfl))) (fun _ _ _ _ _ => dts_nil) (fun _ _ _ _ _ => (call_G (ok__law_some T) (hr.mono (Nat.le_trans (by decide : 3 ≤ 5) (Nat.le_add_right 5 k))) rfl (dg_st (i := 0) (dg_st (i := 1) (dg_cons (de_var 6) dg_nil))))))) da_nil))))))
    db_nil)
    (db_one (ds_ret (de_tup (da_cons (de_var 5) (da_cons (de_var 7) (da_cons (call_G (ok__law_expr T k) (hr.mono (Nat.le_refl _)) rfl (dg_st (i := 0) (dg_st (i := 1) (dg_cons (de_var 6) (dg_cons (de_var 3) (dg_cons (de_op op_sub od_sub (de_var 4) de_int) dg_nil)))))) da_nil))))))))))))))
/-! #### _law_strict -/
abbrev n__law_strict : List Str := ["tree"]
theorem sc__law_strict : FnScope n__law_strict ["tree"] (defScope s__law_strict) := ⟨rfl, rfl, rfl, by decide +kernel, rfl, by decide +kernel, by decide +kernel⟩
def m__law_strict (self : List D → Option D) : MS Unit := (mSeq (mIfS (mOpT dEq (mOp dIx (mVar 0) (mC (.int 0))) (mC (.str "cell")))
    (mRetF (mLst (mCons (mSlT (mVar 0) (mPart (mC (.int 1))) mNo) mNil)))
    mSkip)
    (mSeq (mIfS (mOpT (dInF false) (mOp dIx (mVar 0) (mC (.int 0))) (mL (mLst (mCons (mC (.str "plus")) (mCons (mC (.str "minus")) (mCons (mC (.str "times")) mNil))))))
    (mRet (mOp dAdd (mCall self (mCons (mOp dIx (mVar 0) (mC (.int 1))) mNil)) (mCall self (mCons (mOp dIx (mVar 0) (mC (.int 2))) mNil))))
    mSkip)
    (mRetF (mLst mNil))))
def F__law_strict : Nat → List D → Option D
  | 0 => fun _ => none
  | k + 1 => runP 1 1 (m__law_strict (F__law_strict k))
theorem ok__law_strict (T : Txt K mg) : ∀ k : Nat, Def1 P wd K mg base "_law_strict" ["tree"] (1 + k) (spP K (F__law_strict k))
  | 0 => def_no T.d__law_strict sc__law_strict spP_no
  | k + 1 => def_pure T.d__law_strict sc__law_strict fun f cdv A outer s H E hr =>
    (db_cons (ds_if (dt_cmp (op_eqD (hu64 hr)) od_eq (de_ix (de_var 0) de_int) de_str (nomark _))
    (db_one (ds_retF (df_lst (da_cons (de_sliceT (de_var 0) (do_some de_int) do_none) da_nil))))
    db_nil)
    (db_cons (ds_if (dt_cmp op_in_seq (od_inF false) (de_ix (de_var 0) de_int) (de_fresh (df_lst (da_cons de_str (da_cons de_str (da_cons de_str da_nil))))) (by rfl))
    (db_one (ds_ret (de_op op_addD od_addD (call_P (ok__law_strict T k) (hr.mono (Nat.le_refl _)) rfl (da_cons (de_ix (de_var 0) de_int) da_nil)) (call_P (ok__law_strict T k) (hr.mono (Nat.le_refl _)) rfl (da_cons (de_ix (de_var 0) de_int) da_nil)))))
    db_nil)
    (db_one (ds_retF (df_lst da_nil)))))
/-! #### _law_in -/
abbrev n__law_in : List Str := ["bounds", "value", "low", "high"]
theorem sc__law_in : FnScope n__law_in ["bounds", "value"] (defScope s__law_in) := ⟨rfl, rfl, rfl, by decide +kernel, rfl, by decide +kernel, by decide +kernel⟩
def m__law_in : MS Unit := (mSeq (mIfS (mOpT dNe (mOp dIx (mVar 0) (mC (.int 0))) (mC (.str "range")))
    (mRet (mBOr (mOp dEq (mVar 0) (mTup (mCons (mC (.str "all")) mNil))) (mBAnd (mOp dEq (mVar 0) (mTup (mCons (mC (.str "null")) mNil))) (mOp dIs (mVar 1) (mC .none)))))
    mSkip)
    (mSeq (mIfS (mOpT dIs (mVar 1) (mC .none))
    (mRet (mC (.bool false)))
    mSkip)
    (mSeq (mPar 2 3 (mCons (mOp dIx (mVar 0) (mC (.int 1))) (mCons (mOp dIx (mVar 0) (mC (.int 2))) mNil)))
    (mSeq (mIfS (mAnd (mOpT dIsNot (mVar 2) (mC .none)) (mOr (mOpT dLt (mVar 1) (mOp dIx (mVar 2) (mC (.int 0)))) (mAnd (mOpT dEq (mVar 1) (mOp dIx (mVar 2) (mC (.int 0)))) (mNot (mTru (mOp dIx (mVar 2) (mC (.int 1))))))))
    (mRet (mC (.bool false)))
    mSkip)
    (mRet (mBOr (mOp dIs (mVar 3) (mC .none)) (mBOr (mOp dLt (mVar 1) (mOp dIx (mVar 3) (mC (.int 0)))) (mBAnd (mOp dEq (mVar 1) (mOp dIx (mVar 3) (mC (.int 0)))) (mOp dIx (mVar 3) (mC (.int 1)))))))))))
def F__law_in : List D → Option D := runP 4 2 m__law_in
theorem ok__law_in (T : Txt K mg) : Def1 P wd K mg base "_law_in" ["bounds", "value"] 1 (spP K F__law_in) := def_pure T.d__law_in sc__law_in fun f cdv A outer s H E hr =>
    (db_cons (ds_if (dt_cmp (op_neD (hu64 hr)) od_ne (de_ix (de_var 0) de_int) de_str (nomark _))
    (db_one (ds_ret (de_or (de_cmp (op_eqD (hu64 hr)) od_eq (de_var 0) (de_tup (da_cons de_str da_nil)) (nomark _)) (de_and1 (de_and (de_cmp (op_eqD (hu64 hr)) od_eq (de_var 0) (de_tup (da_cons de_str da_nil)) (nomark _)) (de_and1 (de_cmp op_isN od_is (de_var 1) de_non (nomark _))))))))
    db_nil)
    (db_cons (ds_if (dt_cmp op_isN od_is (de_var 1) de_non (nomark _))
    (db_one (ds_ret de_bl))
    db_nil)
    (db_cons (ds_par (i := 2) (j := 3) rfl sc__law_in.nd rfl rfl (by decide) rfl rfl (da_cons (de_ix (de_var 0) de_int) (da_cons (de_ix (de_var 0) de_int) da_nil)) (by rfl))
    (db_cons (ds_if (PW.pt (dw_and (dt_cmp op_notN od_isNot (de_var 2) de_non (nomark _)) (dw_and1 (PW.pt (dw_or (dt_cmp (op_ltD (hu65 hr)) od_lt (de_var 1) (de_ix (de_var 2) de_int) (nomark _)) (dw_or1 (PW.pt (dw_and (dt_cmp (op_eqD (hu64 hr)) od_eq (de_var 1) (de_ix (de_var 2) de_int) (nomark _)) (dw_and1 (dt_not (dt_tru (de_ix (de_var 2) de_int))))))))))))
    (db_one (ds_ret de_bl))
    db_nil)
    (db_one (ds_ret (de_or (de_cmp op_isN od_is (de_var 3) de_non (nomark _)) (de_or (de_cmp (op_ltD (hu65 hr)) od_lt (de_var 1) (de_ix (de_var 3) de_int) (nomark _)) (de_and1 (de_and (de_cmp (op_eqD (hu64 hr)) od_eq (de_var 1) (de_ix (de_var 3) de_int) (nomark _)) (de_and1 (de_ix (de_var 3) de_int))))))))))))
/-! #### _law_ends -/
abbrev n__law_ends : List Str := ["one", "other", "tight", "is_low", "less", "more"]
theorem sc__law_ends : FnScope n__law_ends ["one", "other", "tight", "is_low"] (defScope s__law_ends) := ⟨rfl, rfl, rfl, by decide +kernel, rfl, by decide +kernel, by decide +kernel⟩
def m__law_ends : MS Unit := (mSeq (mIfS (mOr (mOpT dIs (mVar 0) (mC .none)) (mOpT dIs (mVar 1) (mC .none)))
    (mSeq (mIfS (mTru (mVar 2))
    (mRet (mOp dIx (mL (mLst (mCons (mVar 0) (mCons (mVar 1) mNil)))) (mCall dInt (mCons (mOp dIs (mVar 0) (mC .none)) mNil))))
    mSkip)
    (mRet (mC .none)))
    mSkip)
    (mSeq (mIfS (mOpT dEq (mOp dIx (mVar 0) (mC (.int 0))) (mOp dIx (mVar 1) (mC (.int 0))))
    (mRet (mTup (mCons (mOp dIx (mVar 0) (mC (.int 0))) (mCons (mOp dIx (mL (mLst (mCons (mBOr (mOp dIx (mVar 0) (mC (.int 1))) (mOp dIx (mVar 1) (mC (.int 1)))) (mCons (mBAnd (mOp dIx (mVar 0) (mC (.int 1))) (mOp dIx (mVar 1) (mC (.int 1)))) mNil)))) (mCall dInt (mCons (mVar 2) mNil))) mNil))))
    mSkip)
    (mSeq (mSet 4 (mOp dIx (mL (mLst (mCons (mVar 0) (mCons (mVar 1) mNil)))) (mCall dInt (mCons (mOp dLt (mOp dIx (mVar 1) (mC (.int 0))) (mOp dIx (mVar 0) (mC (.int 0)))) mNil))))
    (mSeq (mSet 5 (mOp dIx (mL (mLst (mCons (mVar 1) (mCons (mVar 0) mNil)))) (mCall dInt (mCons (mOp dLt (mOp dIx (mVar 1) (mC (.int 0))) (mOp dIx (mVar 0) (mC (.int 0)))) mNil))))
    (mRet (mOp dIx (mL (mLst (mCons (mVar 4) (mCons (mVar 5) mNil)))) (mCall dInt (mCons (mOp dEq (mVar 3) (mVar 2)) mNil))))))))
def F__law_ends : List D → Option D := runP 6 4 m__law_ends
theorem ok__law_ends (T : Txt K mg) : Def1 P wd K mg base "_law_ends" ["one", "other", "tight", "is_low"] 1 (spP K F__law_ends) := def_pure T.d__law_ends sc__law_ends fun f cdv A outer s H E hr =>
    (db_cons (ds_if (PW.pt (dw_or (dt_cmp op_isN od_is (de_var 0) de_non (nomark _)) (dw_or1 (dt_cmp op_isN od_is (de_var 1) de_non (nomark _)))))
    (db_cons (ds_if (dt_tru (de_var 2))
    (db_one (ds_ret (de_ix (de_fresh (df_lst (da_cons (de_var 0) (da_cons (de_var 1) da_nil)))) (de_callTy call_int1 cd_int rfl T.z_int (by decide +kernel) (da_cons (de_cmp op_isN od_is (de_var 0) de_non (nomark _)) da_nil)))))
    db_nil)
    (db_one (ds_ret de_non)))
    db_nil)
    (db_cons (ds_if (dt_cmp (op_eqD (hu64 hr)) od_eq (de_ix (de_var 0) de_int) (de_ix (de_var 1) de_int) (nomark _))
    (db_one (ds_ret (de_tup (da_cons (de_ix (de_var 0) de_int) (da_cons (de_ix (de_fresh (df_lst (da_cons (de_or (de_ix (de_var 0) de_int) (de_and1 (de_ix (de_var 1) de_int))) (da_cons (de_and (de_ix (de_var 0) de_int) (de_and1 (de_ix (de_var 1) de_int))) da_nil)))) (de_callTy call_int1 cd_int rfl T.z_int (by decide +kernel) (da_cons (de_var 2) da_nil))) da_nil)))))
    db_nil)
    (db_cons (ds_set (i := 4) sc__law_ends.nd rfl (by first | exact Or.inl rfl | exact Or.inr rfl) (de_ix (de_fresh (df_lst (da_cons (de_var 0) (da_cons (de_var 1) da_nil)))) (de_callTy call_int1 cd_int rfl T.z_int (by decide +kernel) (da_cons (de_cmp (op_ltD (hu65 hr)) od_lt (de_ix (de_var 1) de_int) (de_ix (de_var 0) de_int) (nomark _)) da_nil))))
    (db_cons (ds_set (i := 5) sc__law_ends.nd rfl (by first | exact Or.inl rfl | exact Or.inr rfl) (de_ix (de_fresh (df_lst (da_cons (de_var 1) (da_cons (de_var 0) da_nil)))) (de_callTy call_int1 cd_int rfl T.z_int (by decide +kernel) (da_cons (de_cmp (op_ltD (hu65 hr)) od_lt (de_ix (de_var 1) de_int) (de_ix (de_var 0) de_int) (nomark _)) da_nil))))
    (db_one (ds_ret (de_ix (de_fresh (df_lst (da_cons (de_var 4) (da_cons (de_var 5) da_nil)))) (de_callTy call_int1 cd_int rfl T.z_int (by decide +kernel) (da_cons (de_cmp (op_eqD (hu64 hr)) od_eq (de_var 3) (de_var 2) (nomark _)) da_nil)))))))))
/-! #### _law_meet -/
abbrev n__law_meet : List Str := ["one", "other", "low", "high"]
theorem sc__law_meet : FnScope n__law_meet ["one", "other"] (defScope s__law_meet) := ⟨rfl, rfl, rfl, by decide +kernel, rfl, by decide +kernel, by decide +kernel⟩
def m__law_meet : MS Unit := (mSeq (mIfS (mOpT (dInD false) (mTup (mCons (mC (.str "never")) mNil)) (mL (mLst (mCons (mVar 0) (mCons (mVar 1) mNil)))))
    (mRet (mTup (mCons (mC (.str "never")) mNil)))
    mSkip)
    (mSeq (mIfS (mOpT (dInD false) (mTup (mCons (mC (.str "all")) mNil)) (mL (mLst (mCons (mVar 0) (mCons (mVar 1) mNil)))))
    (mRet (mOp dIx (mL (mLst (mCons (mVar 0) (mCons (mVar 1) mNil)))) (mCall dInt (mCons (mOp dEq (mVar 0) (mTup (mCons (mC (.str "all")) mNil))) mNil))))
    mSkip)
    (mSeq (mIfS (mOpT (dInD false) (mTup (mCons (mC (.str "null")) mNil)) (mL (mLst (mCons (mVar 0) (mCons (mVar 1) mNil)))))
    (mRet (mOp dIx (mL (mLst (mCons (mTup (mCons (mC (.str "never")) mNil)) (mCons (mVar 0) mNil)))) (mCall dInt (mCons (mOp dEq (mVar 0) (mVar 1)) mNil))))
    mSkip)
    (mSeq (mSet 2 (mCall F__law_ends (mCons (mOp dIx (mVar 0) (mC (.int 1))) (mCons (mOp dIx (mVar 1) (mC (.int 1))) (mCons (mC (.bool true)) (mCons (mC (.bool true)) mNil))))))
    (mSeq (mSet 3 (mCall F__law_ends (mCons (mOp dIx (mVar 0) (mC (.int 2))) (mCons (mOp dIx (mVar 1) (mC (.int 2))) (mCons (mC (.bool true)) (mCons (mC (.bool false)) mNil))))))
    (mSeq (mIfS (mAnd (mOpT dIsNot (mVar 2) (mC .none)) (mAnd (mOpT dIsNot (mVar 3) (mC .none)) (mOr (mOpT dLt (mOp dIx (mVar 3) (mC (.int 0))) (mOp dIx (mVar 2) (mC (.int 0)))) (mAnd (mOpT dEq (mOp dIx (mVar 3) (mC (.int 0))) (mOp dIx (mVar 2) (mC (.int 0)))) (mNot (mAnd (mTru (mOp dIx (mVar 2) (mC (.int 1)))) (mTru (mOp dIx (mVar 3) (mC (.int 1))))))))))
    (mRet (mTup (mCons (mC (.str "never")) mNil)))
    mSkip)
    (mRet (mTup (mCons (mC (.str "range")) (mCons (mVar 2) (mCons (mVar 3) mNil)))))))))))
def F__law_meet : List D → Option D := runP 4 2 m__law_meet
theorem ok__law_meet (T : Txt K mg) : Def1 P wd K mg base "_law_meet" ["one", "other"] 2 (spP K F__law_meet) := def_pure T.d__law_meet sc__law_meet fun f cdv A outer s H E hr =>
    (db_cons (ds_if (dt_cmp (op_inDD (hu65 hr)) (od_inD false) (de_tup (da_cons de_str da_nil)) (de_fresh (df_lst (da_cons (de_var 0) (da_cons (de_var 1) da_nil)))) (by rfl))
    (db_one (ds_ret (de_tup (da_cons de_str da_nil))))
    db_nil)
    (db_cons (ds_if (dt_cmp (op_inDD (hu65 hr)) (od_inD false) (de_tup (da_cons de_str da_nil)) (de_fresh (df_lst (da_cons (de_var 0) (da_cons (de_var 1) da_nil)))) (by rfl))
    (db_one (ds_ret (de_ix (de_fresh (df_lst (da_cons (de_var 0) (da_cons (de_var 1) da_nil)))) (de_callTy call_int1 cd_int rfl T.z_int (by decide +kernel) (da_cons (de_cmp (op_eqD (hu64 hr)) od_eq (de_var 0) (de_tup (da_cons de_str da_nil)) (nomark _)) da_nil)))))
    db_nil)
    (db_cons (ds_if (dt_cmp (op_inDD (hu65 hr)) (od_inD false) (de_tup (da_cons de_str da_nil)) (de_fresh (df_lst (da_cons (de_var 0) (da_cons (de_var 1) da_nil)))) (by rfl))
    (db_one (ds_ret (de_ix (de_fresh (df_lst (da_cons (de_tup (da_cons de_str da_nil)) (da_cons (de_var 0) da_nil)))) (de_callTy call_int1 cd_int rfl T.z_int (by decide +kernel) (da_cons (de_cmp (op_eqD (hu64 hr)) od_eq (de_var 0) (de_var 1) (nomark _)) da_nil)))))
    db_nil)
    (db_cons (ds_set (i := 2) sc__law_meet.nd rfl (by first | exact Or.inl rfl | exact Or.inr rfl) (call_P (ok__law_ends T) (hr.mono (by decide)) rfl (da_cons (de_ix (de_var 0) de_int) (da_cons (de_ix (de_var 1) de_int) (da_cons de_bl (da_cons de_bl da_nil))))))
    (db_cons (ds_set (i := 3) sc__law_meet.nd rfl (by first | exact Or.inl rfl | exact Or.inr rfl) (call_P (ok__law_ends T) (hr.mono (by decide)) rfl (da_cons (de_ix (de_var 0) de_int) (da_cons (de_ix (de_var 1) de_int) (da_cons de_bl (da_cons de_bl da_nil))))))
    (db_cons (ds_if (PW.pt (dw_and (dt_cmp op_notN od_isNot (de_var 2) de_non (nomark _)) (dw_and (dt_cmp op_notN od_isNot (de_var 3) de_non (nomark _)) (dw_and1 (PW.pt (dw_or (dt_cmp (op_ltD (hu65 hr)) od_lt (de_ix (de_var 3) de_int) (de_ix (de_var 2) de_int) (nomark _)) (dw_or1 (PW.pt (dw_and (dt_cmp (op_eqD (hu64 hr)) od_eq (de_ix (de_var 3) de_int) (de_ix (de_var 2) de_int) (nomark _)) (dw_and1 (dt_not (PW.pt (dw_and (dt_tru (de_ix (de_var 2) de_int)) (dw_and1 (dt_tru (de_ix (de_var 3) de_int))))))))))))))))
    (db_one (ds_ret (de_tup (da_cons de_str da_nil))))
    db_nil)
    (db_one (ds_ret (de_tup (da_cons de_str (da_cons (de_var 2) (da_cons (de_var 3) da_nil))))))))))))
/-! #### _law_join -/
abbrev n__law_join : List Str := ["one", "other"]
theorem sc__law_join : FnScope n__law_join ["one", "other"] (defScope s__law_join) := ⟨rfl, rfl, rfl, by decide +kernel, rfl, by decide +kernel, by decide +kernel⟩
def m__law_join : MS Unit := (mSeq (mIfS (mOpT (dInD false) (mTup (mCons (mC (.str "never")) mNil)) (mL (mLst (mCons (mVar 0) (mCons (mVar 1) mNil)))))
    (mRet (mOp dIx (mL (mLst (mCons (mVar 0) (mCons (mVar 1) mNil)))) (mCall dInt (mCons (mOp dEq (mVar 0) (mTup (mCons (mC (.str "never")) mNil))) mNil))))
    mSkip)
    (mSeq (mIfS (mChainT dEq dEq (mVar 0) (mVar 1) (mTup (mCons (mC (.str "null")) mNil)))
    (mRet (mVar 0))
    mSkip)
    (mSeq (mIfS (mOr (mOpT (dInD false) (mTup (mCons (mC (.str "all")) mNil)) (mL (mLst (mCons (mVar 0) (mCons (mVar 1) mNil))))) (mOpT (dInD false) (mTup (mCons (mC (.str "null")) mNil)) (mL (mLst (mCons (mVar 0) (mCons (mVar 1) mNil))))))
    (mRet (mTup (mCons (mC (.str "all")) mNil)))
    mSkip)
    (mRet (mTup (mCons (mC (.str "range")) (mCons (mCall F__law_ends (mCons (mOp dIx (mVar 0) (mC (.int 1))) (mCons (mOp dIx (mVar 1) (mC (.int 1))) (mCons (mC (.bool false)) (mCons (mC (.bool true)) mNil))))) (mCons (mCall F__law_ends (mCons (mOp dIx (mVar 0) (mC (.int 2))) (mCons (mOp dIx (mVar 1) (mC (.int 2))) (mCons (mC (.bool false)) (mCons (mC (.bool false)) mNil))))) mNil))))))))
def F__law_join : List D → Option D := runP 2 2 m__law_join
theorem ok__law_join (T : Txt K mg) : Def1 P wd K mg base "_law_join" ["one", "other"] 2 (spP K F__law_join) := def_pure T.d__law_join sc__law_join fun f cdv A outer s H E hr =>
    (db_cons (ds_if (dt_cmp (op_inDD (hu65 hr)) (od_inD false) (de_tup (da_cons de_str da_nil)) (de_fresh (df_lst (da_cons (de_var 0) (da_cons (de_var 1) da_nil)))) (by rfl))
    (db_one (ds_ret (de_ix (de_fresh (df_lst (da_cons (de_var 0) (da_cons (de_var 1) da_nil)))) (de_callTy call_int1 cd_int rfl T.z_int (by decide +kernel) (da_cons (de_cmp (op_eqD (hu64 hr)) od_eq (de_var 0) (de_tup (da_cons de_str da_nil)) (nomark _)) da_nil)))))
    db_nil)
    (db_cons (ds_if (dt_chain (op_eqD (hu64 hr)) od_eq (op_eqD (hu64 hr)) od_eq (de_var 0) (de_var 1) (de_tup (da_cons de_str da_nil)))
    (db_one (ds_ret (de_var 0)))
    db_nil)
    (db_cons (ds_if (PW.pt (dw_or (dt_cmp (op_inDD (hu65 hr)) (od_inD false) (de_tup (da_cons de_str da_nil)) (de_fresh (df_lst (da_cons (de_var 0) (da_cons (de_var 1) da_nil)))) (by rfl)) (dw_or1 (dt_cmp (op_inDD (hu65 hr)) (od_inD false) (de_tup (da_cons de_str da_nil)) (de_fresh (df_lst (da_cons (de_var 0) (da_cons (de_var 1) da_nil)))) (by rfl)))))
    (db_one (ds_ret (de_tup (da_cons de_str da_nil))))
    db_nil)
    (db_one (ds_ret (de_tup (da_cons de_str (da_cons (call_P (ok__law_ends T) (hr.mono (by decide)) rfl (da_cons (de_ix (de_var 0) de_int) (da_cons (de_ix (de_var 1) de_int) (da_cons de_bl (da_cons de_bl da_nil))))) (da_cons (call_P (ok__law_ends T) (hr.mono (by decide)) rfl (da_cons (de_ix (de_var 0) de_int) (da_cons (de_ix (de_var 1) de_int) (da_cons de_bl (da_cons de_bl da_nil))))) da_nil)))))))))
/-! #### _law_bounds -/
abbrev n__law_bounds : List Str := ["tree", "cell", "wanted", "word", "known", "here", "two", "part", "values", "value", "place"]
theorem sc__law_bounds : FnScope n__law_bounds ["tree", "cell", "wanted"] (defScope s__law_bounds) := ⟨rfl, rfl, rfl, by decide +kernel, rfl, by decide +kernel, by decide +kernel⟩
def lb__law_bounds_1 (self : List D → Option D) : MS Unit := (mIfS (mAnd (mOpT dEq (mOp dIx (mVar 0) (mVar 10)) (mVar 5)) (mOpT dEq (mOp dIx (mOp dIx (mVar 0) (mOp dSub (mC (.int 3)) (mVar 10))) (mC (.int 0))) (mC (.str "value"))))
    (mSeq (mSet 9 (mOp dIx (mOp dIx (mVar 0) (mOp dSub (mC (.int 3)) (mVar 10))) (mC (.int 1))))
    (mSeq (mIfS (mOpT dEq (mVar 3) (mC (.str "same")))
    (mRet (mOp dIx (mL (mLst (mCons (mVar 4) (mCons (mTup (mCons (mC (.str "range")) (mCons (mTup (mCons (mVar 9) (mCons (mC (.bool true)) mNil))) (mCons (mTup (mCons (mVar 9) (mCons (mC (.bool true)) mNil))) mNil)))) mNil)))) (mCall dInt (mCons (mVar 2) mNil))))
    mSkip)
    (mSeq (mIfS (mOpT dEq (mOp dEq (mVar 10) (mC (.int 1))) (mVar 2))
    (mRet (mTup (mCons (mC (.str "range")) (mCons (mC .none) (mCons (mTup (mCons (mVar 9) (mCons (mBOr (mOp dEq (mVar 10) (mC (.int 2))) (mBNot (mVar 2))) mNil))) mNil)))))
    mSkip)
    (mRet (mTup (mCons (mC (.str "range")) (mCons (mTup (mCons (mVar 9) (mCons (mOp dEq (mVar 10) (mC (.int 1))) mNil))) (mCons (mC .none) mNil))))))))
    mSkip)
def m__law_bounds (self : List D → Option D) : MS Unit := (mSeq (mSet 3 (mOp dIx (mVar 0) (mC (.int 0))))
    (mSeq (mSet 4 (mTup (mCons (mC (.str "range")) (mCons (mC .none) (mCons (mC .none) mNil)))))
    (mSeq (mSet 5 (mOp dAdd (mTup (mCons (mC (.str "cell")) mNil)) (mVar 1)))
    (mSeq (mIfS (mOpT dEq (mVar 3) (mC (.str "value")))
    (mRet (mOp dIx (mL (mLst (mCons (mTup (mCons (mC (.str "never")) mNil)) (mCons (mTup (mCons (mC (.str "all")) mNil)) mNil)))) (mCall dInt (mCons (mBAnd (mOp dIsNot (mOp dIx (mVar 0) (mC (.int 1))) (mC .none)) (mOp dEq (mOp dIx (mVar 0) (mC (.int 1))) (mVar 2))) mNil))))
    mSkip)
    (mSeq (mIfS (mOpT dEq (mVar 3) (mC (.str "cell")))
    (mRet (mOp dIx (mL (mLst (mCons (mTup (mCons (mC (.str "all")) mNil)) (mCons (mTup (mCons (mC (.str "range")) (mCons (mTup (mCons (mVar 2) (mCons (mC (.bool true)) mNil))) (mCons (mTup (mCons (mVar 2) (mCons (mC (.bool true)) mNil))) mNil)))) mNil)))) (mCall dInt (mCons (mOp dEq (mVar 0) (mVar 5)) mNil))))
    mSkip)
    (mSeq (mIfS (mOpT dEq (mVar 3) (mC (.str "not")))
    (mRet (mCall self (mCons (mOp dIx (mVar 0) (mC (.int 1))) (mCons (mVar 1) (mCons (mBNot (mVar 2)) mNil)))))
    mSkip)
    (mSeq (mIfS (mOpT (dInF false) (mVar 3) (mL (mLst (mCons (mC (.str "and")) (mCons (mC (.str "or")) mNil)))))
    (mSeq (mThen (mSetF 6 (mComp (mItT (mSlT (mVar 0) (mPart (mC (.int 1))) mNo)) [7] (bName 7) mYes (mCall self (mCons (mVar 7) (mCons (mVar 1) (mCons (mVar 2) mNil)))))) 6)
    (mSeq (mIfS (mOpT dEq (mOp dEq (mVar 3) (mC (.str "and"))) (mVar 2))
    (mRet (mCall F__law_meet (mCons (mOp dIx (mVar 6) (mC (.int 0))) (mCons (mOp dIx (mVar 6) (mC (.int 1))) mNil))))
    mSkip)
    (mRet (mCall F__law_join (mCons (mOp dIx (mVar 6) (mC (.int 0))) (mCons (mOp dIx (mVar 6) (mC (.int 1))) mNil))))))
    mSkip)
    (mSeq (mIfS (mOpT dEq (mVar 3) (mC (.str "null")))
    (mSeq (mIfS (mTru (mVar 2))
    (mRet (mOp dIx (mL (mLst (mCons (mTup (mCons (mC (.str "all")) mNil)) (mCons (mTup (mCons (mC (.str "null")) mNil)) mNil)))) (mCall dInt (mCons (mOp dEq (mOp dIx (mVar 0) (mC (.int 1))) (mVar 5)) mNil))))
    mSkip)
    (mRet (mOp dIx (mL (mLst (mCons (mTup (mCons (mC (.str "all")) mNil)) (mCons (mVar 4) mNil)))) (mCall dInt (mCons (mOp (dInD false) (mVar 1) (mCall (F__law_strict 9) (mCons (mOp dIx (mVar 0) (mC (.int 1))) mNil))) mNil)))))
    mSkip)
    (mSeq (mIfS (mOpT dEq (mVar 3) (mC (.str "among")))
    (mSeq (mSet 8 (mL (mCallF dSorted (mCons (mL (mComp (mItL (mOp dIx (mVar 0) (mC (.int 2)))) [9] (bName 9) (mOpT dIsNot (mVar 9) (mC .none)) (mVar 9))) mNil))))
    (mSeq (mIfS (mOr (mAnd (mTru (mVar 2)) (mOpT dEq (mVar 8) (mL (mLst mNil)))) (mAnd (mNot (mTru (mVar 2))) (mOpT (dInF false) (mC .none) (mOp dIx (mVar 0) (mC (.int 2))))))
    (mRet (mTup (mCons (mC (.str "never")) mNil)))
    mSkip)
    (mSeq (mIfS (mAnd (mOpT dEq (mOp dIx (mVar 0) (mC (.int 1))) (mVar 5)) (mTru (mVar 2)))
    (mRet (mTup (mCons (mC (.str "range")) (mCons (mTup (mCons (mOp dIx (mVar 8) (mC (.int 0))) (mCons (mC (.bool true)) mNil))) (mCons (mTup (mCons (mOp dIx (mVar 8) (mUn dNeg (mC (.int 1)))) (mCons (mC (.bool true)) mNil))) mNil)))))
    mSkip)
    (mRet (mOp dIx (mL (mLst (mCons (mTup (mCons (mC (.str "all")) mNil)) (mCons (mVar 4) mNil)))) (mCall dInt (mCons (mOp (dInD false) (mVar 1) (mCall (F__law_strict 9) (mCons (mOp dIx (mVar 0) (mC (.int 1))) mNil))) mNil)))))))
    mSkip)
    (mSeq (mIfS (mOpT (dInD false) (mTup (mCons (mC (.str "value")) (mCons (mC .none) mNil))) (mSlT (mVar 0) (mPart (mC (.int 1))) mNo))
    (mRet (mTup (mCons (mC (.str "never")) mNil)))
    mSkip)
    (mSeq (mFor (mItL (mL (mLst (mCons (mC (.int 1)) (mCons (mC (.int 2)) mNil))))) (bName 10) (lb__law_bounds_1 self))
    (mRet (mOp dIx (mL (mLst (mCons (mTup (mCons (mC (.str "all")) mNil)) (mCons (mVar 4) mNil)))) (mCall dInt (mCons (mOp (dInD false) (mVar 1) (mOp dAdd (mCall (F__law_strict 9) (mCons (mOp dIx (mVar 0) (mC (.int 1))) mNil)) (mCall (F__law_strict 9) (mCons (mOp dIx (mVar 0) (mC (.int 2))) mNil)))) mNil)))))))))))))))
def F__law_bounds : Nat → List D → Option D
  | 0 => fun _ => none
  | k + 1 => runP 11 3 (m__law_bounds (F__law_bounds k))
theorem ok__law_bounds (T : Txt K mg) : ∀ k : Nat, Def1 P wd K mg base "_law_bounds" ["tree", "cell", "wanted"] (11 + k) (spP K (F__law_bounds k))
  | 0 => def_no T.d__law_bounds sc__law_bounds spP_no
  | k + 1 => def_pure T.d__law_bounds sc__law_bounds fun f cdv A outer s H E hr =>
    (db_cons (ds_set (i := 3) sc__law_bounds.nd rfl (by first | exact Or.inl rfl | exact Or.inr rfl) (de_ix (de_var 0) de_int))
    (db_cons (ds_set (i := 4) sc__law_bounds.nd rfl (by first | exact Or.inl rfl | exact Or.inr rfl) (de_tup (da_cons de_str (da_cons de_non (da_cons de_non da_nil)))))
    (db_cons (ds_set (i := 5) sc__law_bounds.nd rfl (by first | exact Or.inl rfl | exact Or.inr rfl) (de_op op_addD od_addD (de_tup (da_cons de_str da_nil)) (de_var 1)))
    (db_cons (ds_if (dt_cmp (op_eqD (hu64 hr)) od_eq (de_var 3) de_str (nomark _))
    (db_one (ds_ret (de_ix (de_fresh (df_lst (da_cons (de_tup (da_cons de_str da_nil)) (da_cons (de_tup (da_cons de_str da_nil)) da_nil)))) (de_callTy call_int1 cd_int rfl T.z_int (by decide +kernel) (da_cons (de_and (de_cmp op_notN od_isNot (de_ix (de_var 0) de_int) de_non (nomark _)) (de_and1 (de_cmp (op_eqD (hu64 hr)) od_eq (de_ix (de_var 0) de_int) (de_var 2) (nomark _)))) da_nil)))))
    db_nil)
    (db_cons (ds_if (dt_cmp (op_eqD (hu64 hr)) od_eq (de_var 3) de_str (nomark _))
    (db_one (ds_ret (de_ix (de_fresh (df_lst (da_cons (de_tup (da_cons de_str da_nil)) (da_cons (de_tup (da_cons de_str (da_cons (de_tup (da_cons (de_var 2) (da_cons de_bl da_nil))) (da_cons (de_tup (da_cons (de_var 2) (da_cons de_bl da_nil))) da_nil)))) da_nil)))) (de_callTy call_int1 cd_int rfl T.z_int (by decide +kernel) (da_cons (de_cmp (op_eqD (hu64 hr)) od_eq (de_var 0) (de_var 5) (nomark _)) da_nil)))))
    db_nil)
    (db_cons (ds_if (dt_cmp (op_eqD (hu64 hr)) od_eq (de_var 3) de_str (nomark _))
    (db_one (ds_ret (call_P (ok__law_bounds T k) (hr.mono (Nat.le_refl _)) rfl (da_cons (de_ix (de_var 0) de_int) (da_cons (de_var 1) (da_cons (de_not (de_var 2)) da_nil))))))
    db_nil)
    (db_cons (ds_if (dt_cmp op_in_seq (od_inF false) (de_var 3) (de_fresh (df_lst (da_cons de_str (da_cons de_str da_nil)))) (by rfl))
    (db_cons (ds_then 6 (ds_setLc (own := [("part", 7)]) rfl sc__law_bounds.nd rfl rfl (sw_true rfl rfl rfl (by decide +kernel)) (di_tup (de_sliceT (de_var 0) (do_some de_int) do_none)) (blkOk_by (N := n__law_bounds) (sc := defScope s__law_bounds) (by decide +kernel)) (fun _ _ _ _ _ => (dg_name (i := 7) sc__law_bounds.nd rfl (by first | exact Or.inl rfl | exact Or.inr rfl))) (fun _ _ _ _ _ => dts_nil) (fun _ _ _ _ _ => (call_P (ok__law_bounds T k) (hr.mono (Nat.le_refl _)) rfl (da_cons (de_var 7) (da_cons (de_var 1) (da_cons (de_var 2) da_nil)))))))
    (db_cons (ds_if (dt_cmp (op_eqD (hu64 hr)) od_eq (de_cmp (op_eqD (hu64 hr)) od_eq (de_var 3) de_str (nomark _)) (de_var 2) (nomark _))
    (db_one (ds_ret (call_P (ok__law_meet T) (hr.mono (Nat.le_trans (by decide : 2 ≤ 11) (Nat.le_add_right 11 k))) rfl (da_cons (de_ix (de_var 6) de_int) (da_cons (de_ix (de_var 6) de_int) da_nil)))))
    db_nil)
    (db_one (ds_ret (call_P (ok__law_join T) (hr.mono (Nat.le_trans (by decide : 2 ≤ 11) (Nat.le_add_right 11 k))) rfl (da_cons (de_ix (de_var 6) de_int) (da_cons (de_ix (de_var 6) de_int) da_nil)))))))
    db_nil)
    (db_cons (ds_if (dt_cmp (op_eqD (hu64 hr)) od_eq (de_var 3) de_str (nomark _))
    (db_cons (ds_if (dt_tru (de_var 2))
    (db_one (ds_ret (de_ix (de_fresh (df_lst (da_cons (de_tup (da_cons de_str da_nil)) (da_cons (de_tup (da_cons de_str da_nil)) da_nil)))) (de_callTy call_int1 cd_int rfl T.z_int (by decide +kernel) (da_cons (de_cmp (op_eqD (hu64 hr)) od_eq (de_ix (de_var 0) de_int) (de_var 5) (nomark _)) da_nil)))))
    db_nil)
    (db_one (ds_ret (de_ix (de_fresh (df_lst (da_cons (de_tup (da_cons de_str da_nil)) (da_cons (de_var 4) da_nil)))) (de_callTy call_int1 cd_int rfl T.z_int (by decide +kernel) (da_cons (de_cmp (op_inDD (hu65 hr)) (od_inD false) (de_var 1) (call_P (ok__law_strict T 9) (hr.mono (Nat.le_trans (by decide : 10 ≤ 11) (Nat.le_add_right 11 k))) rfl (da_cons (de_ix (de_var 0) de_int) da_nil)) (by rfl)) da_nil))))))
    db_nil)
    (db_cons (ds_if (dt_cmp (op_eqD (hu64 hr)) od_eq (de_var 3) de_str (nomark _))
    (db_cons (ds_set (i := 8) sc__law_bounds.nd rfl (by first | exact Or.inl rfl | exact Or.inr rfl) (de_fresh (df_callB (cr_sortD (hu65 hr)) cf_sorted rfl T.z_sorted (by decide +kernel) (da_cons (de_fresh (df_comp (own := [("value", 9)]) rfl sc__law_bounds.nd (di_list (de_ix (de_var 0) de_int)) (blkOk_by (N := n__law_bounds) (sc := defScope s__law_bounds) (by decide +kernel)) (fun _ _ _ _ _ => (dg_name (i := 9) sc__law_bounds.nd rfl (by first | exact Or.inl rfl | exact Or.inr rfl))) (fun _ _ _ _ _ => (dts_one (dt_cmp op_notN od_isNot (de_var 9) de_non (nomark _)))) (fun _ _ _ _ _ => (de_var 9)))) da_nil))))
    (db_cons (ds_if (PW.pt (dw_or (PW.pt (dw_and (dt_tru (de_var 2)) (dw_and1 (dt_cmp (op_eqD (hu64 hr)) od_eq (de_var 8) (de_fresh (df_lst da_nil)) (nomark _))))) (dw_or1 (PW.pt (dw_and (dt_not (dt_tru (de_var 2))) (dw_and1 (dt_cmp op_in_seq (od_inF false) de_non (de_ix (de_var 0) de_int) (by rfl))))))))
    (db_one (ds_ret (de_tup (da_cons de_str da_nil))))
    db_nil)
    (db_cons (ds_if (PW.pt (dw_and (dt_cmp (op_eqD (hu64 hr)) od_eq (de_ix (de_var 0) de_int) (de_var 5) (nomark _)) (dw_and1 (dt_tru (de_var 2)))))
    (db_one (ds_ret (de_tup (da_cons de_str (da_cons (de_tup (da_cons (de_ix (de_var 8) de_int) (da_cons de_bl da_nil))) (da_cons (de_tup (da_cons (de_ix (de_var 8) (de_un un_neg ud_neg de_int)) (da_cons de_bl da_nil))) da_nil))))))
    db_nil)
    (db_one (ds_ret (de_ix (de_fresh (df_lst (da_cons (de_tup (da_cons de_str da_nil)) (da_cons (de_var 4) da_nil)))) (de_callTy call_int1 cd_int rfl T.z_int (by decide +kernel) (da_cons (de_cmp (op_inDD (hu65 hr)) (od_inD false) (de_var 1) (call_P (ok__law_strict T 9) (hr.mono (Nat.le_trans (by decide : 10 ≤ 11) (Nat.le_add_right 11 k))) rfl (da_cons (de_ix (de_var 0) de_int) da_nil)) (by rfl)) da_nil))))))))
    db_nil)
    (db_cons (ds_if (dt_cmp (op_inDD (hu65 hr)) (od_inD false) (de_tup (da_cons de_str (da_cons de_non da_nil))) (de_sliceT (de_var 0) (do_some de_int) do_none) (by rfl))
    (db_one (ds_ret (de_tup (da_cons de_str da_nil))))
    db_nil)
    (db_cons (ds_for PassesOwn.never rfl (di_list (de_fresh (df_lst (da_cons de_int (da_cons de_int da_nil))))) (dg_name (i := 10) sc__law_bounds.nd rfl (by first | exact Or.inl rfl | exact Or.inr rfl))
    (db_one (ds_if (PW.pt (dw_and (dt_cmp (op_eqD (hu64 hr)) od_eq (de_ix (de_var 0) (de_var 10)) (de_var 5) (nomark _)) (dw_and1 (dt_cmp (op_eqD (hu64 hr)) od_eq (de_ix (de_ix (de_var 0) (de_op op_sub od_sub de_int (de_var 10))) de_int) de_str (nomark _)))))
    (db_cons (ds_set (i := 9) sc__law_bounds.nd rfl (by first | exact Or.inl rfl | exact Or.inr rfl) (de_ix (de_ix (de_var 0) (de_op op_sub od_sub de_int (de_var 10))) de_int))
    (db_cons (ds_if (dt_cmp (op_eqD (hu64 hr)) od_eq (de_var 3) de_str (nomark _))
    (db_one (ds_ret (de_ix (de_fresh (df_lst (da_cons (de_var 4) (da_cons (de_tup (da_cons de_str (da_cons (de_tup (da_cons (de_var 9) (da_cons de_bl da_nil))) (da_cons (de_tup (da_cons (de_var 9) (da_cons de_bl da_nil))) da_nil)))) da_nil)))) (de_callTy call_int1 cd_int rfl T.z_int (by decide +kernel) (da_cons (de_var 2) da_nil)))))
    db_nil)
    (db_cons (ds_if (dt_cmp (op_eqD (hu64 hr)) od_eq (de_cmp (op_eqD (hu64 hr)) od_eq (de_var 10) de_int (nomark _)) (de_var 2) (nomark _))
    (db_one (ds_ret (de_tup (da_cons de_str (da_cons de_non (da_cons (de_tup (da_cons (de_var 9) (da_cons (de_or (de_cmp (op_eqD (hu64 hr)) od_eq (de_var 10) de_int (nomark _)) (de_and1 (de_not (de_var 2)))) da_nil))) da_nil))))))
    db_nil)
    (db_one (ds_ret (de_tup (da_cons de_str (da_cons (de_tup (da_cons (de_var 9) (da_cons (de_cmp (op_eqD (hu64 hr)) od_eq (de_var 10) de_int (nomark _)) da_nil))) (da_cons de_non da_nil)))))))))
    db_nil)))
    (db_one (ds_ret (de_ix (de_fresh (df_lst (da_cons (de_tup (da_cons de_str da_nil)) (da_cons (de_var 4) da_nil)))) (de_callTy call_int1 cd_int rfl T.z_int (by decide +kernel) (da_cons (de_cmp (op_inDD (hu65 hr)) (od_inD false) (de_var 1) (de_op op_addD od_addD (call_P (ok__law_strict T 9) (hr.mono (Nat.le_trans (by decide : 10 ≤ 11) (Nat.le_add_right 11 k))) rfl (da_cons (de_ix (de_var 0) de_int) da_nil)) (call_P (ok__law_strict T 9) (hr.mono (Nat.le_trans (by decide : 10 ≤ 11) (Nat.le_add_right 11 k))) rfl (da_cons (de_ix (de_var 0) de_int) da_nil))) (by rfl)) da_nil))))))))))))))))
/-! #### law -/
abbrev n_law : List Str := ["script", "state", "cells", "tree", "turn", "value", "side", "more", "kept", "pools", "i", "j", "kind", "both_v", "wanted", "told", "due", "row", "cell", "whole", "part", "single", "number"]
theorem sc_law : FnScope n_law ["script"] (defScope s_law) := ⟨rfl, rfl, rfl, by decide +kernel, rfl, by decide +kernel, by decide +kernel⟩
def lb_law_1 : MS Dc := (mSeq (mSet 5 (mTup (mCons (mC (.str "value")) (mCons (mOp dSub (mCallG F__law_draw (gConsS 1 (gConsS 0 (gCons (mC (.int 5)) gNil)))) (mC (.int 1))) mNil))))
    (mSeq (mSet 6 (mCallG F__law_pick (gConsS 1 (gConsS 0 (gCons (mL (mLst (mCons (mTup (mCons (mTup (mCons (mC (.str "cell")) (mCons (mC (.int 0)) (mCons (mC (.int 0)) mNil)))) (mCons (mVar 5) mNil))) (mCons (mTup (mCons (mVar 5) (mCons (mTup (mCons (mC (.str "cell")) (mCons (mC (.int 0)) (mCons (mC (.int 0)) mNil)))) mNil))) mNil)))) gNil)))))
    (mSeq (mSet 7 (mOp dAdd (mTup (mCons (mCallG F__law_pick (gConsS 1 (gConsS 0 (gCons (mL (mLst (mCons (mC (.str "less")) (mCons (mC (.str "same")) mNil)))) gNil)))) mNil)) (mVar 6)))
    (mSeq (mSet 7 (mCallG F__law_pick (gConsS 1 (gConsS 0 (gCons (mL (mLst (mCons (mVar 7) (mCons (mTup (mCons (mC (.str "not")) (mCons (mVar 7) mNil))) (mCons (mTup (mCons (mC (.str "among")) (mCons (mTup (mCons (mC (.str "cell")) (mCons (mC (.int 0)) (mCons (mC (.int 0)) mNil)))) (mCons (mL (mLst (mCons (mC (.int 3)) (mCons (mC (.int 1)) (mCons (mOp dIx (mVar 5) (mC (.int 1))) mNil))))) mNil)))) mNil))))) gNil)))))
    (mSet 3 (mTup (mCons (mCallG F__law_pick (gConsS 1 (gConsS 0 (gCons (mL (mLst (mCons (mC (.str "and")) (mCons (mC (.str "or")) mNil)))) gNil)))) (mCons (mVar 3) (mCons (mVar 7) mNil)))))))))
def lb_law_2 : MS Dc := (mIfS (mOpT dNe (mCall F_is_within (mCons (mVar 15) (mCons (mVar 5) mNil))) (mCall F__law_in (mCons (mVar 15) (mCons (mVar 5) mNil))))
    (mRet (mC (.bool false)))
    mSkip)
def lb_law_3 : MS Dc := (mSeq (mSet 17 (mCall dTupleOf (mCons (mL (mComp (mItL (mVar 2)) [18] (bName 18) mYes (mCallG F__law_pick (gConsS 1 (gConsS 0 (gCons (mKdIx 9 (mOp dIx (mVar 18) (mC (.int 2)))) gNil)))))) mNil)))
    (mIfS (mAnd (mOpT dEq (mCall (F_value_of 9) (mCons (mVar 3) (mCons (mTup (mCons (mVar 17) mNil)) (mCons (mTup mNil) mNil)))) (mVar 14)) (mNot (mTru (mCall F__law_in (mCons (mVar 15) (mCons (mOp dIx (mVar 17) (mVar 11)) mNil))))))
    (mRet (mC (.bool false)))
    mSkip))
def lb_law_4 : MS Dc := (mSeq (mSet 15 (mCall (F_bounds_of 9) (mCons (mVar 3) (mCons (mTup (mCons (mVar 10) (mCons (mVar 11) mNil))) (mCons (mVar 14) mNil)))))
    (mSeq (mSet 16 (mCall (F__law_bounds 9) (mCons (mVar 3) (mCons (mTup (mCons (mVar 10) (mCons (mVar 11) mNil))) (mCons (mVar 14) mNil)))))
    (mSeq (mIfS (mOpT dNe (mCall dRepr (mCons (mVar 15) mNil)) (mCall dRepr (mCons (mVar 16) mNil)))
    (mRet (mC (.bool false)))
    mSkip)
    (mSeq (mApp 13 (mVar 15))
    (mSeq (mFor (mItL (mKdIx 9 (mVar 12))) (bName 5) lb_law_2)
    (mFor (mRng1 (mCons (mC (.int 8)) mNil)) (bName 4) lb_law_3))))))
def lb_law_5 : MS Dc := (mIfS (mOpT dNe (mCall F__law_in (mCons (mCall F_meet (mCons (mIxOw 13 (mC (.int 0))) (mCons (mIxOw 13 (mC (.int 1))) mNil))) (mCons (mVar 5) mNil))) (mBAnd (mCall F__law_in (mCons (mIxOw 13 (mC (.int 0))) (mCons (mVar 5) mNil))) (mCall F__law_in (mCons (mIxOw 13 (mC (.int 1))) (mCons (mVar 5) mNil)))))
    (mRet (mC (.bool false)))
    mSkip)
def lb_law_6 : MS Dc := (mSet 19 (mCall F__law_meet (mCons (mVar 19) (mCons (mCall (F__law_bounds 9) (mCons (mVar 20) (mCons (mTup (mCons (mVar 10) (mCons (mVar 11) mNil))) (mCons (mC (.bool true)) mNil)))) mNil))))
def lb_law_7 : MS Dc := (mSeq (mSetF 13 (mLst mNil))
    (mSeq (mFor (mItL (mL (mLst (mCons (mC (.bool true)) (mCons (mC (.bool false)) mNil))))) (bName 14) lb_law_4)
    (mSeq (mIfS (mOr (mOpT dNe (mCall dRepr (mCons (mCall F_meet (mCons (mIxOw 13 (mC (.int 0))) (mCons (mIxOw 13 (mC (.int 1))) mNil))) mNil)) (mCall dRepr (mCons (mCall F__law_meet (mCons (mIxOw 13 (mC (.int 0))) (mCons (mIxOw 13 (mC (.int 1))) mNil))) mNil))) (mOpT dNe (mCall dRepr (mCons (mCall F_join (mCons (mIxOw 13 (mC (.int 0))) (mCons (mIxOw 13 (mC (.int 1))) mNil))) mNil)) (mCall dRepr (mCons (mCall F__law_join (mCons (mIxOw 13 (mC (.int 0))) (mCons (mIxOw 13 (mC (.int 1))) mNil))) mNil))))
    (mRet (mC (.bool false)))
    mSkip)
    (mSeq (mFor (mItL (mKdIx 9 (mVar 12))) (bName 5) lb_law_5)
    (mSeq (mSet 19 (mTup (mCons (mC (.str "all")) mNil)))
    (mSeq (mFor (mItL (mCall (F_conjuncts 9) (mCons (mVar 3) mNil))) (bName 20) lb_law_6)
    (mSeq (mIfS (mOr (mOpT dNe (mCall dRepr (mCons (mCall F_sure_bounds (mCons (mVar 3) (mCons (mTup (mCons (mVar 10) (mCons (mVar 11) mNil))) mNil))) mNil)) (mCall dRepr (mCons (mVar 19) mNil))) (mOr (mOpT dNe (mCall dRepr (mCons (mCall F_bounds_of_all (mCons (mCall (F_conjuncts 9) (mCons (mVar 3) mNil)) (mCons (mTup (mCons (mVar 10) (mCons (mVar 11) mNil))) mNil))) mNil)) (mCall dRepr (mCons (mVar 19) mNil))) (mOpT dNe (mCall F_sure_bounds (mCons (mC .none) (mCons (mTup (mCons (mVar 10) (mCons (mVar 11) mNil))) mNil))) (mTup (mCons (mC (.str "all")) mNil)))))
    (mRet (mC (.bool false)))
    mSkip)
    (mSeq (mSet 21 (mC .none))
    (mSeq (mIfS (mAnd (mOpT dEq (mOp dIx (mVar 19) (mC (.int 0))) (mC (.str "range"))) (mAnd (mOpT dIsNot (mOp dIx (mVar 19) (mC (.int 1))) (mC .none)) (mOpT dEq (mOp dIx (mVar 19) (mC (.int 1))) (mOp dIx (mVar 19) (mC (.int 2))))))
    (mSet 21 (mTup (mCons (mOp dIx (mOp dIx (mVar 19) (mC (.int 1))) (mC (.int 0))) mNil)))
    mSkip)
    (mIfS (mOr (mOpT dNe (mCall F_single_value (mCons (mVar 19) mNil)) (mVar 21)) (mOpT dNe (mCall F_single_value (mCons (mTup (mCons (mC (.str "range")) (mCons (mTup (mCons (mC (.int 1)) (mCons (mC (.bool true)) mNil))) (mCons (mTup (mCons (mC (.int 1)) (mCons (mC (.bool true)) mNil))) mNil)))) mNil)) (mTup (mCons (mC (.int 1)) mNil))))
    (mRet (mC (.bool false)))
    mSkip))))))))))
def m_law : MS Dc := (mSeq (mSet 2 (mL (mLst (mCons (mTup (mCons (mC (.int 0)) (mCons (mC (.int 0)) (mCons (mC (.str "int")) mNil)))) (mCons (mTup (mCons (mC (.int 0)) (mCons (mC (.int 1)) (mCons (mC (.str "text")) mNil)))) (mCons (mTup (mCons (mC (.int 0)) (mCons (mC (.int 2)) (mCons (mC (.str "bool")) mNil)))) mNil))))))
    (mSeq (mSet 3 (mCallG (F__law_expr 5) (gConsS 1 (gConsS 0 (gCons (mC (.str "bool")) (gCons (mVar 2) (gCons (mOp dAdd (mC (.int 1)) (mCallG F__law_draw (gConsS 1 (gConsS 0 (gCons (mC (.int 4)) gNil))))) gNil)))))))
    (mSeq (mFor (mRng1 (mCons (mCallG F__law_draw (gConsS 1 (gConsS 0 (gCons (mC (.int 3)) gNil)))) mNil)) (bName 4) lb_law_1)
    (mSeq (mSet 8 (mCall dRepr (mCons (mVar 3) mNil)))
    (mSeq (mSetKd 9 ["int", "text", "bool"] (mCons (mL (mLst (mCons (mC .none) (mCons (mOp dSub (mC (.int 0)) (mC (.int 3))) (mCons (mOp dSub (mC (.int 0)) (mC (.int 2))) (mCons (mOp dSub (mC (.int 0)) (mC (.int 1))) (mCons (mC (.int 0)) (mCons (mC (.int 1)) (mCons (mC (.int 2)) (mCons (mC (.int 3)) (mCons (mC (.int 4)) (mCons (mC (.int 5)) mNil)))))))))))) (mCons (mL (mLst (mCons (mC .none) (mCons (mC (.str "")) (mCons (mC (.str "a")) (mCons (mC (.str "ab")) (mCons (mC (.str "b")) (mCons (mC (.str "b a")) (mCons (mC (.str "c")) mNil))))))))) (mCons (mL (mLst (mCons (mC .none) (mCons (mC (.bool false)) (mCons (mC (.bool true)) mNil))))) mNil))))
    (mSeq (mFor (mItL (mVar 2)) (bTup 3 (bCons (bName 10) (bCons (bName 11) (bCons (bName 12) bNil)))) lb_law_7)
    (mSeq (mSet 22 (mCallG (F__law_expr 5) (gConsS 1 (gConsS 0 (gCons (mC (.str "int")) (gCons (mVar 2) (gCons (mC (.int 2)) gNil)))))))
    (mRet (mBAnd (mOp dEq (mCall (F_strict_cells 9) (mCons (mVar 22) mNil)) (mCall (F__law_strict 9) (mCons (mVar 22) mNil))) (mOp dEq (mCall dRepr (mCons (mVar 3) mNil)) (mVar 8)))))))))))
theorem body_law (T : Txt K mg) (f : Addr) (cdv : Value) (A : Around) (outer : List PySem.Env) (s : Shared) (H : Hp) (E : XK) (hr : Room 23 (A.deeper (PyProof.Rows.envOfC "law" (defScope s_law) s.heap.objs.size f cdv))) (hG : (A.deeper (PyProof.Rows.envOfC "law" (defScope s_law) s.heap.objs.size f cdv)).guards = some []) :
    PSs (cxOf CX0 P wd K mg base n_law "law" (defScope s_law) f cdv A outer s H E).nox ((defBody s_law).drop 1) (tS K (drC K) m_law) :=
    (db_cons (ds_set (i := 2) sc_law.nd rfl (by first | exact Or.inl rfl | exact Or.inr rfl) (de_fresh (df_lst (da_cons (de_tup (da_cons de_int (da_cons de_int (da_cons de_str da_nil)))) (da_cons (de_tup (da_cons de_int (da_cons de_int (da_cons de_str da_nil)))) (da_cons (de_tup (da_cons de_int (da_cons de_int (da_cons de_str da_nil)))) da_nil))))))
    (db_cons (ds_set (i := 3) sc_law.nd rfl (by first | exact Or.inl rfl | exact Or.inr rfl) (call_G (ok__law_expr T 5) (hr.mono (by decide)) rfl (dg_st (i := 1) (dg_st (i := 0) (dg_cons de_str (dg_cons (de_var 2) (dg_cons (de_op op_addD od_addD de_int (call_G (ok__law_draw T) (hr.mono (by decide)) rfl (dg_st (i := 1) (dg_st (i := 0) (dg_cons de_int dg_nil))))) dg_nil)))))))
    (db_cons (ds_for PassesOwn.never rfl (di_range1 rfl T.z_range (da_cons (call_G (ok__law_draw T) (hr.mono (by decide)) rfl (dg_st (i := 1) (dg_st (i := 0) (dg_cons de_int dg_nil)))) da_nil)) (dg_name (i := 4) sc_law.nd rfl (by first | exact Or.inl rfl | exact Or.inr rfl))
    (db_cons (ds_set (i := 5) sc_law.nd rfl (by first | exact Or.inl rfl | exact Or.inr rfl) (de_tup (da_cons de_str (da_cons (de_op op_sub od_sub (call_G (ok__law_draw T) (hr.mono (by decide)) rfl (dg_st (i := 1) (dg_st (i := 0) (dg_cons de_int dg_nil)))) de_int) da_nil))))
    (db_cons (ds_set (i := 6) sc_law.nd rfl (by first | exact Or.inl rfl | exact Or.inr rfl) (call_G (ok__law_pick T) (hr.mono (by decide)) rfl (dg_st (i := 1) (dg_st (i := 0) (dg_cons (de_fresh (df_lst (da_cons (de_tup (da_cons (de_tup (da_cons de_str (da_cons de_int (da_cons de_int da_nil)))) (da_cons (de_var 5) da_nil))) (da_cons (de_tup (da_cons (de_var 5) (da_cons (de_tup (da_cons de_str (da_cons de_int (da_cons de_int da_nil)))) da_nil))) da_nil)))) dg_nil)))))
    (db_cons (ds_set (i := 7) sc_law.nd rfl (by first | exact Or.inl rfl | exact Or.inr rfl) (de_op op_addD od_addD (de_tup (da_cons (call_G (ok__law_pick T) (hr.mono (by decide)) rfl (dg_st (i := 1) (dg_st (i := 0) (dg_cons (de_fresh (df_lst (da_cons de_str (da_cons de_str da_nil)))) dg_nil)))) da_nil)) (de_var 6)))
    (db_cons (ds_set (i := 7) sc_law.nd rfl (by first | exact Or.inl rfl | exact Or.inr rfl) (call_G (ok__law_pick T) (hr.mono (by decide)) rfl (dg_st (i := 1) (dg_st (i := 0) (dg_cons (de_fresh (df_lst (da_cons (de_var 7) (da_cons (de_tup (da_cons de_str (da_cons (de_var 7) da_nil))) (da_cons (de_tup (da_cons de_str (da_cons (de_tup (da_cons de_str (da_cons de_int (da_cons de_int da_nil)))) (da_cons (de_fresh (df_lst (da_cons de_int (da_cons de_int (da_cons (de_ix (de_var 5) de_int) da_nil))))) da_nil)))) da_nil))))) dg_nil)))))
    (db_one (ds_set (i := 3) sc_law.nd rfl (by first | exact Or.inl rfl | exact Or.inr rfl) (de_tup (da_cons (call_G (ok__law_pick T) (hr.mono (by decide)) rfl (dg_st (i := 1) (dg_st (i := 0) (dg_cons (de_fresh (df_lst (da_cons de_str (da_cons de_str da_nil)))) dg_nil)))) (da_cons (de_var 3) (da_cons (de_var 7) da_nil)))))))))))
    (db_cons (ds_set (i := 8) sc_law.nd rfl (by first | exact Or.inl rfl | exact Or.inr rfl) (de_callB (cr_repr hG (hu65 hr)) cd_repr rfl T.z_repr (by decide +kernel) (da_cons (de_var 3) da_nil)))
    (db_cons (ds_setKd (i := 9) (ks := ["int", "text", "bool"]) sc_law.nd rfl (by first | exact Or.inl rfl | exact Or.inr rfl) (dps_cons (de_fresh (df_lst (da_cons de_non (da_cons (de_op op_sub od_sub de_int de_int) (da_cons (de_op op_sub od_sub de_int de_int) (da_cons (de_op op_sub od_sub de_int de_int) (da_cons de_int (da_cons de_int (da_cons de_int (da_cons de_int (da_cons de_int (da_cons de_int da_nil)))))))))))) (dps_cons (de_fresh (df_lst (da_cons de_non (da_cons de_str (da_cons de_str (da_cons de_str (da_cons de_str (da_cons de_str (da_cons de_str da_nil))))))))) (dps_cons (de_fresh (df_lst (da_cons de_non (da_cons de_bl (da_cons de_bl da_nil))))) dps_nil))) (by decide +kernel))
    (db_cons (ds_for PassesOwn.never rfl (di_list (de_var 2)) (dg_tup rfl (dgs_cons (dg_name (i := 10) sc_law.nd rfl (by first | exact Or.inl rfl | exact Or.inr rfl)) (dgs_cons (dg_name (i := 11) sc_law.nd rfl (by first | exact Or.inl rfl | exact Or.inr rfl)) (dgs_cons (dg_name (i := 12) sc_law.nd rfl (by first | exact Or.inl rfl | exact Or.inr rfl)) dgs_nil))))
    (db_cons (ds_setF (i := 13) sc_law.nd rfl (by first | exact Or.inl rfl | exact Or.inr rfl) (df_lst da_nil))
    (db_cons (ds_for PassesOwn.never rfl (di_list (de_fresh (df_lst (da_cons de_bl (da_cons de_bl da_nil))))) (dg_name (i := 14) sc_law.nd rfl (by first | exact Or.inl rfl | exact Or.inr rfl))
    (db_cons (ds_set (i := 15) sc_law.nd rfl (by first | exact Or.inl rfl | exact Or.inr rfl) (call_P (ok_bounds_of T 9) (hr.mono (by decide)) rfl (da_cons (de_var 3) (da_cons (de_tup (da_cons (de_var 10) (da_cons (de_var 11) da_nil))) (da_cons (de_var 14) da_nil)))))
    (db_cons (ds_set (i := 16) sc_law.nd rfl (by first | exact Or.inl rfl | exact Or.inr rfl) (call_P (ok__law_bounds T 9) (hr.mono (by decide)) rfl (da_cons (de_var 3) (da_cons (de_tup (da_cons (de_var 10) (da_cons (de_var 11) da_nil))) (da_cons (de_var 14) da_nil)))))
    (db_cons (ds_if (dt_cmp (op_neD (hu64 hr)) od_ne (de_callB (cr_repr hG (hu65 hr)) cd_repr rfl T.z_repr (by decide +kernel) (da_cons (de_var 15) da_nil)) (de_callB (cr_repr hG (hu65 hr)) cd_repr rfl T.z_repr (by decide +kernel) (da_cons (de_var 16) da_nil)) (nomark _))
    (db_one (ds_ret de_bl))
    db_nil)
    (db_cons (ds_append 13 (de_var 15))
    (db_cons (ds_for PassesOwn.never rfl (di_list (de_kdIx 9 (hu65 hr) (de_var 12))) (dg_name (i := 5) sc_law.nd rfl (by first | exact Or.inl rfl | exact Or.inr rfl))
    (db_one (ds_if (dt_cmp (op_neD (hu64 hr)) od_ne (call_P (ok_is_within T) (hr.mono (by decide)) rfl (da_cons (de_var 15) (da_cons (de_var 5) da_nil))) (call_P (ok__law_in T) (hr.mono (by decide)) rfl (da_cons (de_var 15) (da_cons (de_var 5) da_nil))) (nomark _))
    (db_one (ds_ret de_bl))
    db_nil)))
    (db_one (ds_for PassesOwn.never rfl (di_range1 rfl T.z_range (da_cons de_int da_nil)) (dg_name (i := 4) sc_law.nd rfl (by first | exact Or.inl rfl | exact Or.inr rfl))
    (db_cons (ds_set (i := 17) sc_law.nd rfl (by first | exact Or.inl rfl | exact Or.inr rfl) (de_callTy call_tuple_of cd_tuple rfl T.z_tuple (by decide +kernel) (da_cons (de_fresh (df_comp (own := [("cell", 18)]) rfl sc_law.nd (di_list (de_var 2)) (blkOk_by (N := n_law) (sc := defScope s_law) (by decide +kernel)) (fun _ _ _ _ _ => (dg_name (i := 18) sc_law.nd rfl (by first | exact Or.inl rfl | exact Or.inr rfl))) (fun _ _ _ _ _ => dts_nil) (fun _ _ _ _ _ => (call_G (ok__law_pick T) (hr.mono (by decide)) rfl (dg_st (i := 1) (dg_st (i := 0) (dg_cons (de_kdIx 9 (hu65 hr) (de_ix (de_var 18) de_int)) dg_nil))))))) da_nil)))
    (db_one (ds_if (PW.pt (dw_and (dt_cmp (op_eqD (hu64 hr)) od_eq (call_P (ok_value_of T 9) (hr.mono (by decide)) rfl (da_cons (de_var 3) (da_cons (de_tup (da_cons (de_var 17) da_nil)) (da_cons (de_tup da_nil) da_nil)))) (de_var 14) (nomark _)) (dw_and1 (dt_not (dt_tru (call_P (ok__law_in T) (hr.mono (by decide)) rfl (da_cons (de_var 15) (da_cons (de_ix (de_var 17) (de_var 11)) da_nil))))))))
    (db_one (ds_ret de_bl))
    db_nil)))))))))))
    (db_cons (ds_if (PW.pt (dw_or (dt_cmp (op_neD (hu64 hr)) od_ne (de_callB (cr_repr hG (hu65 hr)) cd_repr rfl T.z_repr (by decide +kernel) (da_cons (call_P (ok_meet T) (hr.mono (by decide)) rfl (da_cons (de_ixOw 13 de_int) (da_cons (de_ixOw 13 de_int) da_nil))) da_nil)) (de_callB (cr_repr hG (hu65 hr)) cd_repr rfl T.z_repr (by decide +kernel) (da_cons (call_P (ok__law_meet T) (hr.mono (by decide)) rfl (da_cons (de_ixOw 13 de_int) (da_cons (de_ixOw 13 de_int) da_nil))) da_nil)) (nomark _)) (dw_or1 (dt_cmp (op_neD (hu64 hr)) od_ne (de_callB (cr_repr hG (hu65 hr)) cd_repr rfl T.z_repr (by decide +kernel) (da_cons (call_P (ok_join T) (hr.mono (by decide)) rfl (da_cons (de_ixOw 13 de_int) (da_cons (de_ixOw 13 de_int) da_nil))) da_nil)) (de_callB (cr_repr hG (hu65 hr)) cd_repr rfl T.z_repr (by decide +kernel) (da_cons (call_P (ok__law_join T) (hr.mono (by decide)) rfl (da_cons (de_ixOw 13 de_int) (da_cons (de_ixOw 13 de_int) da_nil))) da_nil)) (nomark _)))))
    (db_one (ds_ret de_bl))
    db_nil)
    (db_cons (ds_for PassesOwn.never rfl (di_list (de_kdIx 9 (hu65 hr) (de_var 12))) (dg_name (i := 5) sc_law.nd rfl (by first | exact Or.inl rfl | exact Or.inr rfl))
    (db_one (ds_if (dt_cmp (op_neD (hu64 hr)) od_ne (call_P (ok__law_in T) (hr.mono (by decide)) rfl (da_cons (call_P (ok_meet T) (hr.mono (by decide)) rfl (da_cons (de_ixOw 13 de_int) (da_cons (de_ixOw 13 de_int) da_nil))) (da_cons (de_var 5) da_nil))) (de_and (call_P (ok__law_in T) (hr.mono (by decide)) rfl (da_cons (de_ixOw 13 de_int) (da_cons (de_var 5) da_nil))) (de_and1 (call_P (ok__law_in T) (hr.mono (by decide)) rfl (da_cons (de_ixOw 13 de_int) (da_cons (de_var 5) da_nil))))) (nomark _))
    (db_one (ds_ret de_bl))
    db_nil)))
    (db_cons (ds_set (i := 19) sc_law.nd rfl (by first | exact Or.inl rfl | exact Or.inr rfl) (de_tup (da_cons de_str da_nil)))
    (db_cons (ds_for PassesOwn.never rfl (di_list (call_P (ok_conjuncts T 9) (hr.mono (by decide)) rfl (da_cons (de_var 3) da_nil))) (dg_name (i := 20) sc_law.nd rfl (by first | exact Or.inl rfl | exact Or.inr rfl))
    (db_one (ds_set (i := 19) sc_law.nd rfl (by first | exact Or.inl rfl | exact Or.inr rfl) (call_P (ok__law_meet T) (hr.mono (by decide)) rfl (da_cons (de_var 19) (da_cons (call_P (ok__law_bounds T 9) (hr.mono (by decide)) rfl (da_cons (de_var 20) (da_cons (de_tup (da_cons (de_var 10) (da_cons (de_var 11) da_nil))) (da_cons de_bl da_nil)))) da_nil))))))
    (db_cons (ds_if (PW.pt (dw_or (dt_cmp (op_neD (hu64 hr)) od_ne (de_callB (cr_repr hG (hu65 hr)) cd_repr rfl T.z_repr (by decide +kernel) (da_cons (call_P (ok_sure_bounds T) (hr.mono (by decide)) rfl (da_cons (de_var 3) (da_cons (de_tup (da_cons (de_var 10) (da_cons (de_var 11) da_nil))) da_nil))) da_nil)) (de_callB (cr_repr hG (hu65 hr)) cd_repr rfl T.z_repr (by decide +kernel) (da_cons (de_var 19) da_nil)) (nomark _)) (dw_or (dt_cmp (op_neD (hu64 hr)) od_ne (de_callB (cr_repr hG (hu65 hr)) cd_repr rfl T.z_repr (by decide +kernel) (da_cons (call_P (ok_bounds_of_all T) (hr.mono (by decide)) rfl (da_cons (call_P (ok_conjuncts T 9) (hr.mono (by decide)) rfl (da_cons (de_var 3) da_nil)) (da_cons (de_tup (da_cons (de_var 10) (da_cons (de_var 11) da_nil))) da_nil))) da_nil)) (de_callB (cr_repr hG (hu65 hr)) cd_repr rfl T.z_repr (by decide +kernel) (da_cons (de_var 19) da_nil)) (nomark _)) (dw_or1 (dt_cmp (op_neD (hu64 hr)) od_ne (call_P (ok_sure_bounds T) (hr.mono (by decide)) rfl (da_cons de_non (da_cons (de_tup (da_cons (de_var 10) (da_cons (de_var 11) da_nil))) da_nil))) (de_tup (da_cons de_str da_nil)) (nomark _))))))
    (db_one (ds_ret de_bl))
    db_nil)
    (db_cons (ds_set (i := 21) sc_law.nd rfl (by first | exact Or.inl rfl | exact Or.inr rfl) de_non)
    (db_cons (ds_if (PW.pt (dw_and (dt_cmp (op_eqD (hu64 hr)) od_eq (de_ix (de_var 19) de_int) de_str (nomark _)) (dw_and (dt_cmp op_notN od_isNot (de_ix (de_var 19) de_int) de_non (nomark _)) (dw_and1 (dt_cmp (op_eqD (hu64 hr)) od_eq (de_ix (de_var 19) de_int) (de_ix (de_var 19) de_int) (nomark _))))))
    (db_one (ds_set (i := 21) sc_law.nd rfl (by first | exact Or.inl rfl | exact Or.inr rfl) (de_tup (da_cons (de_ix (de_ix (de_var 19) de_int) de_int) da_nil))))
    db_nil)
    (db_one (ds_if (PW.pt (dw_or (dt_cmp (op_neD (hu64 hr)) od_ne (call_P (ok_single_value T) (hr.mono (by decide)) rfl (da_cons (de_var 19) da_nil)) (de_var 21) (nomark _)) (dw_or1 (dt_cmp (op_neD (hu64 hr)) od_ne (call_P (ok_single_value T) (hr.mono (by decide)) rfl (da_cons (de_tup (da_cons de_str (da_cons (de_tup (da_cons de_int (da_cons de_bl da_nil))) (da_cons (de_tup (da_cons de_int (da_cons de_bl da_nil))) da_nil)))) da_nil)) (de_tup (da_cons de_int da_nil)) (nomark _)))))
    (db_one (ds_ret de_bl))
    db_nil))))))))))))
    (db_cons (ds_set (i := 22) sc_law.nd rfl (by first | exact Or.inl rfl | exact Or.inr rfl) (call_G (ok__law_expr T 5) (hr.mono (by decide)) rfl (dg_st (i := 1) (dg_st (i := 0) (dg_cons de_str (dg_cons (de_var 2) (dg_cons de_int dg_nil)))))))
    (db_one (ds_ret (de_and (de_cmp (op_eqD (hu64 hr)) od_eq (call_P (ok_strict_cells T 9) (hr.mono (by decide)) rfl (da_cons (de_var 22) da_nil)) (call_P (ok__law_strict T 9) (hr.mono (by decide)) rfl (da_cons (de_var 22) da_nil)) (nomark _)) (de_and1 (de_cmp (op_eqD (hu64 hr)) od_eq (de_callB (cr_repr hG (hu65 hr)) cd_repr rfl T.z_repr (by decide +kernel) (da_cons (de_var 3) da_nil)) (de_var 8) (nomark _)))))))))))))
end
end K32

namespace K32
open PySem Pd
/-! #### draws -/
abbrev DE3 (c : Addr) (m : Int) (x y z : SV) : Pd.Env := [.st, .raw (.ref c), .sh (.int m), x, y, z]
theorem draw0 {c : Addr} {m : Int} {g : Dc} (hc : g.c = c) (hm : 0 < m ∧ m < 1073741824) {x y : SV} : ∃ j g1, 0 ≤ j ∧ j < m ∧ g1.c = c ∧ ∃ e, (mSeq (mSet 5 (mOp dMod (mCall dInt (mCons (mStIx 0 (mC (.int 1))) mNil)) (mVar 2)))
    (mSeq (mStSet 0 (mC (.int 1)) (mOp dDiv (mStIx 0 (mC (.int 1))) (mVar 2)))
    (mRet (mVar 5)))) (DE3 c m x y .un) g = some (.re (.int j), e, g1) := by
  refine ⟨g.b.fmod m, { g with b := g.b.fdiv m }, Int.fmod_nonneg_of_pos _ hm.1, Int.fmod_lt_of_pos _ hm.1, hc, _, seq_nx (set_e (op_e (call_e (cons_e rfl nil_e) rfl) rfl (mod_e (by omega)))) (seq_nx (e1 := DE3 c m x y (.sh (.int (g.b.fmod m)))) (g1 := { g with b := g.b.fdiv m }) ?_ (ret_e rfl))⟩
  have e : mOp dDiv (mStIx 0 (mC (.int 1))) (mVar 2) (DE3 c m x y (.sh (.int (g.b.fmod m)))) g = some (.int (g.b.fdiv m), g) := op_e rfl rfl (div_e (by omega))
  unfold mStSet
  have e' : mOp dDiv (mStIx 0 (mC (.int 1))) (mVar 2) (((DE3 c m x y .un).set 5 (.sh (.int (g.b.fmod m))))) g = some (.int (g.b.fdiv m), g) := e
  rw [e']
  rfl
theorem stSet_e {env : Pd.Env} {g g1 g2 : Dc} {j : Nat} {mi me : ME Dc} {v : Int} (he : me env g = some (.int v, g1)) (hi : mi env g1 = some (.int 1, g2)) (hj : env.at j = .st) : mStSet j mi me env g = some (.nx, env, { g2 with b := v }) := by
  unfold mStSet
  rw [he]; dsimp only [bD]; rw [hi]; dsimp only [bD]; rw [hj]
  rfl
theorem stSet0_e {env : Pd.Env} {g g1 g2 : Dc} {j : Nat} {mi me : ME Dc} {v : Int} (he : me env g = some (.int v, g1)) (hi : mi env g1 = some (.int 0, g2)) (hj : env.at j = .st) : mStSet j mi me env g = some (.nx, env, { g2 with a := v }) := by
  unfold mStSet
  rw [he]; dsimp only [bD]; rw [hi]; dsimp only [bD]; rw [hj]
  rfl
theorem rawLen_e {env : Pd.Env} {g : Dc} {j : Nat} (h : env.at j = .raw (.ref g.c)) : mRawLen j env g = some (.int (g.ns.length : Int), g) := by
  unfold mRawLen
  rw [h]
  exact if_pos rfl
theorem draw_c (g : Dc) {m : Int} (hm : 0 < m ∧ m < 1073741824) : ∃ j g1, F__law_draw [.st, .raw (.ref g.c), .sh (.int m)] g = some (.int j, g1) ∧ 0 ≤ j ∧ j < m ∧ g1.c = g.c := by
  suffices h : ∃ j g1, 0 ≤ j ∧ j < m ∧ g1.c = g.c ∧ ∃ e, m__law_draw (DE3 g.c m .un .un .un) g = some (.re (.int j), e, g1) by
    obtain ⟨j, g1, h0, h1, hc, e, h⟩ := h
    exact ⟨j, g1, runG_re (as := [.st, .raw (.ref g.c), .sh (.int m)]) h, h0, h1, hc⟩
  by_cases hb : g.b = 0
  · have s1 : ∃ c1, (mIfS (mOpT dGtI (mRawLen 1) (mC (.int 0))) (mSet 3 (mRawIx 1 (mOp dMod (mStIx 0 (mC (.int 0))) (mRawLen 1)))) mSkip) (DE3 g.c m (.sh (.int 0)) .un .un) g = some (.nx, DE3 g.c m (.sh (.int c1)) .un .un, g) := by
      by_cases hl : 0 < g.ns.length
      · obtain ⟨k, ek, hk⟩ := fmod_ix (n := g.a) hl
        refine ⟨g.ns[k], if_t (opT_e (rawLen_e rfl) rfl (gt_t (by omega))) (set_e ?_)⟩
        have e : mOp dMod (mStIx 0 (mC (.int 0))) (mRawLen 1) (DE3 g.c m (.sh (.int 0)) .un .un) g = some (.int (k : Int), g) := op_e rfl (rawLen_e rfl) ((mod_e (by omega)).trans (by rw [ek]))
        unfold mRawIx
        rw [e]
        show (if g.c = g.c then _ else none) = _
        rw [if_pos rfl, L2.atI_nat (List.getElem?_eq_getElem hk)]
        rfl
      · exact ⟨0, if_no (opT_e (rawLen_e rfl) rfl (gt_f (by omega)))⟩
    obtain ⟨c1, s1⟩ := s1
    have s2 : ∃ c2, (mIfS (mOpT dLtI (mVar 3) (mC (.int 0))) (mSet 3 (mOp dSub (mC (.int 1)) (mOp dMul (mC (.int 2)) (mVar 3)))) mSkip) (DE3 g.c m (.sh (.int c1)) .un .un) g = some (.nx, DE3 g.c m (.sh (.int c2)) .un .un, g) := by
      by_cases hl : c1 < 0
      · exact ⟨1 - 2 * c1, if_t (opT_e rfl rfl (lt_t hl)) (set_e (op_e rfl (op_e rfl rfl (mul_l (by decide))) rfl))⟩
      · exact ⟨c1, if_no (opT_e rfl rfl (lt_f hl))⟩
    obtain ⟨c2, s2⟩ := s2
    have s3 : ∃ mx, mSet 4 (mOp dMod (mCall dInt (mCons (mOp dMul (mOp dAdd (mOp dAdd (mVar 3) (mOp dMul (mStIx 0 (mC (.int 0))) (mC (.int 7919)))) (mC (.int 1))) (mC (.int 48271))) mNil)) (mC (.int 2147483647))) (DE3 g.c m (.sh (.int c2)) .un .un) g = some (.nx, DE3 g.c m (.sh (.int c2)) (.sh (.int mx)) .un, g) :=
      ⟨_, set_e (op_e (call_e (cons_e (op_e (op_e (op_e rfl (op_e rfl rfl (mul_r (by decide))) rfl) rfl rfl) rfl (mul_r (by decide))) nil_e) rfl) rfl (mod_e (by decide)))⟩
    obtain ⟨mx, s3⟩ := s3
    have s4 : ∃ b1, mStSet 0 (mC (.int 1)) (mOp dMod (mCall dInt (mCons (mOp dAdd (mOp dMul (mVar 4) (mC (.int 69621))) (mOp dMul (mStIx 0 (mC (.int 0))) (mC (.int 104729)))) mNil)) (mC (.int 4294967291))) (DE3 g.c m (.sh (.int c2)) (.sh (.int mx)) .un) g = some (.nx, DE3 g.c m (.sh (.int c2)) (.sh (.int mx)) .un, { g with b := b1 }) :=
      ⟨_, stSet_e (op_e (call_e (cons_e (op_e (op_e rfl rfl (mul_r (by decide))) (op_e rfl rfl (mul_r (by decide))) rfl) nil_e) rfl) rfl (mod_e (by decide))) rfl rfl⟩
    obtain ⟨b1, s4⟩ := s4
    have s5 : ∃ b2, (mIfS (mAnd (mOpT dGeI (mVar 3) (mOp dPow (mC (.int 10)) (mC (.int 18)))) (mOpT dLtI (mStIx 0 (mC (.int 0))) (mRawLen 1))) (mStSet 0 (mC (.int 1)) (mVar 3)) mSkip) (DE3 g.c m (.sh (.int c2)) (.sh (.int mx)) .un) { g with b := b1 } = some (.nx, DE3 g.c m (.sh (.int c2)) (.sh (.int mx)) .un, { g with b := b2 }) := by
      have ep : mOp dPow (mC (.int 10)) (mC (.int 18)) (DE3 g.c m (.sh (.int c2)) (.sh (.int mx)) .un) { g with b := b1 } = some (.int 1000000000000000000, { g with b := b1 }) := op_e rfl rfl rfl
      by_cases h1 : 1000000000000000000 ≤ c2
      · by_cases h2 : g.a < g.ns.length
        · exact ⟨c2, if_t (and_t (opT_e rfl ep (ge_t h1)) (opT_e rfl (rawLen_e rfl) (lt_t h2))) (stSet_e (g2 := { g with b := b1 }) rfl rfl rfl)⟩
        · exact ⟨b1, if_no (and_t (opT_e rfl ep (ge_t h1)) (opT_e rfl (rawLen_e rfl) (lt_f h2)))⟩
      · exact ⟨b1, if_no (and_f (opT_e rfl ep (ge_f h1)))⟩
    obtain ⟨b2, s5⟩ := s5
    have s6 : mStSet 0 (mC (.int 0)) (mOp dAdd (mStIx 0 (mC (.int 0))) (mC (.int 1))) (DE3 g.c m (.sh (.int c2)) (.sh (.int mx)) .un) { g with b := b2 } = some (.nx, DE3 g.c m (.sh (.int c2)) (.sh (.int mx)) .un, { g with a := g.a + 1, b := b2 }) := stSet0_e (g2 := { g with b := b2 }) (op_e rfl rfl rfl) rfl rfl
    obtain ⟨j, g1, h0, h1, hc, e, h⟩ := draw0 (c := g.c) (m := m) (g := { g with a := g.a + 1, b := b2 }) rfl hm (x := .sh (.int c2)) (y := .sh (.int mx))
    exact ⟨j, g1, h0, h1, hc, e, seq_nx (if_t (opT_e rfl rfl (eq_it hb)) (seq_nx (set_e rfl) (seq_nx s1 (seq_nx s2 (seq_nx s3 (seq_nx s4 (seq_nx s5 s6))))))) h⟩
  · obtain ⟨j, g1, h0, h1, hc, e, h⟩ := draw0 (c := g.c) (m := m) (g := g) rfl hm (x := .un) (y := .un)
    exact ⟨j, g1, h0, h1, hc, e, seq_nx (if_no (opT_e rfl rfl (eq_if hb))) h⟩
end K32

namespace K32
open PySem Pd
/-! #### expressions -/
inductive Kd | int | text | bool
def Kd.s : Kd → Str
  | .int => "int"
  | .text => "text"
  | .bool => "bool"
inductive W2 | plus | minus | times | same | less | and | or
def W2.s : W2 → Str
  | .plus => "plus"
  | .minus => "minus"
  | .times => "times"
  | .same => "same"
  | .less => "less"
  | .and => "and"
  | .or => "or"
def W2.arith : W2 → Bool
  | .plus | .minus | .times => true
  | _ => false
def W2.cmp : W2 → Bool
  | .same | .less => true
  | _ => false
def W2.logic : W2 → Bool
  | .and | .or => true
  | _ => false
inductive Ex
  | val (d : D) | cell (i j : Nat) | nt (a : Ex) | nl (a : Ex) | am (a : Ex) (vs : List D) | bin (w : W2) (a b : Ex)
def Ex.d : Ex → D
  | .val d => .tuple [.str "value", d]
  | .cell i j => .tuple [.str "cell", .int (i : Int), .int (j : Int)]
  | .nt a => .tuple [.str "not", a.d]
  | .nl a => .tuple [.str "null", a.d]
  | .am a vs => .tuple [.str "among", a.d, .list vs]
  | .bin w a b => .tuple [.str w.s, a.d, b.d]
/-- a small value of a kind -/
def Vd : Kd → D → Prop
  | .int, d => d = .none ∨ ∃ i : Int, d = .int i ∧ -5 ≤ i ∧ i ≤ 5
  | .bool, d => d = .none ∨ ∃ b, d = .bool b
  | .text, d => d = .none ∨ ∃ s ∈ (["", "a", "b", "ab", "b a", "c"] : List Str), d = .str s
abbrev Cell := Nat × Nat × Kd
def cD (c : Cell) : D := .tuple [.int (c.1 : Int), .int (c.2.1 : Int), .str c.2.2.s]
def cellsL : List Cell := [(0, 0, .int), (0, 1, .text), (0, 2, .bool)]
inductive WT : Kd → Nat → Ex → Prop
  | val {k n d} : Vd k d → WT k n (.val d)
  | cell {k n i j} : (i, j, k) ∈ cellsL → WT k n (.cell i j)
  | ar {n w a b} : W2.arith w = true → WT .int n a → WT .int n b → WT .int (n + 1) (.bin w a b)
  | cmp {k n w a b} : W2.cmp w = true → WT k n a → WT k n b → WT .bool (n + 1) (.bin w a b)
  | lg {n w a b} : W2.logic w = true → WT .bool n a → WT .bool n b → WT .bool n (.bin w a b)
  | nt {n a} : WT .bool n a → WT .bool n (.nt a)
  | nl {k n a} : WT k n a → WT .bool (n + 1) (.nl a)
  | am {k n a vs} : WT k n a → (∀ v ∈ vs, Vd k v) → 1 ≤ vs.length → vs.length ≤ 3 → WT .bool (n + 1) (.am a vs)
theorem WT.up {k : Kd} {n : Nat} {e : Ex} (h : WT k n e) : WT k (n + 1) e := by
  induction h with
  | val h => exact .val h
  | cell h => exact .cell h
  | ar hw _ _ ia ib => exact .ar hw ia ib
  | cmp hw _ _ ia ib => exact .cmp hw ia ib
  | lg hw _ _ ia ib => exact .lg hw ia ib
  | nt _ ia => exact .nt ia
  | nl _ ia => exact .nl ia
  | am _ h1 h2 h3 ia => exact .am ia h1 h2 h3
def Ex.h : Ex → Nat
  | .val _ => 0
  | .cell _ _ => 0
  | .nt a => a.h + 1
  | .nl a => a.h + 1
  | .am a _ => a.h + 1
  | .bin _ a b => max a.h b.h + 1
/-! #### calls with the draws -/
section
variable {env : Pd.Env} {g g1 g2 : Dc} {i k : Nat} {c : Addr}
theorem gst2 {ml : MG Dc} {as : List SV} (hi : env.at i = .st) (hk : env.at k = .raw (.ref c)) (h : ml env g = some (as, g1)) : gConsS i (gConsS k ml) env g = some (.st :: .raw (.ref c) :: as, g1) := by
  unfold gConsS
  rw [hi, hk]
  dsimp only
  rw [h]
theorem gsh {me : ME Dc} {ml : MG Dc} {d : D} {as : List SV} (he : me env g = some (d, g1)) (h : ml env g1 = some (as, g2)) : gCons me ml env g = some (.sh d :: as, g2) := by
  unfold gCons
  rw [he]
  dsimp only [bD]
  rw [h]
theorem drawn {me : ME Dc} {m : Int} (hi : env.at i = .st) (hk : env.at k = .raw (.ref g.c)) (he : me env g = some (.int m, g)) (hm : 0 < m ∧ m < 1073741824) : ∃ j g1, mCallG F__law_draw (gConsS i (gConsS k (gCons me gNil))) env g = some (.int j, g1) ∧ 0 ≤ j ∧ j < m ∧ g1.c = g.c := by
  obtain ⟨j, g1, h1, h2⟩ := draw_c g hm
  exact ⟨j, g1, callG_e (gst2 hi hk (gsh he rfl)) h1, h2⟩
theorem pick_e (g : Dc) {xs : List D} (h : xs ≠ []) (hl : xs.length < 1073741824) : ∃ x ∈ xs, ∃ g1, F__law_pick [.st, .raw (.ref g.c), .sh (.list xs)] g = some (x, g1) ∧ g1.c = g.c := by
  have hp := List.length_pos_iff.mpr h
  obtain ⟨j, g1, e1, j0, j1, hc⟩ := drawn (env := startE 3 [.st, .raw (.ref g.c), .sh (.list xs)]) (g := g) (i := 0) (k := 1) (me := mCall dLen (mCons (mVar 2) mNil)) (m := (xs.length : Int)) rfl rfl (call_e (cons_e rfl nil_e) rfl) (by omega)
  obtain ⟨n, rfl⟩ := Int.eq_ofNat_of_zero_le j0
  have hn : n < xs.length := by exact Int.ofNat_lt.mp j1
  exact ⟨xs[n], List.getElem_mem hn, g1, runG_re (as := [.st, .raw (.ref g.c), .sh (.list xs)]) (ret_e (op_e rfl e1 (ix_nat (List.getElem?_eq_getElem hn)))), hc⟩
theorem picked {me : ME Dc} {xs : List D} (hi : env.at i = .st) (hk : env.at k = .raw (.ref g.c)) (he : me env g = some (.list xs, g)) (h : xs ≠ []) (hl : xs.length < 1073741824) : ∃ x ∈ xs, ∃ g1, mCallG F__law_pick (gConsS i (gConsS k (gCons me gNil))) env g = some (x, g1) ∧ g1.c = g.c := by
  obtain ⟨x, hx, g1, h1, h2⟩ := pick_e g h hl
  exact ⟨x, hx, g1, callG_e (gst2 hi hk (gsh he rfl)) h1, h2⟩
end
theorem some_e (g : Dc) (k : Kd) : ∃ d g1, F__law_some [.st, .raw (.ref g.c), .sh (.str k.s)] g = some (d, g1) ∧ Vd k d ∧ g1.c = g.c := by
  obtain ⟨j, g1, e1, j0, j1, hc⟩ := drawn (env := startE 3 [.st, .raw (.ref g.c), .sh (.str k.s)]) (g := g) (i := 0) (k := 1) (me := mC (.int 6)) (m := 6) rfl rfl rfl (by decide)
  by_cases hj : j = 0
  · exact ⟨.none, g1, runG_re (as := [.st, .raw (.ref g.c), .sh (.str k.s)]) (seq_re (if_t (opT_e e1 rfl (eq_it hj)) (ret_e rfl))), by cases k <;> exact .inl rfl, hc⟩
  · have s1 := if_no (m1 := mRet (mC .none)) (opT_e e1 (show mC (.int 0) (startE 3 [.st, .raw (.ref g.c), .sh (.str k.s)]) g1 = _ from rfl) (eq_if hj))
    cases k with
    | int =>
      obtain ⟨v, g2, e2, v0, v1, hc2⟩ := drawn (env := startE 3 [.st, .raw (.ref g.c), .sh (.str Kd.int.s)]) (g := g1) (i := 0) (k := 1) (me := mC (.int 6)) (m := 6) rfl (by rw [hc]; rfl) rfl (by decide)
      exact ⟨.int (v - 2), g2, runG_re (as := [.st, .raw (.ref g.c), .sh (.str Kd.int.s)]) (seq_nx s1 (seq_re (if_t (opT_e rfl rfl rfl) (ret_e (op_e e2 rfl rfl))))), .inr ⟨_, rfl, by omega, by omega⟩, hc2.trans hc⟩
    | bool =>
      obtain ⟨v, g2, e2, v0, v1, hc2⟩ := drawn (env := startE 3 [.st, .raw (.ref g.c), .sh (.str Kd.bool.s)]) (g := g1) (i := 0) (k := 1) (me := mC (.int 2)) (m := 2) rfl (by rw [hc]; rfl) rfl (by decide)
      exact ⟨.bool (v == 0), g2, runG_re (as := [.st, .raw (.ref g.c), .sh (.str Kd.bool.s)]) (seq_nx s1 (seq_nx (if_no (opT_e rfl rfl rfl)) (seq_re (if_t (opT_e rfl rfl rfl) (ret_e (op_e e2 rfl (eq_int _ _))))))), .inr ⟨_, rfl⟩, hc2.trans hc⟩
    | text =>
      obtain ⟨x, hx, g2, e2, hc2⟩ := picked (env := startE 3 [.st, .raw (.ref g.c), .sh (.str Kd.text.s)]) (g := g1) (i := 0) (k := 1) (me := mL (mLst (mCons (mC (.str "")) (mCons (mC (.str "a")) (mCons (mC (.str "b")) (mCons (mC (.str "ab")) (mCons (mC (.str "b a")) mNil))))))) (xs := (["", "a", "b", "ab", "b a"] : List Str).map .str) rfl (by rw [hc]; rfl) (L_e (lst_e (cons_e rfl (cons_e rfl (cons_e rfl (cons_e rfl (cons_e rfl nil_e))))))) (by simp) (by decide)
      obtain ⟨s, hs, rfl⟩ := List.mem_map.mp hx
      exact ⟨.str s, g2, runG_re (as := [.st, .raw (.ref g.c), .sh (.str Kd.text.s)]) (seq_nx s1 (seq_nx (if_no (opT_e rfl rfl rfl)) (seq_nx (if_no (opT_e rfl rfl rfl)) (ret_e e2)))), .inr ⟨s, (show s ∈ (["", "a", "b", "ab", "b a"] : List Str) ++ (["c"] : List Str) from List.mem_append_left _ hs), rfl⟩, hc2.trans hc⟩
theorem somed {env : Pd.Env} {g : Dc} {i k : Nat} {me : ME Dc} {kd : Kd} (hi : env.at i = .st) (hk : env.at k = .raw (.ref g.c)) (he : me env g = some (.str kd.s, g)) : ∃ d g1, mCallG F__law_some (gConsS i (gConsS k (gCons me gNil))) env g = some (d, g1) ∧ Vd kd d ∧ g1.c = g.c := by
  obtain ⟨x, g1, h1, h2⟩ := some_e g kd
  exact ⟨x, g1, callG_e (gst2 hi hk (gsh he rfl)) h1, h2⟩
theorem kd_eq (a b : Kd) : dEq (.str a.s) (.str b.s) = some (.bool (decide (a.s = b.s))) := by cases a <;> cases b <;> rfl
theorem leaf_e (g : Dc) (k : Kd) (n : Nat) : ∃ e g1, F__law_leaf [.st, .raw (.ref g.c), .sh (.str k.s), .sh (.list (cellsL.map cD))] g = some (Ex.d e, g1) ∧ (WT k n e ∧ e.h = 0) ∧ g1.c = g.c := by
  have hc : compL (bName 5) (mOpT dEq (mOp dIx (mVar 5) (mC (.int 2))) (mVar 2)) (mVar 5) (Pd.Env.wipe (startE 6 [.st, .raw (.ref g.c), .sh (.str k.s), .sh (.list (cellsL.map cD))]) [5]) (cellsL.map cD) g = some ((cellsL.filter fun c => decide (c.2.2.s = k.s)).map cD, g) :=
    compL_filter cD cD (fun c => decide (c.2.2.s = k.s)) fun c _ => ⟨_, rfl, opT_e (op_e rfl rfl rfl) rfl (kd_eq _ _), rfl⟩
  let own := cellsL.filter fun c => decide (c.2.2.s = k.s)
  have hown : ∀ c ∈ own, c ∈ cellsL ∧ c.2.2 = k := fun c hc => by
    obtain ⟨h1, h2⟩ := List.mem_filter.mp hc
    refine ⟨h1, ?_⟩
    have h2 := of_decide_eq_true h2
    generalize c.2.2 = k2 at h2
    cases k2 <;> cases k <;> first | rfl | exact absurd h2 (by decide +kernel)
  have hne : own ≠ [] := by
    show (cellsL.filter fun c => decide (c.2.2.s = k.s)) ≠ []
    cases k <;> decide +kernel
  have hlen : own.length ≤ 3 := List.length_filter_le _ _
  have hcell : ∀ c ∈ own, ∀ s : Str, s = "cell" → ∃ e, Ex.d e = .tuple [.str s, .int (c.1 : Int), .int (c.2.1 : Int)] ∧ (WT k n e ∧ e.h = 0) := fun c hc s hs => by
    obtain ⟨h1, h2⟩ := hown c hc
    refine ⟨.cell c.1 c.2.1, by rw [hs]; rfl, .cell ?_, rfl⟩
    rw [← h2]
    exact h1
  let E1 : Pd.Env := [.st, .raw (.ref g.c), .sh (.str k.s), .sh (.list (cellsL.map cD)), .sh (.list (own.map cD)), .un]
  have s1 : mThen (mSetF 4 (mComp (mItL (mVar 3)) [5] (bName 5) (mOpT dEq (mOp dIx (mVar 5) (mC (.int 2))) (mVar 2)) (mVar 5))) 4 (startE 6 [.st, .raw (.ref g.c), .sh (.str k.s), .sh (.list (cellsL.map cD))]) g = some (.nx, E1, g) :=
    then_e (setF_e (comp_e (itL_e rfl) rfl hc))
  have t1 : mOpT dNe (mVar 4) (mL (mLst mNil)) E1 g = some (true, g) := by
    refine opT_e rfl (L_e (lst_e nil_e)) ?_
    show dNe (.list (own.map cD)) (.list []) = _
    have hd : (PyData.list (own.map cD)).depth ≤ 64 := Nat.le_trans (depth_list (n := 1) fun x hx => by obtain ⟨c, _, rfl⟩ := List.mem_map.mp hx; exact Nat.le_of_ble_eq_true rfl) (by decide)
    rw [ne_flat hd (by decide +kernel)]
    cases e : own with
    | nil => exact absurd e hne
    | cons a t => rfl
  obtain ⟨j, g1, e1, j0, j1, hc1⟩ := drawn (env := E1) (g := g) (i := 0) (k := 1) (me := mC (.int 3)) (m := 3) rfl rfl rfl (by decide)
  by_cases hj : 0 < j
  · obtain ⟨x, hx, g2, e2, hc2⟩ := picked (env := E1) (g := g1) (i := 0) (k := 1) (me := mVar 4) (xs := own.map cD) rfl (by rw [hc1]; rfl) rfl (by simpa using hne) (by rw [List.length_map]; omega)
    obtain ⟨c, hcm, rfl⟩ := List.mem_map.mp hx
    obtain ⟨e, he, hw⟩ := hcell c hcm "cell" rfl
    refine ⟨e, g2, runG_re (as := [.st, .raw (.ref g.c), .sh (.str k.s), .sh (.list (cellsL.map cD))]) (seq_nx s1 (seq_re (if_t (and_t t1 (opT_e e1 rfl (gt_t hj))) (ret_e (op_e (tup_e (cons_e rfl nil_e)) (slT_e (h := some 2) e2 rfl (part_e rfl) rfl) ?_))))), hw, hc2.trans hc1⟩
    rw [he]
    rfl
  · obtain ⟨d, g2, e2, hv, hc2⟩ := somed (env := E1) (g := g1) (i := 0) (k := 1) (me := mVar 2) (kd := k) rfl (by rw [hc1]; rfl) rfl
    exact ⟨.val d, g2, runG_re (as := [.st, .raw (.ref g.c), .sh (.str k.s), .sh (.list (cellsL.map cD))]) (seq_nx s1 (seq_nx (if_no (and_t t1 (opT_e e1 rfl (gt_f hj)))) (ret_e (tup_e (cons_e rfl (cons_e e2 nil_e)))))), ⟨.val hv, rfl⟩, hc2.trans hc1⟩
end K32

namespace K32
open PySem Pd
inductive Wd7 | same | less | and | or | not | null | among
def Wd7.s : Wd7 → Str
  | .same => "same"
  | .less => "less"
  | .and => "and"
  | .or => "or"
  | .not => "not"
  | .null => "null"
  | .among => "among"
def Wd7.lg : Wd7 → Bool
  | .and | .or | .not => true
  | _ => false
def Wd7.one : Wd7 → Bool
  | .not | .null => true
  | _ => false
def Wd7.am : Wd7 → Bool
  | .among => true
  | _ => false
abbrev XA (c : Addr) (k : Kd) (f : Nat) : List SV := [.st, .raw (.ref c), .sh (.str k.s), .sh (.list (cellsL.map cD)), .sh (.int (f : Int))]
abbrev XE (c : Addr) (k : Kd) (f : Nat) (w i o t : SV) : Pd.Env := [.st, .raw (.ref c), .sh (.str k.s), .sh (.list (cellsL.map cD)), .sh (.int (f : Int)), w, i, o, t]
section
variable {F : List SV → Dc → Option (D × Dc)} {k k2 : Kd} {f : Nat} {g : Dc} {c : Addr} {w i o t : SV}
/-- the call behind -/
theorem self_e {d : D} {g1 : Dc} {me : ME Dc} {ki : Kd} (h : F [.st, .raw (.ref c), .sh (.str ki.s), .sh (.list (cellsL.map cD)), .sh (.int (f : Int))] g = some (d, g1)) (hm : me (XE c k (f + 1) w i o t) g = some (.str ki.s, g)) :
    mCallG F (gConsS 0 (gConsS 1 (gCons me (gCons (mVar 3) (gCons (mOp dSub (mVar 4) (mC (.int 1))) gNil))))) (XE c k (f + 1) w i o t) g = some (d, g1) := by
  refine callG_e (gst2 rfl rfl (gsh hm (gsh rfl (gsh (op_e rfl rfl ?_) rfl)))) h
  exact congrArg (fun z => some (PyData.int z)) (by omega)
end
theorem pick7 {x : D} (h : x ∈ ([.str "same", .str "less", .str "same", .str "less", .str "and", .str "or", .str "and", .str "not", .str "null", .str "among"] : List D)) : ∃ w : Wd7, x = .str w.s := by
  simp only [List.mem_cons, List.not_mem_nil, or_false] at h
  rcases h with rfl | rfl | rfl | rfl | rfl | rfl | rfl | rfl | rfl | rfl
  · exact ⟨.same, rfl⟩
  · exact ⟨.less, rfl⟩
  · exact ⟨.same, rfl⟩
  · exact ⟨.less, rfl⟩
  · exact ⟨.and, rfl⟩
  · exact ⟨.or, rfl⟩
  · exact ⟨.and, rfl⟩
  · exact ⟨.not, rfl⟩
  · exact ⟨.null, rfl⟩
  · exact ⟨.among, rfl⟩
theorem pick3 {x : D} (h : x ∈ ([.str "plus", .str "minus", .str "times"] : List D)) : ∃ w : W2, w.arith = true ∧ x = .str w.s := by
  simp only [List.mem_cons, List.not_mem_nil, or_false] at h
  rcases h with rfl | rfl | rfl
  · exact ⟨.plus, rfl, rfl⟩
  · exact ⟨.minus, rfl, rfl⟩
  · exact ⟨.times, rfl, rfl⟩
theorem pickK {x : D} (h : x ∈ ([.str "int", .str "int", .str "text", .str "bool"] : List D)) : ∃ k : Kd, x = .str k.s := by
  simp only [List.mem_cons, List.not_mem_nil, or_false] at h
  rcases h with rfl | rfl | rfl | rfl
  · exact ⟨.int, rfl⟩
  · exact ⟨.int, rfl⟩
  · exact ⟨.text, rfl⟩
  · exact ⟨.bool, rfl⟩
theorem in_lg (w : Wd7) : dInF false (.str w.s) (.list [.str "and", .str "or", .str "not"]) = some (.bool w.lg) := by cases w <;> rfl
theorem in_one (w : Wd7) : dInF false (.str w.s) (.list [.str "not", .str "null"]) = some (.bool w.one) := by cases w <;> rfl
theorem is_am (w : Wd7) : dEq (.str w.s) (.str "among") = some (.bool w.am) := by cases w <;> rfl
/-- the words of an expression of truth -/
def Wd7.kind (w : Wd7) (k : Kd) : Kd := if w.lg = true then .bool else k
theorem expr_e : ∀ (n f : Nat) (k : Kd) (g : Dc), f ≤ n → ∃ e g1, F__law_expr (n + 1) (XA g.c k f) g = some (Ex.d e, g1) ∧ (WT k f e ∧ e.h ≤ f) ∧ g1.c = g.c := by
  intro n
  induction n with
  | zero =>
    intro f k g hf
    obtain rfl : f = 0 := by omega
    obtain ⟨e, g1, e1, hw, hc⟩ := leaf_e g k 0
    exact ⟨e, g1, runG_re (as := XA g.c k 0) (m := m__law_expr (F__law_expr 0)) (seq_re (if_t (or_t (opT_e rfl rfl rfl)) (ret_e (callG_e (gst2 rfl rfl (gsh rfl (gsh rfl rfl))) e1)))), ⟨hw.1, Nat.le_trans (Nat.le_of_eq hw.2) (Nat.zero_le _)⟩, hc⟩
  | succ n ih =>
    intro f k g hf
    cases f with
    | zero =>
      obtain ⟨e, g1, e1, hw, hc⟩ := leaf_e g k 0
      exact ⟨e, g1, runG_re (as := XA g.c k 0) (m := m__law_expr (F__law_expr (n + 1))) (seq_re (if_t (or_t (opT_e rfl rfl rfl)) (ret_e (callG_e (gst2 rfl rfl (gsh rfl (gsh rfl rfl))) e1)))), ⟨hw.1, Nat.le_trans (Nat.le_of_eq hw.2) (Nat.zero_le _)⟩, hc⟩
    | succ f =>
      have hf : f ≤ n := by omega
      let E0 := XE g.c k (f + 1) .un .un .un .un
      have t0 : mOpT dEq (mVar 4) (mC (.int 0)) E0 g = some (false, g) := opT_e rfl rfl (eq_if (by omega))
      by_cases hk : k.s = Kd.text.s
      · obtain ⟨e, g1, e1, hw, hc⟩ := leaf_e g k (f + 1)
        have t1 : mOpT dEq (mVar 2) (mC (.str "text")) E0 g = some (true, g) := opT_e rfl rfl ((kd_eq k .text).trans (by rw [decide_eq_true hk]))
        exact ⟨e, g1, runG_re (as := XA g.c k (f + 1)) (m := m__law_expr (F__law_expr (n + 1))) (seq_re (if_t (or_f t0 (or_t t1)) (ret_e (callG_e (gst2 rfl rfl (gsh rfl (gsh rfl rfl))) e1)))), ⟨hw.1, Nat.le_trans (Nat.le_of_eq hw.2) (Nat.zero_le _)⟩, hc⟩
      have t1 : mOpT dEq (mVar 2) (mC (.str "text")) E0 g = some (false, g) := opT_e rfl rfl ((kd_eq k .text).trans (by rw [decide_eq_false hk]))
      obtain ⟨j, g1, e1, j0, j1, hc1⟩ := drawn (env := E0) (g := g) (i := 0) (k := 1) (me := mC (.int 4)) (m := 4) rfl rfl rfl (by decide)
      by_cases hj : j = 0
      · obtain ⟨e, g2, e2, hw, hc2⟩ := leaf_e g1 k (f + 1)
        rw [hc1] at e2
        exact ⟨e, g2, runG_re (as := XA g.c k (f + 1)) (m := m__law_expr (F__law_expr (n + 1))) (seq_re (if_t (or_f t0 (or_f t1 (opT_e e1 rfl (eq_it hj)))) (ret_e (callG_e (gst2 rfl rfl (gsh rfl (gsh rfl rfl))) e2)))), ⟨hw.1, Nat.le_trans (Nat.le_of_eq hw.2) (Nat.zero_le _)⟩, hc2.trans hc1⟩
      have s0 := if_no (m1 := mRet (mCallG F__law_leaf (gConsS 0 (gConsS 1 (gCons (mVar 2) (gCons (mVar 3) gNil)))))) (or_f t0 (or_f t1 (opT_e e1 (show mC (.int 0) E0 g1 = _ from rfl) (eq_if hj))))
      cases k with
      | text => exact absurd rfl hk
      | int =>
        obtain ⟨x, hx, g2, e2, hc2⟩ := picked (env := E0) (g := g1) (i := 0) (k := 1) (me := mL (mLst (mCons (mC (.str "plus")) (mCons (mC (.str "minus")) (mCons (mC (.str "times")) mNil))))) rfl (by rw [hc1]; rfl) (L_e (lst_e (cons_e rfl (cons_e rfl (cons_e rfl nil_e))))) (by simp) (by decide)
        obtain ⟨w, hw, rfl⟩ := pick3 hx
        obtain ⟨a, g3, e3, ha, hc3⟩ := ih f .int g2 hf
        obtain ⟨b, g4, e4, hb, hc4⟩ := ih f .int g3 hf
        have hc2' : g2.c = g.c := hc2.trans hc1
        have hc3' : g3.c = g.c := hc3.trans hc2'
        rw [hc2'] at e3
        rw [hc3'] at e4
        exact ⟨.bin w a b, g4, runG_re (as := XA g.c .int (f + 1)) (m := m__law_expr (F__law_expr (n + 1))) (seq_nx s0 (seq_re (if_t (opT_e rfl rfl rfl) (seq_nx (set_e e2) (ret_e (tup_e (cons_e rfl (cons_e (self_e e3 rfl) (cons_e (self_e e4 rfl) nil_e))))))))), ⟨.ar hw ha.1 hb.1, by show max a.h b.h + 1 ≤ f + 1; have := ha.2; have := hb.2; omega⟩, hc4.trans hc3'⟩
      | bool =>
        obtain ⟨x, hx, g2, e2, hc2⟩ := picked (env := E0) (g := g1) (i := 0) (k := 1) (me := mL (mLst (mCons (mC (.str "same")) (mCons (mC (.str "less")) (mCons (mC (.str "same")) (mCons (mC (.str "less")) (mCons (mC (.str "and")) (mCons (mC (.str "or")) (mCons (mC (.str "and")) (mCons (mC (.str "not")) (mCons (mC (.str "null")) (mCons (mC (.str "among")) mNil)))))))))))) rfl (by rw [hc1]; rfl) (L_e (lst_e (cons_e rfl (cons_e rfl (cons_e rfl (cons_e rfl (cons_e rfl (cons_e rfl (cons_e rfl (cons_e rfl (cons_e rfl (cons_e rfl nil_e)))))))))))) (by simp) (by decide)
        obtain ⟨w, rfl⟩ := pick7 hx
        have hc2' : g2.c = g.c := hc2.trans hc1
        let E1 := XE g.c .bool (f + 1) (.sh (.str w.s)) .un .un .un
        obtain ⟨y, hy, g3, e3, hc3⟩ := picked (env := E1) (g := g2) (i := 0) (k := 1) (me := mL (mLst (mCons (mC (.str "int")) (mCons (mC (.str "int")) (mCons (mC (.str "text")) (mCons (mC (.str "bool")) mNil)))))) rfl (by rw [hc2']; rfl) (L_e (lst_e (cons_e rfl (cons_e rfl (cons_e rfl (cons_e rfl nil_e)))))) (by simp) (by decide)
        obtain ⟨kk, rfl⟩ := pickK hy
        have hc3' : g3.c = g.c := hc3.trans hc2'
        let ki := w.kind kk
        have s2 : (mIfS (mOpT (dInF false) (mVar 5) (mL (mLst (mCons (mC (.str "and")) (mCons (mC (.str "or")) (mCons (mC (.str "not")) mNil)))))) (mSet 6 (mC (.str "bool"))) mSkip) (XE g.c .bool (f + 1) (.sh (.str w.s)) (.sh (.str kk.s)) .un .un) g3 = some (.nx, XE g.c .bool (f + 1) (.sh (.str w.s)) (.sh (.str ki.s)) .un .un, g3) := by
          show _ = some (Ct.nx, XE g.c .bool (f + 1) (.sh (.str w.s)) (.sh (.str (w.kind kk).s)) .un .un, g3)
          have ht := opT_e (ma := mVar 5) (mb := mL (mLst (mCons (mC (.str "and")) (mCons (mC (.str "or")) (mCons (mC (.str "not")) mNil))))) (env := XE g.c .bool (f + 1) (.sh (.str w.s)) (.sh (.str kk.s)) .un .un) (g := g3) rfl (L_e (lst_e (cons_e rfl (cons_e rfl (cons_e rfl nil_e))))) (in_lg w)
          unfold Wd7.kind
          cases hl : w.lg with
          | true => rw [hl] at ht; exact if_t ht (set_e rfl)
          | false => rw [hl] at ht; exact if_no ht
        obtain ⟨a, g4, e4, ha, hc4⟩ := ih f ki g3 hf
        have hc4' : g4.c = g.c := hc4.trans hc3'
        rw [hc3'] at e4
        have pre : ∀ {r}, (mSeq (mIfS (mOpT (dInF false) (mVar 5) (mL (mLst (mCons (mC (.str "not")) (mCons (mC (.str "null")) mNil)))))
    (mRet (mTup (mCons (mVar 5) (mCons (mVar 7) mNil))))
    mSkip)
    (mSeq (mIfS (mOpT dEq (mVar 5) (mC (.str "among")))
    (mRet (mTup (mCons (mVar 5) (mCons (mVar 7) (mCons (mL (mComp (mRng1 (mCons (mOp dAdd (mC (.int 1)) (mCallG F__law_draw (gConsS 0 (gConsS 1 (gCons (mC (.int 3)) gNil))))) mNil)) [8] (bName 8) mYes (mCallG F__law_some (gConsS 0 (gConsS 1 (gCons (mVar 6) gNil)))))) mNil)))))
    mSkip)
    (mRet (mTup (mCons (mVar 5) (mCons (mVar 7) (mCons (mCallG (F__law_expr (n + 1)) (gConsS 0 (gConsS 1 (gCons (mVar 6) (gCons (mVar 3) (gCons (mOp dSub (mVar 4) (mC (.int 1))) gNil)))))) mNil))))))) (XE g.c .bool (f + 1) (.sh (.str w.s)) (.sh (.str ki.s)) (.sh a.d) .un) g4 = r → m__law_expr (F__law_expr (n + 1)) E0 g = r := fun h => by
          refine seq_nx s0 (seq_nx (if_no (opT_e rfl rfl rfl)) (seq_nx (set_e e2) (seq_nx (set_e e3) (seq_nx s2 (seq_nx (set_e (self_e e4 rfl)) h)))))
        have th := opT_e (ma := mVar 5) (mb := mL (mLst (mCons (mC (.str "not")) (mCons (mC (.str "null")) mNil)))) (env := XE g.c .bool (f + 1) (.sh (.str w.s)) (.sh (.str ki.s)) (.sh a.d) .un) (g := g4) rfl (L_e (lst_e (cons_e rfl (cons_e rfl nil_e)))) (in_one w)
        have ta := opT_e (ma := mVar 5) (mb := mC (.str "among")) (env := XE g.c .bool (f + 1) (.sh (.str w.s)) (.sh (.str ki.s)) (.sh a.d) .un) (g := g4) rfl rfl (is_am w)
        have bin : ∀ w2 : W2, w.s = w2.s → w.one = false → w.am = false → (∀ b, WT ki f b → WT .bool (f + 1) (.bin w2 a b)) → ∃ e g1, F__law_expr (n + 1 + 1) (XA g.c .bool (f + 1)) g = some (Ex.d e, g1) ∧ (WT .bool (f + 1) e ∧ e.h ≤ f + 1) ∧ g1.c = g.c := fun w2 h1 h2 h3 h4 => by
          obtain ⟨b, g5, e5, hb, hc5⟩ := ih f ki g4 hf
          rw [hc4'] at e5
          rw [h2] at th
          rw [h3] at ta
          have ed : (Ex.bin w2 a b).d = PyData.tuple [.str w.s, a.d, b.d] := by rw [h1]; rfl
          refine ⟨.bin w2 a b, g5, ?_, ⟨h4 b hb.1, by show max a.h b.h + 1 ≤ f + 1; have := ha.2; have := hb.2; omega⟩, hc5.trans hc4'⟩
          rw [ed]
          exact runG_re (as := XA g.c .bool (f + 1)) (m := m__law_expr (F__law_expr (n + 1))) (pre (seq_nx (if_no th) (seq_nx (if_no ta) (ret_e (tup_e (cons_e rfl (cons_e rfl (cons_e (self_e e5 rfl) nil_e))))))))
        cases w with
        | same => exact bin .same rfl rfl rfl fun b hb => .cmp rfl ha.1 hb
        | less => exact bin .less rfl rfl rfl fun b hb => .cmp rfl ha.1 hb
        | and => exact bin .and rfl rfl rfl fun b hb => .lg rfl ha.1.up hb.up
        | or => exact bin .or rfl rfl rfl fun b hb => .lg rfl ha.1.up hb.up
        | not => exact ⟨.nt a, g4, runG_re (as := XA g.c .bool (f + 1)) (m := m__law_expr (F__law_expr (n + 1))) (pre (seq_re (if_t th (ret_e (tup_e (cons_e rfl (cons_e rfl nil_e))))))), ⟨.nt ha.1.up, by show a.h + 1 ≤ f + 1; have := ha.2; omega⟩, hc4'⟩
        | null => exact ⟨.nl a, g4, runG_re (as := XA g.c .bool (f + 1)) (m := m__law_expr (F__law_expr (n + 1))) (pre (seq_re (if_t th (ret_e (tup_e (cons_e rfl (cons_e rfl nil_e))))))), ⟨.nl ha.1, by show a.h + 1 ≤ f + 1; have := ha.2; omega⟩, hc4'⟩
        | among =>
          let E5 := XE g.c .bool (f + 1) (.sh (.str Wd7.among.s)) (.sh (.str ki.s)) (.sh a.d) .un
          obtain ⟨q, g5, e5, q0, q1, hc5⟩ := drawn (env := E5) (g := g4) (i := 0) (k := 1) (me := mC (.int 3)) (m := 3) rfl (by rw [hc4']; rfl) rfl (by decide)
          have hc5' : g5.c = g.c := hc5.trans hc4'
          have hcmp : ∀ (ds : List D) (g : Dc), (∀ d ∈ ds, ∃ z : Int, d = .int z) → g.c = g5.c → ∃ xs g2, compL (bName 8) mYes (mCallG F__law_some (gConsS 0 (gConsS 1 (gCons (mVar 6) gNil)))) (Pd.Env.wipe E5 [8]) ds g = some (xs, g2) ∧ xs.length = ds.length ∧ (∀ x ∈ xs, Vd ki x) ∧ g2.c = g5.c := by
            intro ds
            induction ds with
            | nil => exact fun g _ hg => ⟨[], g, rfl, rfl, (fun _ h => nomatch h), hg⟩
            | cons d ds ih2 =>
              intro g7 hd hg
              obtain ⟨x, g6, e6, hx, hc6⟩ := somed (env := (Pd.Env.wipe E5 [8]).set 8 (.sh d)) (g := g7) (i := 0) (k := 1) (me := mVar 6) (kd := ki) rfl (by rw [hg, hc5']; rfl) rfl
              obtain ⟨xs, g8, e8, hl, hxs, hc8⟩ := ih2 g6 (fun d' h => hd d' (List.mem_cons_of_mem _ h)) (hc6.trans hg)
              exact ⟨x :: xs, g8, compL_cons rfl e6 e8, by rw [List.length_cons, List.length_cons, hl], fun y hy => by
                rcases List.mem_cons.mp hy with e | e
                · rw [e]; exact hx
                · exact hxs y e, hc8⟩
          obtain ⟨xs, g6, e6, hl, hxs, hc6⟩ := hcmp (rng 0 (1 + q).toNat) g5 (fun d hd => by obtain ⟨k, _, rfl⟩ := rng_mem hd; exact ⟨_, rfl⟩) rfl
          rw [rng_len] at hl
          refine ⟨.am a xs, g6, runG_re (as := XA g.c .bool (f + 1)) (m := m__law_expr (F__law_expr (n + 1))) (pre (seq_nx (if_no th) (seq_re (if_t ta (ret_e (tup_e (cons_e rfl (cons_e rfl (cons_e (L_e (comp_e (rng1_e (cons_e (op_e rfl e5 rfl) nil_e) (by omega)) rfl e6)) nil_e))))))))), ⟨.am ha.1 hxs (by omega) (by omega), by show a.h + 1 ≤ f + 1; have := ha.2; omega⟩, hc6.trans hc5'⟩
end K32

namespace K32
open PySem Pd
/-! #### values -/
def VB (B : Int) : Kd → D → Prop
  | .int, d => d = .none ∨ ∃ i : Int, d = .int i ∧ -B ≤ i ∧ i ≤ B
  | .bool, d => d = .none ∨ ∃ b, d = .bool b
  | .text, d => d = .none ∨ ∃ s ∈ (["", "a", "b", "ab", "b a", "c"] : List Str), d = .str s
def bnd : Nat → Int
  | 0 => 5
  | n + 1 => bnd n * bnd n
theorem bnd_ge : ∀ n, 5 ≤ bnd n
  | 0 => by decide
  | n + 1 => by
    have h := bnd_ge n
    show 5 ≤ bnd n * bnd n
    have : bnd n * 5 ≤ bnd n * bnd n := Int.mul_le_mul_of_nonneg_left h (by omega)
    omega
theorem bnd_le : ∀ {n}, n ≤ 4 → bnd n ≤ 152587890625 := by
  intro n h
  have : n = 0 ∨ n = 1 ∨ n = 2 ∨ n = 3 ∨ n = 4 := by omega
  rcases this with rfl | rfl | rfl | rfl | rfl <;> decide
theorem VB.of {k : Kd} {d : D} (h : Vd k d) (n : Nat) : VB (bnd n) k d := by
  have hb := bnd_ge n
  cases k with
  | int =>
    rcases h with h | ⟨i, h, h1, h2⟩
    · exact .inl h
    · exact .inr ⟨i, h, by omega, by omega⟩
  | bool => exact h
  | text => exact h
def turnD : D → D
  | .bool b => .bool !b
  | _ => .none
def bothD : D → D → D
  | .bool false, _ => .bool false
  | _, .bool false => .bool false
  | .bool true, .bool true => .bool true
  | _, _ => .none
def eithD : D → D → D
  | .bool true, _ => .bool true
  | _, .bool true => .bool true
  | .bool false, .bool false => .bool false
  | _, _ => .none
def calcD : W2 → D → D → D
  | .plus, x, y => (dAdd x y).getD .none
  | .minus, x, y => (dSub x y).getD .none
  | .times, x, y => (dMul x y).getD .none
  | .same, x, y => (dEq x y).getD .none
  | _, x, y => (dLt x y).getD .none
def reckD (w : W2) (x y : D) : D := if isNone x = true ∨ isNone y = true then .none else calcD w x y
def binD : W2 → D → D → D
  | .and, x, y => bothD x y
  | .or, x, y => eithD x y
  | w, x, y => reckD w x y
def amD (x : D) (vs : List D) : D := if isNone x = true then .none else if (vs.filter fun v => !isNone v).any (fun v => PyData.eqv v x) = true then .bool true else if vs.any isNone = true then .none else .bool false
def Ex.v (R : Nat → Nat → D) : Ex → D
  | .val d => d
  | .cell i j => R i j
  | .nt a => turnD (a.v R)
  | .nl a => .bool (isNone (a.v R))
  | .am a vs => amD (a.v R) vs
  | .bin w a b => binD w (a.v R) (b.v R)
/-! #### the defs of values -/
theorem is_e {G : Type} {env : Pd.Env} {g g1 : G} {ma : ME G} {x : D} (h : ma env g = some (x, g1)) : mOpT dIs ma (mC .none) env g = some (isNone x, g1) := opT_e h rfl rfl
theorem isNot_e {G : Type} {env : Pd.Env} {g g1 : G} {ma : ME G} {x : D} (h : ma env g = some (x, g1)) : mOpT dIsNot ma (mC .none) env g = some (!isNone x, g1) := opT_e h rfl rfl
abbrev B3 (x : D) : Prop := x = .none ∨ ∃ b, x = .bool b
theorem turned_e {x : D} (h : B3 x) : F_turned [x] = some (turnD x) := by
  rcases h with rfl | ⟨b, rfl⟩
  · rfl
  · cases b <;> rfl
theorem both_e {x y : D} (hx : B3 x) (hy : B3 y) : F_both [x, y] = some (bothD x y) := by
  rcases hx with rfl | ⟨b, rfl⟩ <;> rcases hy with rfl | ⟨c, rfl⟩
  · rfl
  · cases c <;> rfl
  · cases b <;> rfl
  · cases b <;> cases c <;> rfl
theorem either_e {x y : D} (hx : B3 x) (hy : B3 y) : F_either [x, y] = some (eithD x y) := by
  rcases hx with rfl | ⟨b, rfl⟩ <;> rcases hy with rfl | ⟨c, rfl⟩
  · rfl
  · cases c <;> rfl
  · cases b <;> rfl
  · cases b <;> cases c <;> rfl
/-- the sign w is defined at x, y -/
def Calc (w : W2) (x y : D) : Prop := match w with
  | .plus => dAdd x y = some (calcD .plus x y)
  | .minus => dSub x y = some (calcD .minus x y)
  | .times => dMul x y = some (calcD .times x y)
  | .same => ∃ b, dEq x y = some (.bool b) ∧ ∃ c, dLt x y = some (.bool c)
  | .less => ∃ b, dEq x y = some (.bool b) ∧ ∃ c, dLt x y = some (.bool c)
  | _ => False
theorem reckoned_e {w : W2} {x y : D} (h : isNone x = false → isNone y = false → Calc w x y) (hw : w.logic = false) : F_reckoned [.str w.s, x, y] = some (reckD w x y) := by
  have pre : ∀ d : D, Re d m_reckoned (startE 3 ([.str w.s, x, y].map .sh)) () → F_reckoned [.str w.s, x, y] = some d := fun d h => runP_Re (N := 3) (n := 3) (m := m_reckoned) (ds := [.str w.s, x, y]) h
  unfold reckD
  cases hx : isNone x with
  | true =>
    rw [if_pos (.inl rfl)]
    refine pre _ (re_in (re_ift (or_t ((is_e rfl).trans (by rw [hx]))) (re_ret rfl)))
  | false =>
    cases hy : isNone y with
    | true =>
      rw [if_pos (.inr rfl)]
      refine pre _ (re_in (re_ift (or_f ((is_e rfl).trans (by rw [hx])) ((is_e rfl).trans (by rw [hy]))) (re_ret rfl)))
    | false =>
      rw [if_neg (by simp)]
      have h := h hx hy
      have s0 := if_no (m1 := mRet (G := Unit) (mC .none)) (env := startE 3 ([.str w.s, x, y].map .sh)) (g := ()) (or_f ((is_e (ma := mVar 1) rfl).trans (by rw [hx])) ((is_e (ma := mVar 2) rfl).trans (by rw [hy])))
      cases w with
      | plus => exact pre _ (re_nx s0 (re_in (re_ift (opT_e rfl rfl rfl) (re_ret (op_e rfl rfl h)))))
      | minus => exact pre _ (re_nx s0 (re_nx (if_no (opT_e rfl rfl rfl)) (re_in (re_ift (opT_e rfl rfl rfl) (re_ret (op_e rfl rfl h))))))
      | times => exact pre _ (re_nx s0 (re_nx (if_no (opT_e rfl rfl rfl)) (re_nx (if_no (opT_e rfl rfl rfl)) (re_in (re_ift (opT_e rfl rfl rfl) (re_ret (op_e rfl rfl h)))))))
      | same =>
        obtain ⟨b, h1, _⟩ := h
        refine pre _ (re_nx s0 (re_nx (if_no (opT_e rfl rfl rfl)) (re_nx (if_no (opT_e rfl rfl rfl)) (re_nx (if_no (opT_e rfl rfl rfl)) (re_ret (mif_t (opT_e rfl rfl rfl) (op_e rfl rfl ?_)))))))
        show _ = some ((dEq x y).getD .none)
        rw [h1]
        rfl
      | less =>
        obtain ⟨b, h1, c, h2⟩ := h
        refine pre _ (re_nx s0 (re_nx (if_no (opT_e rfl rfl rfl)) (re_nx (if_no (opT_e rfl rfl rfl)) (re_nx (if_no (opT_e rfl rfl rfl)) (re_ret (mif_f (opT_e rfl rfl rfl) (op_e rfl rfl ?_)))))))
        show _ = some ((dLt x y).getD .none)
        rw [h2]
        rfl
      | and => cases hw
      | or => cases hw
theorem eqv_none : ∀ v : D, PyData.eqv v .none = isNone v := by intro v; cases v <;> simp [PyData.eqv, isNone]
theorem among_e {x : D} {vs : List D} (fx : flatD x = true) (fv : ∀ v ∈ vs, flatD v = true) : F_among [x, .list vs] = some (amD x vs) := by
  have pre : ∀ d : D, Re d m_among (startE 3 ([x, .list vs].map .sh)) () → F_among [x, .list vs] = some d := fun d h => runP_Re (N := 3) (n := 2) (m := m_among) (ds := [x, .list vs]) h
  unfold amD
  cases hx : isNone x with
  | true =>
    rw [if_pos rfl]
    exact pre _ (re_in (re_ift ((is_e rfl).trans (by rw [hx])) (re_ret rfl)))
  | false =>
    rw [if_neg (by simp)]
    have s0 := if_no (m1 := mRet (G := Unit) (mC .none)) (env := startE 3 ([x, .list vs].map .sh)) (g := ()) ((is_e (ma := mVar 0) rfl).trans (by rw [hx]))
    have hc : compL (bName 2) (mOpT dIsNot (mVar 2) (mC .none)) (mVar 2) (Pd.Env.wipe (startE 3 ([x, .list vs].map .sh)) [2]) (vs.map id) () = some ((vs.filter fun v => !isNone v).map id, ()) :=
      compL_filter id id (fun v => !isNone v) fun v _ => ⟨_, rfl, isNot_e rfl, rfl⟩
    rw [List.map_id, List.map_id] at hc
    have hin : dInF false x (.list (vs.filter fun v => !isNone v)) = some (.bool ((vs.filter fun v => !isNone v).any fun v => PyData.eqv v x)) := by
      show (if _ then _ else none) = _
      rw [if_pos ⟨fx, List.all_eq_true.mpr fun v hv => fv v (List.mem_filter.mp hv).1⟩]
      rfl
    have hin2 : dInF false .none (.list vs) = some (.bool (vs.any isNone)) := by
      show (if _ then _ else none) = _
      rw [if_pos ⟨rfl, List.all_eq_true.mpr fv⟩]
      have : (fun e => PyData.eqv e .none) = isNone := funext eqv_none
      rw [this]
      rfl
    have t1 := opT_e (ma := mVar 0) (env := startE 3 ([x, .list vs].map .sh)) (g := ()) rfl (L_e (comp_e (itL_e (ma := mVar 1) rfl) rfl hc)) hin
    cases h1 : (vs.filter fun v => !isNone v).any fun v => PyData.eqv v x with
    | true =>
      rw [if_pos rfl]
      rw [h1] at t1
      exact pre _ (re_nx s0 (re_in (re_ift t1 (re_ret rfl))))
    | false =>
      rw [if_neg (by simp)]
      rw [h1] at t1
      cases h2 : vs.any isNone with
      | true =>
        rw [if_pos rfl]
        rw [h2] at hin2
        exact pre _ (re_nx s0 (re_nx (if_no t1) (re_ret (mif_t (opT_e rfl rfl hin2) rfl))))
      | false =>
        rw [if_neg (by simp)]
        rw [h2] at hin2
        exact pre _ (re_nx s0 (re_nx (if_no t1) (re_ret (mif_f (opT_e rfl rfl hin2) rfl))))
end K32

namespace K32
open PySem Pd
/-! #### values stay small -/
theorem VB.flat {B : Int} {k : Kd} {d : D} (h : VB B k d) : flatD d = true := by
  cases k with
  | int => rcases h with rfl | ⟨i, rfl, _⟩ <;> rfl
  | bool => rcases h with rfl | ⟨i, rfl⟩ <;> rfl
  | text => rcases h with rfl | ⟨i, _, rfl⟩ <;> rfl
theorem Vd.flat {k : Kd} {d : D} (h : Vd k d) : flatD d = true := (VB.of h 0).flat
theorem VB.calc {n : Nat} {x y : D} (hn : n ≤ 4) {w : W2} (hw : w.arith = true) (hx : VB (bnd n) .int x) (hy : VB (bnd n) .int y) (h1 : isNone x = false) (h2 : isNone y = false) : Calc w x y ∧ VB (bnd (n + 1)) .int (calcD w x y) := by
  rcases hx with rfl | ⟨i, rfl, i1, i2⟩
  · cases h1
  rcases hy with rfl | ⟨j, rfl, j1, j2⟩
  · cases h2
  have hb := bnd_ge n
  have hl := bnd_le hn
  have hq : 5 * bnd n ≤ bnd n * bnd n := Int.mul_le_mul_of_nonneg_right hb (by omega)
  cases w with
  | plus => exact ⟨rfl, .inr ⟨i + j, rfl, by show -(bnd n * bnd n) ≤ _; omega, by show _ ≤ bnd n * bnd n; omega⟩⟩
  | minus => exact ⟨rfl, .inr ⟨i - j, rfl, by show -(bnd n * bnd n) ≤ _; omega, by show _ ≤ bnd n * bnd n; omega⟩⟩
  | times =>
    have e : dMul (.int i) (.int j) = some (.int (i * j)) := mul_l (by omega)
    have ec : calcD .times (.int i) (.int j) = .int (i * j) := by show (dMul _ _).getD .none = _; rw [e]; rfl
    refine ⟨by show dMul _ _ = some (calcD _ _ _); rw [ec]; exact e, .inr ⟨i * j, ec, ?_, ?_⟩⟩
    · show -(bnd n * bnd n) ≤ i * j
      have h := Int.natAbs_mul i j
      have h3 : (i * j).natAbs ≤ (bnd n).natAbs * (bnd n).natAbs := by rw [h]; exact Nat.mul_le_mul (by omega) (by omega)
      rw [← Int.natAbs_mul] at h3
      omega
    · show i * j ≤ bnd n * bnd n
      have h := Int.natAbs_mul i j
      have h3 : (i * j).natAbs ≤ (bnd n).natAbs * (bnd n).natAbs := by rw [h]; exact Nat.mul_le_mul (by omega) (by omega)
      rw [← Int.natAbs_mul] at h3
      omega
  | same => cases hw
  | less => cases hw
  | and => cases hw
  | or => cases hw
theorem small_depth {d : D} (h : scal0 d = true) : d.depth ≤ 64 := by cases d <;> first | exact Nat.le_of_ble_eq_true rfl | cases h
theorem VB.scal {B : Int} {k : Kd} {d : D} (h : VB B k d) : scal0 d = true := by
  cases k with
  | int => rcases h with rfl | ⟨i, rfl, _⟩ <;> rfl
  | bool => rcases h with rfl | ⟨i, rfl⟩ <;> rfl
  | text => rcases h with rfl | ⟨i, _, rfl⟩ <;> rfl
theorem VB.alike {B : Int} {k : Kd} {x y : D} (hx : VB B k x) (hy : VB B k y) (h1 : isNone x = false) (h2 : isNone y = false) : PySem.W.alike x y = true := by
  cases k with
  | int => rcases hx with rfl | ⟨i, rfl, _⟩ <;> rcases hy with rfl | ⟨j, rfl, _⟩ <;> first | cases h1; done | cases h2; done | simp [PySem.W.alike]
  | bool => rcases hx with rfl | ⟨i, rfl⟩ <;> rcases hy with rfl | ⟨j, rfl⟩ <;> first | cases h1; done | cases h2; done | simp [PySem.W.alike]
  | text => rcases hx with rfl | ⟨i, _, rfl⟩ <;> rcases hy with rfl | ⟨j, _, rfl⟩ <;> first | cases h1; done | cases h2; done | simp [PySem.W.alike]
theorem VB.cmp {B : Int} {k : Kd} {x y : D} {w : W2} (hw : w.cmp = true) (hx : VB B k x) (hy : VB B k y) (h1 : isNone x = false) (h2 : isNone y = false) : Calc w x y ∧ B3 (calcD w x y) := by
  have e1 := eq_flat (small_depth hx.scal) (small_depth hy.scal)
  have e2 : dLt x y = some (.bool (PySem.W.dataLt x y)) := if_pos ⟨small_depth hx.scal, small_depth hy.scal, hx.alike hy h1 h2, h1⟩
  cases w with
  | same => exact ⟨⟨_, e1, _, e2⟩, .inr ⟨_, by show (dEq _ _).getD .none = _; rw [e1]; rfl⟩⟩
  | less => exact ⟨⟨_, e1, _, e2⟩, .inr ⟨_, by show (dLt _ _).getD .none = _; rw [e2]; rfl⟩⟩
  | _ => cases hw
theorem turn3 (x : D) : B3 (turnD x) := by cases x <;> first | exact .inl rfl | exact .inr ⟨_, rfl⟩
theorem both3 {x y : D} (hx : B3 x) (hy : B3 y) : B3 (bothD x y) := by
  rcases hx with rfl | ⟨b, rfl⟩ <;> rcases hy with rfl | ⟨c, rfl⟩
  · exact .inl rfl
  · cases c <;> first | exact .inl rfl | exact .inr ⟨_, rfl⟩
  · cases b <;> first | exact .inl rfl | exact .inr ⟨_, rfl⟩
  · cases b <;> cases c <;> first | exact .inl rfl | exact .inr ⟨_, rfl⟩
theorem eith3 {x y : D} (hx : B3 x) (hy : B3 y) : B3 (eithD x y) := by
  rcases hx with rfl | ⟨b, rfl⟩ <;> rcases hy with rfl | ⟨c, rfl⟩
  · exact .inl rfl
  · cases c <;> first | exact .inl rfl | exact .inr ⟨_, rfl⟩
  · cases b <;> first | exact .inl rfl | exact .inr ⟨_, rfl⟩
  · cases b <;> cases c <;> first | exact .inl rfl | exact .inr ⟨_, rfl⟩
theorem am3 (x : D) (vs : List D) : B3 (amD x vs) := by
  unfold amD
  split
  · exact .inl rfl
  · split
    · exact .inr ⟨_, rfl⟩
    · split
      · exact .inl rfl
      · exact .inr ⟨_, rfl⟩
/-! #### the law's own value -/
abbrev LE (t r f w o v x s p : SV) : Pd.Env := [t, r, f, w, o, v, x, s, p]
abbrev tail2 : MS Unit := (mSeq (mIfS (mOpT (dInF false) (mVar 3) (mL (mLst (mCons (mC (.str "and")) (mCons (mC (.str "or")) mNil)))))
    (mSeq (mSet 7 (mOp dEq (mVar 3) (mC (.str "or"))))
    (mSeq (mIfS (mOpT (dInF false) (mVar 7) (mL (mComp (mItL (mL (mLst (mCons (mVar 4) (mCons (mVar 6) mNil))))) [8] (bName 8) (mOpT dIsNot (mVar 8) (mC .none)) (mVar 8))))
    (mRet (mVar 7))
    mSkip)
    (mRet (mOp dIx (mL (mLst (mCons (mBNot (mVar 7)) (mCons (mC .none) mNil)))) (mCall dInt (mCons (mBOr (mOp dIs (mVar 4) (mC .none)) (mOp dIs (mVar 6) (mC .none))) mNil))))))
    mSkip)
    (mSeq (mIfS (mOr (mOpT dIs (mVar 4) (mC .none)) (mOpT dIs (mVar 6) (mC .none)))
    (mRet (mC .none))
    mSkip)
    (mSeq (mIfS (mOpT dEq (mVar 3) (mC (.str "plus")))
    (mRet (mOp dAdd (mVar 4) (mVar 6)))
    mSkip)
    (mSeq (mIfS (mOpT dEq (mVar 3) (mC (.str "minus")))
    (mRet (mOp dSub (mVar 4) (mVar 6)))
    mSkip)
    (mSeq (mIfS (mOpT dEq (mVar 3) (mC (.str "times")))
    (mRet (mOp dMul (mVar 4) (mVar 6)))
    mSkip)
    (mRet (mOp dIx (mL (mLst (mCons (mOp dLt (mVar 4) (mVar 6)) (mCons (mOp dEq (mVar 4) (mVar 6)) mNil)))) (mCall dInt (mCons (mOp dEq (mVar 3) (mC (.str "same"))) mNil)))))))))
section
variable {t r f : D}
theorem tail_lg {w : W2} (hw : w.logic = true) {x y : D} (hx : B3 x) (hy : B3 y) : Re (binD w x y) tail2 (LE (.sh t) (.sh r) (.sh f) (.sh (.str w.s)) (.sh x) .un (.sh y) .un .un) () := by
  cases w with
  | and =>
    rcases hx with rfl | ⟨b, rfl⟩ <;> rcases hy with rfl | ⟨c, rfl⟩
    · exact ⟨_, _, rfl⟩
    · cases c <;> exact ⟨_, _, rfl⟩
    · cases b <;> exact ⟨_, _, rfl⟩
    · cases b <;> cases c <;> exact ⟨_, _, rfl⟩
  | or =>
    rcases hx with rfl | ⟨b, rfl⟩ <;> rcases hy with rfl | ⟨c, rfl⟩
    · exact ⟨_, _, rfl⟩
    · cases c <;> exact ⟨_, _, rfl⟩
    · cases b <;> exact ⟨_, _, rfl⟩
    · cases b <;> cases c <;> exact ⟨_, _, rfl⟩
  | _ => cases hw
theorem tail_ck {w : W2} (hw : w.logic = false) {x y : D} (h : isNone x = false → isNone y = false → Calc w x y) : Re (reckD w x y) tail2 (LE (.sh t) (.sh r) (.sh f) (.sh (.str w.s)) (.sh x) .un (.sh y) .un .un) () := by
  have hin : mOpT (dInF false) (mVar 3) (mL (mLst (mCons (mC (.str "and")) (mCons (mC (.str "or")) mNil)))) (LE (.sh t) (.sh r) (.sh f) (.sh (.str w.s)) (.sh x) .un (.sh y) .un .un) () = some (false, ()) :=
    opT_e rfl (L_e (lst_e (cons_e rfl (cons_e rfl nil_e)))) (by cases w <;> first | rfl | cases hw)
  refine re_nx (if_no hin) ?_
  unfold reckD
  cases hx : isNone x with
  | true =>
    rw [if_pos (.inl rfl)]
    exact re_in (re_ift (or_t ((is_e rfl).trans (by rw [hx]))) (re_ret rfl))
  | false =>
    cases hy : isNone y with
    | true =>
      rw [if_pos (.inr rfl)]
      exact re_in (re_ift (or_f ((is_e rfl).trans (by rw [hx])) ((is_e rfl).trans (by rw [hy]))) (re_ret rfl))
    | false =>
      rw [if_neg (by simp)]
      have h := h hx hy
      refine re_nx (if_no (or_f ((is_e (ma := mVar 4) rfl).trans (by rw [hx])) ((is_e (ma := mVar 6) rfl).trans (by rw [hy])))) ?_
      cases w with
      | plus => exact re_in (re_ift (opT_e rfl rfl rfl) (re_ret (op_e rfl rfl h)))
      | minus => exact re_nx (if_no (opT_e rfl rfl rfl)) (re_in (re_ift (opT_e rfl rfl rfl) (re_ret (op_e rfl rfl h))))
      | times => exact re_nx (if_no (opT_e rfl rfl rfl)) (re_nx (if_no (opT_e rfl rfl rfl)) (re_in (re_ift (opT_e rfl rfl rfl) (re_ret (op_e rfl rfl h)))))
      | same =>
        obtain ⟨b, h1, c, h2⟩ := h
        have e : calcD .same x y = .bool b := by show (dEq _ _).getD .none = _; rw [h1]; rfl
        rw [e]
        exact re_nx (if_no (opT_e rfl rfl rfl)) (re_nx (if_no (opT_e rfl rfl rfl)) (re_nx (if_no (opT_e rfl rfl rfl)) (re_ret (op_e (L_e (lst_e (cons_e (op_e rfl rfl h2) (cons_e (op_e rfl rfl h1) nil_e)))) (call_e (cons_e (op_e rfl rfl rfl) nil_e) rfl) rfl))))
      | less =>
        obtain ⟨b, h1, c, h2⟩ := h
        have e : calcD .less x y = .bool c := by show (dLt _ _).getD .none = _; rw [h2]; rfl
        rw [e]
        exact re_nx (if_no (opT_e rfl rfl rfl)) (re_nx (if_no (opT_e rfl rfl rfl)) (re_nx (if_no (opT_e rfl rfl rfl)) (re_ret (op_e (L_e (lst_e (cons_e (op_e rfl rfl h2) (cons_e (op_e rfl rfl h1) nil_e)))) (call_e (cons_e (op_e rfl rfl rfl) nil_e) rfl) rfl))))
      | and => cases hw
      | or => cases hw
theorem head_first {α : Type} (p q : α → Bool) (vs : List α) (hl : vs.length ≤ 1000) : dIx (.list (((vs.filter p).map fun _ => PyData.bool true) ++ ((vs.filter q).map fun _ => PyData.none) ++ [.bool false])) (.int 0) = some (if vs.any p = true then .bool true else if vs.any q = true then .none else .bool false) := by
  have key : ∀ p : α → Bool, vs.any p = true → ∃ a l, vs.filter p = a :: l := fun p h => by
    cases e : vs.filter p with
    | nil =>
      obtain ⟨x, h1, h2⟩ := List.any_eq_true.mp h
      have : x ∈ vs.filter p := List.mem_filter.mpr ⟨h1, h2⟩
      rw [e] at this
      cases this
    | cons a l => exact ⟨a, l, rfl⟩
  have none : ∀ p : α → Bool, vs.any p = false → vs.filter p = [] := fun p h => by
    rw [List.filter_eq_nil_iff]
    intro a ha z
    rw [List.any_eq_false] at h
    exact h a ha z
  cases h1 : vs.any p with
  | true =>
    obtain ⟨a, l, e⟩ := key p h1
    rw [e, if_pos rfl]
    exact ix_nat (j := 0) rfl
  | false =>
    rw [none p h1, if_neg (by simp)]
    cases h2 : vs.any q with
    | true =>
      obtain ⟨a, l, e⟩ := key q h2
      rw [e, if_pos rfl]
      exact ix_nat (j := 0) rfl
    | false =>
      rw [none q h2, if_neg (by simp)]
      rfl
theorem tail_am {x : D} {vs : List D} (fx : scal0 x = true) (fv : ∀ v ∈ vs, scal0 v = true) (hl : vs.length ≤ 3) (t : D) (ht : dIx t (.int 2) = some (.list vs)) : Re (amD x vs) (mSeq (mIfS (mOpT dIs (mVar 4) (mC .none))
    (mRet (mC .none))
    mSkip)
    (mRet (mOp dIx (mL (mCat (mL (mCat (mL (mComp (mItL (mOp dIx (mVar 0) (mC (.int 2)))) [5] (bName 5) (mAnd (mOpT dIsNot (mVar 5) (mC .none)) (mOpT dEq (mVar 5) (mVar 4))) (mC (.bool true)))) (mL (mComp (mItL (mOp dIx (mVar 0) (mC (.int 2)))) [5] (bName 5) (mOpT dIs (mVar 5) (mC .none)) (mC .none))))) (mL (mLst (mCons (mC (.bool false)) mNil))))) (mC (.int 0))))) (LE (.sh t) (.sh r) (.sh f) (.sh (.str "among")) (.sh x) .un .un .un .un) () := by
  unfold amD
  cases hx : isNone x with
  | true =>
    rw [if_pos rfl]
    exact re_in (re_ift ((is_e rfl).trans (by rw [hx])) (re_ret rfl))
  | false =>
    rw [if_neg (by simp)]
    refine re_nx (if_no ((is_e (ma := mVar 4) rfl).trans (by rw [hx]))) ?_
    have c1 : compL (bName 5) (mAnd (mOpT dIsNot (mVar 5) (mC .none)) (mOpT dEq (mVar 5) (mVar 4))) (mC (.bool true)) (Pd.Env.wipe (LE (.sh t) (.sh r) (.sh f) (.sh (.str "among")) (.sh x) .un .un .un .un) [5]) (vs.map id) () = some ((vs.filter fun v => !isNone v && PyData.eqv v x).map fun _ => .bool true, ()) :=
      compL_filter id (fun _ => .bool true) (fun v => !isNone v && PyData.eqv v x) fun v hv => ⟨_, rfl, by
        have t1 : mOpT dIsNot (mVar 5) (mC .none) ((Pd.Env.wipe (LE (.sh t) (.sh r) (.sh f) (.sh (.str "among")) (.sh x) .un .un .un .un) [5]).set 5 (.sh v)) () = some (!isNone v, ()) := isNot_e rfl
        show mAnd _ _ ((Pd.Env.wipe (LE (.sh t) (.sh r) (.sh f) (.sh (.str "among")) (.sh x) .un .un .un .un) [5]).set 5 (.sh v)) () = _
        cases hv1 : isNone v with
        | true => rw [hv1] at t1; exact and_f t1
        | false =>
          rw [hv1] at t1
          exact and_t t1 (opT_e rfl rfl (eq_flat (small_depth (fv v hv)) (small_depth fx))), rfl⟩
    have c2 : compL (bName 5) (mOpT dIs (mVar 5) (mC .none)) (mC .none) (Pd.Env.wipe (LE (.sh t) (.sh r) (.sh f) (.sh (.str "among")) (.sh x) .un .un .un .un) [5]) (vs.map id) () = some ((vs.filter isNone).map fun _ => .none, ()) :=
      compL_filter id (fun _ => .none) isNone fun v _ => ⟨_, rfl, is_e rfl, rfl⟩
    rw [List.map_id] at c1 c2
    have ln : ∀ {p : D → Bool} {d : D}, ((vs.filter p).map fun _ => d).length ≤ 3 := fun {p d} => by
      rw [List.length_map]
      exact Nat.le_trans (List.length_filter_le _ _) hl
    have z1000 : 1000 ≤ sizeLine := by decide
    have hhd := head_first (fun v => !isNone v && PyData.eqv v x) isNone vs (by omega)
    have ea : ((vs.filter fun v => !isNone v).any fun v => PyData.eqv v x) = vs.any fun v => !isNone v && PyData.eqv v x := List.any_filter ..
    rw [ea]
    refine re_ret (op_e (L_e (cat_e (L_e (cat_e (L_e (comp_e (itL_e (op_e rfl rfl ht)) rfl c1)) (L_e (comp_e (itL_e (op_e rfl rfl ht)) rfl c2)) ?_)) (L_e (lst_e (cons_e rfl nil_e))) ?_)) rfl hhd)
    · have h1 := ln (p := fun v => !isNone v && PyData.eqv v x) (d := .bool true)
      have h2 := ln (p := isNone) (d := .none)
      omega
    · have h1 := ln (p := fun v => !isNone v && PyData.eqv v x) (d := .bool true)
      have h2 := ln (p := isNone) (d := .none)
      rw [List.length_append]
      show _ + 1 ≤ _
      omega
end
end K32

namespace K32
open PySem Pd
structure RowsOk (rD : D) (R : Nat → Nat → D) : Prop where
  cell : ∀ (i j : Nat) (k : Kd), (i, j, k) ∈ cellsL → ∃ t, dIx rD (.int (i : Int)) = some t ∧ dIx t (.int (j : Int)) = some (R i j)
  vd : ∀ (i j : Nat) (k : Kd), (i, j, k) ∈ cellsL → Vd k (R i j)
theorem bin_reck {w : W2} (h : w.logic = false) (x y : D) : binD w x y = reckD w x y := by cases w <;> first | rfl | cases h
theorem reck_none {w : W2} {x y : D} (h : isNone x = true ∨ isNone y = true) : reckD w x y = .none := if_pos h
theorem reck_some {w : W2} {x y : D} (h1 : isNone x = false) (h2 : isNone y = false) : reckD w x y = calcD w x y := if_neg (by rw [h1, h2]; simp)
theorem arith_lg {w : W2} (h : w.arith = true) : w.logic = false := by cases w <;> first | rfl | cases h
theorem cmp_lg {w : W2} (h : w.cmp = true) : w.logic = false := by cases w <;> first | rfl | cases h
section
variable {rD fD : D} {R : Nat → Nat → D}
theorem val_vb (ok : RowsOk rD R) {k : Kd} {n : Nat} {e : Ex} (h : WT k n e) : n ≤ 4 → VB (bnd n) k (e.v R) := by
  induction h with
  | val h => exact fun _ => VB.of h _
  | cell h => exact fun _ => VB.of (ok.vd _ _ _ h) _
  | @ar n w a b hw _ _ ia ib =>
    intro hn
    have ia := ia (by omega)
    have ib := ib (by omega)
    show VB _ _ (binD w _ _)
    rw [bin_reck (arith_lg hw)]
    cases h1 : isNone (a.v R) with
    | true => rw [reck_none (.inl h1)]; exact .inl rfl
    | false =>
      cases h2 : isNone (b.v R) with
      | true => rw [reck_none (.inr h2)]; exact .inl rfl
      | false => rw [reck_some h1 h2]; exact (VB.calc (by omega) hw ia ib h1 h2).2
  | @cmp k n w a b hw _ _ ia ib =>
    intro hn
    have ia := ia (by omega)
    have ib := ib (by omega)
    show B3 (binD w _ _)
    rw [bin_reck (cmp_lg hw)]
    cases h1 : isNone (a.v R) with
    | true => rw [reck_none (.inl h1)]; exact .inl rfl
    | false =>
      cases h2 : isNone (b.v R) with
      | true => rw [reck_none (.inr h2)]; exact .inl rfl
      | false => rw [reck_some h1 h2]; exact (VB.cmp hw ia ib h1 h2).2
  | @lg n w a b hw _ _ ia ib =>
    intro hn
    cases w with
    | and => exact both3 (ia (by omega)) (ib (by omega))
    | or => exact eith3 (ia (by omega)) (ib (by omega))
    | _ => cases hw
  | nt _ _ => exact fun _ => turn3 _
  | nl _ _ => exact fun _ => .inr ⟨_, rfl⟩
  | am _ _ _ _ _ => exact fun _ => am3 _ _
/-- what the sign asks, at these values -/
theorem calc_ok (ok : RowsOk rD R) {k : Kd} {n : Nat} {w : W2} {a b : Ex} (hn : n ≤ 4) (hw : w.arith = true ∧ k = .int ∨ w.cmp = true) (ha : WT k n a) (hb : WT k n b) : isNone (a.v R) = false → isNone (b.v R) = false → Calc w (a.v R) (b.v R) := fun h1 h2 => by
  rcases hw with ⟨hw, rfl⟩ | hw
  · exact (VB.calc hn hw (val_vb ok ha hn) (val_vb ok hb hn) h1 h2).1
  · exact (VB.cmp hw (val_vb ok ha hn) (val_vb ok hb hn) h1 h2).1
abbrev VE (t r f w o x : SV) : Pd.Env := [t, r, f, w, o, x]
theorem word_t {G : Type} {env : Pd.Env} {g : G} {s t : Str} {b : Bool} {i : Nat} (h : env.at i = .sh (.str s)) (e : dEq (.str s) (.str t) = some (.bool b)) : mOpT dEq (mVar i) (mC (.str t)) env g = some (b, g) := opT_e (var_e h) rfl e
theorem value_e (ok : RowsOk rD R) {k : Kd} {n : Nat} {e : Ex} (h : WT k n e) : ∀ m, e.h < m → n ≤ 4 → F_value_of m [e.d, rD, fD] = some (e.v R) := by
  have pre : ∀ {m : Nat} {e : Ex} {d : D}, Re d (m_value_of (F_value_of m)) (startE 6 ([e.d, rD, fD].map .sh)) () → F_value_of (m + 1) [e.d, rD, fD] = some d := fun {m e d} h => runP_Re (N := 6) (n := 3) (m := m_value_of (F_value_of m)) (ds := [e.d, rD, fD]) h
  have bin : ∀ {w : W2} {a b : Ex} {m : Nat}, F_value_of m [a.d, rD, fD] = some (a.v R) → F_value_of m [b.d, rD, fD] = some (b.v R) → Re (binD w (a.v R) (b.v R)) (mSeq (mIfS (mOpT dEq (mVar 3) (mC (.str "and")))
    (mRet (mCall F_both (mCons (mVar 4) (mCons (mVar 5) mNil))))
    mSkip)
    (mSeq (mIfS (mOpT dEq (mVar 3) (mC (.str "or")))
    (mRet (mCall F_either (mCons (mVar 4) (mCons (mVar 5) mNil))))
    mSkip)
    (mRet (mCall F_reckoned (mCons (mVar 3) (mCons (mVar 4) (mCons (mVar 5) mNil))))))) (VE (.sh (Ex.bin w a b).d) (.sh rD) (.sh fD) (.sh (.str w.s)) (.sh (a.v R)) (.sh (b.v R))) () → F_value_of (m + 1) [(Ex.bin w a b).d, rD, fD] = some ((Ex.bin w a b).v R) := fun {w a b m} ha hb hr => by
    have nx : ∀ {t : Str} {env : Pd.Env} {x : ME Unit}, env.at 3 = .sh (.str w.s) → dEq (.str w.s) (.str t) = some (.bool false) → mIfS (mOpT dEq (mVar 3) (mC (.str t))) (mRet x) mSkip env () = some (.nx, env, ()) := fun h e => if_no (word_t h e)
    have sa : mCall (F_value_of m) (mCons (mOp dIx (mVar 0) (mC (.int 1))) (mCons (mVar 1) (mCons (mVar 2) mNil))) (VE (.sh (Ex.bin w a b).d) (.sh rD) (.sh fD) (.sh (.str w.s)) .un .un) () = some (a.v R, ()) := call_e (xs := [a.d, rD, fD]) (cons_e (op_e rfl rfl rfl) (cons_e rfl (cons_e rfl nil_e))) ha
    have sb : mCall (F_value_of m) (mCons (mOp dIx (mVar 0) (mC (.int 2))) (mCons (mVar 1) (mCons (mVar 2) mNil))) (VE (.sh (Ex.bin w a b).d) (.sh rD) (.sh fD) (.sh (.str w.s)) (.sh (a.v R)) .un) () = some (b.v R, ()) := call_e (xs := [b.d, rD, fD]) (cons_e (op_e rfl rfl rfl) (cons_e rfl (cons_e rfl nil_e))) hb
    refine pre (re_nx (set_e (op_e rfl rfl rfl)) (re_nx (nx rfl ?_) (re_nx (nx rfl ?_) (re_nx (nx rfl ?_) (re_nx (set_e sa) (re_nx (nx rfl ?_) (re_nx (nx rfl ?_) (re_nx (nx rfl ?_) (re_nx (set_e sb) hr)))))))))
    all_goals (cases w <;> rfl)
  induction h with
  | @val k n d h =>
    intro m hm _
    obtain ⟨m, rfl⟩ : ∃ j, m = j + 1 := ⟨m - 1, by omega⟩
    exact pre (re_nx (set_e (op_e rfl rfl rfl)) (re_in (re_ift (word_t rfl rfl) (re_ret (op_e rfl rfl rfl)))))
  | @cell k n i j h =>
    intro m hm _
    obtain ⟨m, rfl⟩ : ∃ j, m = j + 1 := ⟨m - 1, by omega⟩
    obtain ⟨t, h1, h2⟩ := ok.cell _ _ _ h
    exact pre (re_nx (set_e (op_e rfl rfl rfl)) (re_nx (if_no (word_t rfl rfl)) (re_in (re_ift (word_t rfl rfl) (re_ret (op_e (op_e rfl (op_e rfl rfl rfl) h1) (op_e rfl rfl rfl) h2))))))
  | @ar n w a b hw ha hb ia ib =>
    intro m hm hn
    simp only [Ex.h] at hm
    obtain ⟨m, rfl⟩ : ∃ j, m = j + 1 := ⟨m - 1, by omega⟩
    refine bin (ia m (by omega) (by omega)) (ib m (by omega) (by omega)) ?_
    rw [bin_reck (arith_lg hw)]
    have hr := reckoned_e (calc_ok ok (by omega) (.inl ⟨hw, rfl⟩) ha hb) (arith_lg hw)
    refine re_nx (if_no (word_t rfl ?_)) (re_nx (if_no (word_t rfl ?_)) (re_ret (call_e (xs := [.str w.s, a.v R, b.v R]) (cons_e rfl (cons_e rfl (cons_e rfl nil_e))) hr)))
    all_goals (cases w <;> first | rfl | cases hw)
  | @cmp k n w a b hw ha hb ia ib =>
    intro m hm hn
    simp only [Ex.h] at hm
    obtain ⟨m, rfl⟩ : ∃ j, m = j + 1 := ⟨m - 1, by omega⟩
    refine bin (ia m (by omega) (by omega)) (ib m (by omega) (by omega)) ?_
    rw [bin_reck (cmp_lg hw)]
    have hr := reckoned_e (calc_ok ok (by omega) (.inr hw) ha hb) (cmp_lg hw)
    refine re_nx (if_no (word_t rfl ?_)) (re_nx (if_no (word_t rfl ?_)) (re_ret (call_e (xs := [.str w.s, a.v R, b.v R]) (cons_e rfl (cons_e rfl (cons_e rfl nil_e))) hr)))
    all_goals (cases w <;> first | rfl | cases hw)
  | @lg n w a b hw ha hb ia ib =>
    intro m hm hn
    simp only [Ex.h] at hm
    obtain ⟨m, rfl⟩ : ∃ j, m = j + 1 := ⟨m - 1, by omega⟩
    refine bin (ia m (by omega) (by omega)) (ib m (by omega) (by omega)) ?_
    have xa : B3 (a.v R) := val_vb ok ha (by omega)
    have xb : B3 (b.v R) := val_vb ok hb (by omega)
    cases w with
    | and => exact re_in (re_ift (word_t rfl rfl) (re_ret (call_e (xs := [a.v R, b.v R]) (cons_e rfl (cons_e rfl nil_e)) (both_e xa xb))))
    | or => exact re_nx (if_no (word_t rfl rfl)) (re_in (re_ift (word_t rfl rfl) (re_ret (call_e (xs := [a.v R, b.v R]) (cons_e rfl (cons_e rfl nil_e)) (either_e xa xb)))))
    | _ => cases hw
  | @nt n a ha ia =>
    intro m hm hn
    simp only [Ex.h] at hm
    obtain ⟨m, rfl⟩ : ∃ j, m = j + 1 := ⟨m - 1, by omega⟩
    have xa : B3 (a.v R) := val_vb ok ha (by omega)
    exact pre (re_nx (set_e (op_e rfl rfl rfl)) (re_nx (if_no (word_t rfl rfl)) (re_nx (if_no (word_t rfl rfl)) (re_nx (if_no (word_t rfl rfl)) (re_nx (set_e (call_e (xs := [a.d, rD, fD]) (cons_e (op_e rfl rfl rfl) (cons_e rfl (cons_e rfl nil_e))) (ia m (by omega) (by omega)))) (re_nx (if_no (word_t rfl rfl)) (re_in (re_ift (word_t rfl rfl) (re_ret (call_e (xs := [a.v R]) (cons_e rfl nil_e) (turned_e xa)))))))))))
  | @nl k n a ha ia =>
    intro m hm hn
    simp only [Ex.h] at hm
    obtain ⟨m, rfl⟩ : ∃ j, m = j + 1 := ⟨m - 1, by omega⟩
    exact pre (re_nx (set_e (op_e rfl rfl rfl)) (re_nx (if_no (word_t rfl rfl)) (re_nx (if_no (word_t rfl rfl)) (re_nx (if_no (word_t rfl rfl)) (re_nx (set_e (call_e (xs := [a.d, rD, fD]) (cons_e (op_e rfl rfl rfl) (cons_e rfl (cons_e rfl nil_e))) (ia m (by omega) (by omega)))) (re_in (re_ift (word_t rfl rfl) (re_ret (op_e rfl rfl rfl)))))))))
  | @am k n a vs ha hv h1 h3 ia =>
    intro m hm hn
    simp only [Ex.h] at hm
    obtain ⟨m, rfl⟩ : ∃ j, m = j + 1 := ⟨m - 1, by omega⟩
    have xa := (val_vb ok ha (by omega)).flat
    exact pre (re_nx (set_e (op_e rfl rfl rfl)) (re_nx (if_no (word_t rfl rfl)) (re_nx (if_no (word_t rfl rfl)) (re_nx (if_no (word_t rfl rfl)) (re_nx (set_e (call_e (xs := [a.d, rD, fD]) (cons_e (op_e rfl rfl rfl) (cons_e rfl (cons_e rfl nil_e))) (ia m (by omega) (by omega)))) (re_nx (if_no (word_t rfl rfl)) (re_nx (if_no (word_t rfl rfl)) (re_in (re_ift (word_t rfl rfl) (re_ret (call_e (xs := [a.v R, .list vs]) (cons_e rfl (cons_e (op_e rfl rfl rfl) nil_e)) (among_e xa fun v hv' => (hv v hv').flat))))))))))))
end
end K32

namespace K32
open PySem Pd
/-! #### values, by rank -/
inductive Tx | t0 | t1 | t2 | t3 | t4 | t5
def Tx.s : Tx → Str
  | .t0 => ""
  | .t1 => "a"
  | .t2 => "ab"
  | .t3 => "b"
  | .t4 => "b a"
  | .t5 => "c"
def Tx.n : Tx → Int
  | .t0 => 0
  | .t1 => 1
  | .t2 => 2
  | .t3 => 3
  | .t4 => 4
  | .t5 => 5
inductive Wv | int (n : Int) | text (k : Tx) | bool (b : Bool)
def Wv.d : Wv → D
  | .int n => .int n
  | .text k => .str k.s
  | .bool b => .bool b
def Wv.k : Wv → Kd
  | .int _ => .int
  | .text _ => .text
  | .bool _ => .bool
def Wv.r : Wv → Int
  | .int n => n
  | .text k => k.n
  | .bool b => if b then 1 else 0
theorem txt_eq (a b : Tx) : dEq (.str a.s) (.str b.s) = some (.bool (decide (a.n = b.n))) := by cases a <;> cases b <;> rfl
theorem txt_lt (a b : Tx) : dLt (.str a.s) (.str b.s) = some (.bool (decide (a.n < b.n))) := by cases a <;> cases b <;> rfl
theorem txt_gt (a b : Tx) : dGtS (.str a.s) (.str b.s) = some (.bool (decide (b.n < a.n))) := by cases a <;> cases b <;> rfl
theorem w_eq {a b : Wv} (h : a.k = b.k) : dEq a.d b.d = some (.bool (decide (a.r = b.r))) := by
  cases a with
  | int i => cases b with
    | int j => exact (eq_int i j).trans (by show some (PyData.bool (i == j)) = some (PyData.bool (decide (i = j))); rfl)
    | _ => cases h
  | text i => cases b with
    | text j => exact txt_eq i j
    | _ => cases h
  | bool p => cases b with
    | bool q => cases p <;> cases q <;> rfl
    | _ => cases h
theorem w_lt {a b : Wv} (h : a.k = b.k) : dLt a.d b.d = some (.bool (decide (a.r < b.r))) := by
  cases a with
  | int i => cases b with
    | int j =>
      show (if _ then _ else _) = _
      rw [if_pos ⟨Nat.le_of_ble_eq_true rfl, Nat.le_of_ble_eq_true rfl, rfl, rfl⟩]
      show some (PyData.bool (PySem.W.dataLt (.int i) (.int j))) = _
      rw [PySem.W.dataLt_int]
      rfl
    | _ => cases h
  | text i => cases b with
    | text j => exact txt_lt i j
    | _ => cases h
  | bool p => cases b with
    | bool q => cases p <;> cases q <;> rfl
    | _ => cases h
theorem w_gt {a b : Wv} (h : a.k = b.k) : dGtS a.d b.d = some (.bool (decide (b.r < a.r))) := by
  cases a with
  | int i => cases b with
    | int j => rfl
    | _ => cases h
  | text i => cases b with
    | text j => exact txt_gt i j
    | _ => cases h
  | bool p => cases b with
    | bool q => cases p <;> cases q <;> rfl
    | _ => cases h
theorem w_inj {a b : Wv} (h : a.k = b.k) (e : a.r = b.r) : a = b := by
  cases a with
  | int i => cases b with
    | int j => exact congrArg _ e
    | _ => cases h
  | text i => cases b with
    | text j =>
      have e : i.n = j.n := e
      cases i <;> cases j <;> first | rfl | cases e
    | _ => cases h
  | bool p => cases b with
    | bool q => cases p <;> cases q <;> first | rfl | cases e
    | _ => cases h
theorem w_scal (a : Wv) : scal0 a.d = true := by cases a <;> rfl
theorem w_none (a : Wv) : isNone a.d = false := by cases a <;> rfl
theorem w_depth (a : Wv) : a.d.depth ≤ 1 := by cases a <;> exact Nat.le_of_ble_eq_true rfl
/-! #### ends -/
abbrev En := Option (Wv × Bool)
def En.d : En → D
  | none => .none
  | some (w, b) => .tuple [w.d, .bool b]
def EnK (k : Kd) : En → Prop
  | none => True
  | some (w, _) => w.k = k
def isEmp : En → En → Bool
  | some (l, a), some (h, b) => decide (h.r < l.r) || (decide (l.r = h.r) && !(a && b))
  | _, _ => false
def hiE : En → En → En
  | none, o => o
  | o, none => o
  | some (x, a), some (y, b) => if x.r = y.r then (if a = true then some (y, b) else some (x, a)) else if y.r < x.r then some (x, a) else some (y, b)
def loE : En → En → En
  | none, o => o
  | o, none => o
  | some (x, a), some (y, b) => if x.r = y.r then (if a = true then some (y, b) else some (x, a)) else if x.r < y.r then some (x, a) else some (y, b)
def wLo : En → En → En
  | some (x, a), some (y, b) => if x.r = y.r then some (x, a || b) else if y.r < x.r then some (y, b) else some (x, a)
  | _, _ => none
def wHi : En → En → En
  | some (x, a), some (y, b) => if x.r = y.r then some (x, a || b) else if x.r < y.r then some (y, b) else some (x, a)
  | _, _ => none
theorem hiE_ss (x y : Wv) (a b : Bool) : hiE (some (x, a)) (some (y, b)) = if x.r = y.r then (if a = true then some (y, b) else some (x, a)) else if y.r < x.r then some (x, a) else some (y, b) := rfl
theorem loE_ss (x y : Wv) (a b : Bool) : loE (some (x, a)) (some (y, b)) = if x.r = y.r then (if a = true then some (y, b) else some (x, a)) else if x.r < y.r then some (x, a) else some (y, b) := rfl
theorem wLo_ss (x y : Wv) (a b : Bool) : wLo (some (x, a)) (some (y, b)) = if x.r = y.r then some (x, a || b) else if y.r < x.r then some (y, b) else some (x, a) := rfl
theorem wHi_ss (x y : Wv) (a b : Bool) : wHi (some (x, a)) (some (y, b)) = if x.r = y.r then some (x, a || b) else if x.r < y.r then some (y, b) else some (x, a) := rfl
theorem en_none (x : En) : isNone x.d = x.isNone := by cases x with | none => rfl | some p => rfl
theorem en_depth (x : En) : x.d.depth ≤ 2 := by
  cases x with
  | none => exact Nat.le_trans (Nat.le_of_ble_eq_true rfl : (PyData.none).depth ≤ 1) (by decide)
  | some p =>
    refine depth_tup (n := 1) fun y hy => ?_
    · simp only [List.mem_cons, List.not_mem_nil, or_false] at hy
      rcases hy with rfl | rfl
      · exact w_depth _
      · exact Nat.le_of_ble_eq_true rfl
theorem ite_k {k : Kd} {p : Prop} [Decidable p] {x y : En} (hx : EnK k x) (hy : EnK k y) : EnK k (if p then x else y) := by split <;> assumption
theorem hiE_k {k : Kd} {x y : En} (hx : EnK k x) (hy : EnK k y) : EnK k (hiE x y) := by
  rcases x with _ | ⟨x, a⟩ <;> rcases y with _ | ⟨y, b⟩
  · trivial
  · exact hy
  · exact hx
  · exact ite_k (ite_k hy hx) (ite_k hx hy)
theorem loE_k {k : Kd} {x y : En} (hx : EnK k x) (hy : EnK k y) : EnK k (loE x y) := by
  rcases x with _ | ⟨x, a⟩ <;> rcases y with _ | ⟨y, b⟩
  · trivial
  · exact hy
  · exact hx
  · exact ite_k (ite_k hy hx) (ite_k hx hy)
theorem wLo_k {k : Kd} {x y : En} (hx : EnK k x) (hy : EnK k y) : EnK k (wLo x y) := by
  rcases x with _ | ⟨x, a⟩ <;> rcases y with _ | ⟨y, b⟩
  · trivial
  · trivial
  · trivial
  · exact ite_k (x := some (x, a || b)) hx (ite_k hy hx)
theorem wHi_k {k : Kd} {x y : En} (hx : EnK k x) (hy : EnK k y) : EnK k (wHi x y) := by
  rcases x with _ | ⟨x, a⟩ <;> rcases y with _ | ⟨y, b⟩
  · trivial
  · trivial
  · trivial
  · exact ite_k (x := some (x, a || b)) hx (ite_k hy hx)
section
variable {k : Kd} {x y : En}
theorem empty_e (hx : EnK k x) (hy : EnK k y) : F_is_empty [x.d, y.d] = some (.bool (isEmp x y)) := by
  rcases x with _ | ⟨x, a⟩ <;> rcases y with _ | ⟨y, b⟩
  · rfl
  · rfl
  · rfl
  · have e := w_eq (a := x) (b := y) (Eq.trans hx (Eq.symm hy))
    have l := w_lt (a := y) (b := x) (Eq.trans hy (Eq.symm hx))
    have s0 : mIfS (mOr (mOpT dIs (mVar 0) (mC .none)) (mOpT dIs (mVar 1) (mC .none))) (mRet (mC (.bool false))) mSkip (startE 2 ([En.d (some (x, a)), En.d (some (y, b))].map .sh)) () = some (.nx, startE 2 ([En.d (some (x, a)), En.d (some (y, b))].map .sh), ()) := if_no (or_f (opT_e rfl rfl rfl) (opT_e rfl rfl rfl))
    refine runP_Re (N := 2) (n := 2) (m := m_is_empty) (ds := [En.d (some (x, a)), En.d (some (y, b))]) (re_nx s0 (re_ret (g1 := ()) ?_))
    have t1 := op_e (g := ()) (env := startE 2 ([En.d (some (x, a)), En.d (some (y, b))].map .sh)) (ma := mOp dIx (mVar 1) (mC (.int 0))) (mb := mOp dIx (mVar 0) (mC (.int 0))) (op_e rfl rfl rfl) (op_e rfl rfl rfl) l
    have t2 := op_e (g := ()) (env := startE 2 ([En.d (some (x, a)), En.d (some (y, b))].map .sh)) (ma := mOp dIx (mVar 0) (mC (.int 0))) (mb := mOp dIx (mVar 1) (mC (.int 0))) (op_e rfl rfl rfl) (op_e rfl rfl rfl) e
    show mBOr _ _ _ () = some (.bool (decide (y.r < x.r) || (decide (x.r = y.r) && !(a && b))), ())
    unfold mBOr
    rw [t1]
    cases h1 : decide (y.r < x.r) with
    | true => rfl
    | false =>
      show mBAnd _ _ _ () = _
      unfold mBAnd
      rw [t2]
      cases h2 : decide (x.r = y.r) with
      | false => rfl
      | true => cases a <;> cases b <;> rfl
theorem none_or {env : Pd.Env} (h0 : env.at 0 = .sh x.d) (h1 : env.at 1 = .sh y.d) : mOr (mOpT dIs (mVar 0) (mC .none)) (mOpT dIs (mVar 1) (mC .none)) env () = some (x.isNone || y.isNone, ()) := by
  cases hx : x.isNone with
  | true => exact or_t ((is_e (var_e h0)).trans (by rw [en_none, hx]))
  | false => exact (or_f ((is_e (var_e h0)).trans (by rw [en_none, hx])) (is_e (var_e h1))).trans (by rw [en_none]; rfl)
theorem higher_e (hx : EnK k x) (hy : EnK k y) : F_higher [x.d, y.d] = some (hiE x y).d := by
  rcases x with _ | ⟨x, a⟩ <;> rcases y with _ | ⟨y, b⟩
  · rfl
  · rfl
  · rfl
  · have e := w_eq (a := x) (b := y) (Eq.trans hx (Eq.symm hy))
    have l := w_gt (a := x) (b := y) (Eq.trans hx (Eq.symm hy))
    refine runP_Re (N := 2) (n := 2) (m := m_higher) (ds := [En.d (some (x, a)), En.d (some (y, b))]) (re_nx (if_no (none_or (x := some (x, a)) (y := some (y, b)) rfl rfl)) ?_)
    have t2 := opT_e (g := ()) (env := startE 2 ([En.d (some (x, a)), En.d (some (y, b))].map .sh)) (ma := mOp dIx (mVar 0) (mC (.int 0))) (mb := mOp dIx (mVar 1) (mC (.int 0))) (op_e rfl rfl rfl) (op_e rfl rfl rfl) e
    have t3 := opT_e (g := ()) (env := startE 2 ([En.d (some (x, a)), En.d (some (y, b))].map .sh)) (ma := mOp dIx (mVar 0) (mC (.int 0))) (mb := mOp dIx (mVar 1) (mC (.int 0))) (op_e rfl rfl rfl) (op_e rfl rfl rfl) l
    rw [hiE_ss]
    by_cases h1 : x.r = y.r
    · rw [decide_eq_true h1] at t2
      rw [if_pos h1]
      refine re_in (re_ift t2 (re_ret (g1 := ()) ?_))
      cases a <;> rfl
    · rw [decide_eq_false h1] at t2
      rw [if_neg h1]
      refine re_nx (if_no t2) (re_ret (g1 := ()) ?_)
      by_cases h2 : y.r < x.r
      · rw [decide_eq_true h2] at t3
        rw [if_pos h2]
        exact mif_t t3 rfl
      · rw [decide_eq_false h2] at t3
        rw [if_neg h2]
        exact mif_f t3 rfl
theorem lower_e (hx : EnK k x) (hy : EnK k y) : F_lower [x.d, y.d] = some (loE x y).d := by
  rcases x with _ | ⟨x, a⟩ <;> rcases y with _ | ⟨y, b⟩
  · rfl
  · rfl
  · rfl
  · have e := w_eq (a := x) (b := y) (Eq.trans hx (Eq.symm hy))
    have l := w_lt (a := x) (b := y) (Eq.trans hx (Eq.symm hy))
    refine runP_Re (N := 2) (n := 2) (m := m_lower) (ds := [En.d (some (x, a)), En.d (some (y, b))]) (re_nx (if_no (none_or (x := some (x, a)) (y := some (y, b)) rfl rfl)) ?_)
    have t2 := opT_e (g := ()) (env := startE 2 ([En.d (some (x, a)), En.d (some (y, b))].map .sh)) (ma := mOp dIx (mVar 0) (mC (.int 0))) (mb := mOp dIx (mVar 1) (mC (.int 0))) (op_e rfl rfl rfl) (op_e rfl rfl rfl) e
    have t3 := opT_e (g := ()) (env := startE 2 ([En.d (some (x, a)), En.d (some (y, b))].map .sh)) (ma := mOp dIx (mVar 0) (mC (.int 0))) (mb := mOp dIx (mVar 1) (mC (.int 0))) (op_e rfl rfl rfl) (op_e rfl rfl rfl) l
    rw [loE_ss]
    by_cases h1 : x.r = y.r
    · rw [decide_eq_true h1] at t2
      rw [if_pos h1]
      refine re_in (re_ift t2 (re_ret (g1 := ()) ?_))
      cases a <;> rfl
    · rw [decide_eq_false h1] at t2
      rw [if_neg h1]
      refine re_nx (if_no t2) (re_ret (g1 := ()) ?_)
      by_cases h2 : x.r < y.r
      · rw [decide_eq_true h2] at t3
        rw [if_pos h2]
        exact mif_t t3 rfl
      · rw [decide_eq_false h2] at t3
        rw [if_neg h2]
        exact mif_f t3 rfl
/-- two ends are alike -/
theorem en_eq {x y : Wv} {a b : Bool} (h : x.k = y.k) : dEq (En.d (some (x, a))) (En.d (some (y, b))) = some (.bool (decide (x.r = y.r) && (a == b))) := by
  rw [eq_flat (Nat.le_trans (en_depth _) (by decide)) (Nat.le_trans (en_depth _) (by decide))]
  have e := w_eq h
  rw [eq_flat (small_depth (w_scal x)) (small_depth (w_scal y))] at e
  have e : PyData.eqv x.d y.d = decide (x.r = y.r) := by injection e with e; injection e
  show some (PyData.bool (PyData.eqv (.tuple [x.d, .bool a]) (.tuple [y.d, .bool b]))) = _
  rw [PyData.eqv, PyData.eqvAll, PyData.eqvAll, PyData.eqvAll, e]
  cases a <;> cases b <;> simp [PyData.eqv]
theorem en_eq_none {x : En} : dEq x.d .none = some (.bool x.isNone) := by
  cases x with
  | none => rfl
  | some p =>
    rw [eq_flat (Nat.le_trans (en_depth _) (by decide)) (Nat.le_of_ble_eq_true rfl)]
    rfl
theorem wlow_e (hx : EnK k x) (hy : EnK k y) : F_wider_low [x.d, y.d] = some (wLo x y).d := by
  have hh := higher_e hx hy
  rcases x with _ | ⟨x, a⟩ <;> rcases y with _ | ⟨y, b⟩
  · rfl
  · rfl
  · rfl
  · have hk : x.k = y.k := Eq.trans hx (Eq.symm hy)
    refine runP_Re (N := 2) (n := 2) (m := m_wider_low) (ds := [En.d (some (x, a)), En.d (some (y, b))]) (re_nx (if_no (none_or (x := some (x, a)) (y := some (y, b)) rfl rfl)) (re_ret (g1 := ()) ?_))
    have go : ∀ {z : Wv} {c : Bool}, hiE (some (x, a)) (some (y, b)) = some (z, c) → z.k = x.k → mOpT dEq (mCall F_higher (mCons (mVar 0) (mCons (mVar 1) mNil))) (mVar 0) (startE 2 ([En.d (some (x, a)), En.d (some (y, b))].map .sh)) () = some (decide (z.r = x.r) && (c == a), ()) := fun {z c} hz hzk => by
      rw [hz] at hh
      exact opT_e (call_e (xs := [En.d (some (x, a)), En.d (some (y, b))]) (cons_e rfl (cons_e rfl nil_e)) hh) rfl (en_eq hzk)
    rw [wLo_ss]
    by_cases h1 : x.r = y.r
    · rw [if_pos h1]
      have hxy := w_inj hk h1
      subst hxy
      cases a with
      | false => exact (mif_t ((go (z := x) (c := false) (by rw [hiE_ss, if_pos rfl]; rfl) rfl).trans (by rw [decide_eq_true rfl]; rfl)) rfl).trans (by cases b <;> rfl)
      | true =>
        have g0 := go (z := x) (c := b) (by rw [hiE_ss, if_pos rfl]; rfl) rfl
        rw [decide_eq_true rfl] at g0
        cases b with
        | true => exact mif_t g0 rfl
        | false => exact mif_f g0 rfl
    · rw [if_neg h1]
      by_cases h2 : y.r < x.r
      · rw [if_pos h2]
        exact mif_t ((go (z := x) (c := a) (by rw [hiE_ss, if_neg h1, if_pos h2]) rfl).trans (by rw [decide_eq_true rfl]; simp)) rfl
      · rw [if_neg h2]
        exact mif_f ((go (z := y) (c := b) (by rw [hiE_ss, if_neg h1, if_neg h2]) hk.symm).trans (by rw [decide_eq_false (fun z => h1 z.symm)]; rfl)) rfl
theorem whigh_e (hx : EnK k x) (hy : EnK k y) : F_wider_high [x.d, y.d] = some (wHi x y).d := by
  have hh := lower_e hx hy
  rcases x with _ | ⟨x, a⟩ <;> rcases y with _ | ⟨y, b⟩
  · rfl
  · rfl
  · rfl
  · have hk : x.k = y.k := Eq.trans hx (Eq.symm hy)
    refine runP_Re (N := 2) (n := 2) (m := m_wider_high) (ds := [En.d (some (x, a)), En.d (some (y, b))]) (re_nx (if_no (none_or (x := some (x, a)) (y := some (y, b)) rfl rfl)) (re_ret (g1 := ()) ?_))
    have go : ∀ {z : Wv} {c : Bool}, loE (some (x, a)) (some (y, b)) = some (z, c) → z.k = x.k → mOpT dEq (mCall F_lower (mCons (mVar 0) (mCons (mVar 1) mNil))) (mVar 0) (startE 2 ([En.d (some (x, a)), En.d (some (y, b))].map .sh)) () = some (decide (z.r = x.r) && (c == a), ()) := fun {z c} hz hzk => by
      rw [hz] at hh
      exact opT_e (call_e (xs := [En.d (some (x, a)), En.d (some (y, b))]) (cons_e rfl (cons_e rfl nil_e)) hh) rfl (en_eq hzk)
    rw [wHi_ss]
    by_cases h1 : x.r = y.r
    · rw [if_pos h1]
      have hxy := w_inj hk h1
      subst hxy
      cases a with
      | false => exact (mif_t ((go (z := x) (c := false) (by rw [loE_ss, if_pos rfl]; rfl) rfl).trans (by rw [decide_eq_true rfl]; rfl)) rfl).trans (by cases b <;> rfl)
      | true =>
        have g0 := go (z := x) (c := b) (by rw [loE_ss, if_pos rfl]; rfl) rfl
        rw [decide_eq_true rfl] at g0
        cases b with
        | true => exact mif_t g0 rfl
        | false => exact mif_f g0 rfl
    · rw [if_neg h1]
      by_cases h2 : x.r < y.r
      · rw [if_pos h2]
        exact mif_t ((go (z := x) (c := a) (by rw [loE_ss, if_neg h1, if_pos h2]) rfl).trans (by rw [decide_eq_true rfl]; simp)) rfl
      · rw [if_neg h2]
        exact mif_f ((go (z := y) (c := b) (by rw [loE_ss, if_neg h1, if_neg h2]) hk.symm).trans (by rw [decide_eq_false (fun z => h1 z.symm)]; rfl)) rfl
/-- the law's ends -/
def endsM (tight low : Bool) (x y : En) : En := match tight, low with
  | true, true => hiE x y
  | true, false => loE x y
  | false, true => wLo x y
  | false, false => wHi x y
theorem ends_e (tight low : Bool) (hx : EnK k x) (hy : EnK k y) : F__law_ends [x.d, y.d, .bool tight, .bool low] = some (endsM tight low x y).d := by
  rcases x with _ | ⟨x, a⟩ <;> rcases y with _ | ⟨y, b⟩
  · cases tight <;> cases low <;> rfl
  · cases tight <;> cases low <;> rfl
  · cases tight <;> cases low <;> rfl
  · have hk : x.k = y.k := Eq.trans hx (Eq.symm hy)
    have e := w_eq hk
    have l := w_lt hk.symm
    refine runP_Re (N := 6) (n := 4) (m := m__law_ends) (ds := [En.d (some (x, a)), En.d (some (y, b)), .bool tight, .bool low]) (re_nx (if_no (none_or (x := some (x, a)) (y := some (y, b)) rfl rfl)) ?_)
    have t2 := opT_e (g := ()) (env := startE 6 ([En.d (some (x, a)), En.d (some (y, b)), .bool tight, .bool low].map .sh)) (ma := mOp dIx (mVar 0) (mC (.int 0))) (mb := mOp dIx (mVar 1) (mC (.int 0))) (op_e rfl rfl rfl) (op_e rfl rfl rfl) e
    have t3 : ∀ {c : SV}, mOp dLt (mOp dIx (mVar 1) (mC (.int 0))) (mOp dIx (mVar 0) (mC (.int 0))) [.sh (En.d (some (x, a))), .sh (En.d (some (y, b))), .sh (.bool tight), .sh (.bool low), c, .un] () = some (.bool (decide (y.r < x.r)), ()) := op_e (op_e rfl rfl rfl) (op_e rfl rfl rfl) l
    by_cases h1 : x.r = y.r
    · rw [decide_eq_true h1] at t2
      have hxy := w_inj hk h1
      subst hxy
      have r1 : endsM tight low (some (x, a)) (some (x, b)) = some (x, if tight then a && b else a || b) := by
        cases tight <;> cases low <;> simp only [endsM, hiE_ss, loE_ss, wLo_ss, wHi_ss, if_pos rfl] <;> cases a <;> cases b <;> rfl
      rw [r1]
      refine re_in (re_ift t2 (re_ret (g1 := ()) ?_))
      cases tight <;> cases a <;> cases b <;> rfl
    · rw [decide_eq_false h1] at t2
      refine re_nx (if_no t2) ?_
      by_cases h2 : y.r < x.r
      · have h3 : ¬ x.r < y.r := by omega
        rw [decide_eq_true h2] at t3
        have r1 : endsM tight low (some (x, a)) (some (y, b)) = if (low == tight) = true then some (x, a) else some (y, b) := by
          cases tight <;> cases low <;> simp only [endsM, hiE_ss, loE_ss, wLo_ss, wHi_ss, if_neg h1, if_pos h2, if_neg h3] <;> rfl
        rw [r1]
        refine re_nx (set_e (d := En.d (some (y, b))) (op_e (L_e (lst_e (cons_e rfl (cons_e rfl nil_e)))) (call_e (cons_e t3 nil_e) rfl) rfl)) (re_nx (set_e (d := En.d (some (x, a))) (op_e (L_e (lst_e (cons_e rfl (cons_e rfl nil_e)))) (call_e (cons_e t3 nil_e) rfl) rfl)) (re_ret (g1 := ()) ?_))
        cases tight <;> cases low <;> rfl
      · have h3 : x.r < y.r := by omega
        rw [decide_eq_false h2] at t3
        have r1 : endsM tight low (some (x, a)) (some (y, b)) = if (low == tight) = true then some (y, b) else some (x, a) := by
          cases tight <;> cases low <;> simp only [endsM, hiE_ss, loE_ss, wLo_ss, wHi_ss, if_neg h1, if_neg h2, if_pos h3] <;> rfl
        rw [r1]
        refine re_nx (set_e (d := En.d (some (x, a))) (op_e (L_e (lst_e (cons_e rfl (cons_e rfl nil_e)))) (call_e (cons_e t3 nil_e) rfl) rfl)) (re_nx (set_e (d := En.d (some (y, b))) (op_e (L_e (lst_e (cons_e rfl (cons_e rfl nil_e)))) (call_e (cons_e t3 nil_e) rfl) rfl)) (re_ret (g1 := ()) ?_))
        cases tight <;> cases low <;> rfl
end
end K32

namespace K32
open PySem Pd
/-! #### bounds -/
inductive Bd | all | null | never | rng (lo hi : En)
def Bd.d : Bd → D
  | .all => .tuple [.str "all"]
  | .null => .tuple [.str "null"]
  | .never => .tuple [.str "never"]
  | .rng lo hi => .tuple [.str "range", lo.d, hi.d]
def BdK (k : Kd) : Bd → Prop
  | .rng lo hi => EnK k lo ∧ EnK k hi
  | _ => True
def Bd.tg : Bd → Nat
  | .all => 0
  | .null => 1
  | .never => 2
  | .rng _ _ => 3
theorem bd_depth (x : Bd) : x.d.depth ≤ 3 := by
  cases x with
  | rng lo hi =>
    refine depth_tup (n := 2) fun y hy => ?_
    simp only [List.mem_cons, List.not_mem_nil, or_false] at hy
    rcases hy with rfl | rfl | rfl
    · exact Nat.le_of_ble_eq_true rfl
    · exact en_depth _
    · exact en_depth _
  | _ => exact Nat.le_of_ble_eq_true rfl
theorem bd64 (x : Bd) : x.d.depth ≤ 64 := Nat.le_trans (bd_depth x) (by decide)
theorem ev_all (x : Bd) : PyData.eqv x.d (.tuple [.str "all"]) = (x.tg == 0) := by cases x <;> rfl
theorem ev_null (x : Bd) : PyData.eqv x.d (.tuple [.str "null"]) = (x.tg == 1) := by cases x <;> rfl
theorem ev_never (x : Bd) : PyData.eqv x.d (.tuple [.str "never"]) = (x.tg == 2) := by cases x <;> rfl
theorem eq_all (x : Bd) : dEq x.d (.tuple [.str "all"]) = some (.bool (x.tg == 0)) := by rw [eq_flat (bd64 x) (Nat.le_of_ble_eq_true rfl), ev_all]
theorem eq_null (x : Bd) : dEq x.d (.tuple [.str "null"]) = some (.bool (x.tg == 1)) := by rw [eq_flat (bd64 x) (Nat.le_of_ble_eq_true rfl), ev_null]
theorem eq_never (x : Bd) : dEq x.d (.tuple [.str "never"]) = some (.bool (x.tg == 2)) := by rw [eq_flat (bd64 x) (Nat.le_of_ble_eq_true rfl), ev_never]
theorem two_depth (x y : Bd) : (PyData.list [x.d, y.d]).depth ≤ 64 := Nat.le_trans (depth_list (n := 3) fun z hz => by
  simp only [List.mem_cons, List.not_mem_nil, or_false] at hz
  rcases hz with rfl | rfl <;> exact bd_depth _) (by decide)
theorem in_tup {t : D} (ht : t.depth ≤ 64) (x y : Bd) : dInD false t (.tuple [x.d, y.d]) = some (.bool (PyData.eqv x.d t || PyData.eqv y.d t)) := by
  show (if _ then _ else _) = _
  rw [if_pos ⟨rfl, ht, two_depth x y⟩]
  show some (PyData.bool (PyData.eqv x.d t || (PyData.eqv y.d t || false))) = _
  rw [Bool.or_false]
theorem in_lst {t : D} (ht : t.depth ≤ 64) (x y : Bd) : dInD false t (.list [x.d, y.d]) = some (.bool (PyData.eqv x.d t || PyData.eqv y.d t)) := by
  show (if _ then _ else _) = _
  rw [if_pos ⟨ht, two_depth x y⟩]
  show some (PyData.bool (PyData.eqv x.d t || (PyData.eqv y.d t || false))) = _
  rw [Bool.or_false]
def meetM : Bd → Bd → Bd
  | .never, _ => .never
  | .all, y => y
  | .null, .all => .null
  | .null, .null => .null
  | .null, _ => .never
  | .rng a b, .all => .rng a b
  | .rng a b, .rng c d => if isEmp (hiE a c) (loE b d) = true then .never else .rng (hiE a c) (loE b d)
  | .rng _ _, _ => .never
def joinM : Bd → Bd → Bd
  | .never, y => y
  | .all, _ => .all
  | .null, .null => .null
  | .null, .never => .null
  | .null, _ => .all
  | .rng a b, .never => .rng a b
  | .rng a b, .rng c d => .rng (wLo a c) (wHi b d)
  | .rng _ _, _ => .all
theorem meet_k {k : Kd} {x y : Bd} (hx : BdK k x) (hy : BdK k y) : BdK k (meetM x y) := by
  cases x <;> cases y <;> first | trivial | exact hx | exact hy | skip
  rename_i a b c d
  show BdK k (if isEmp (hiE a c) (loE b d) = true then .never else .rng (hiE a c) (loE b d))
  split
  · trivial
  · exact ⟨hiE_k hx.1 hy.1, loE_k hx.2 hy.2⟩
theorem join_k {k : Kd} {x y : Bd} (hx : BdK k x) (hy : BdK k y) : BdK k (joinM x y) := by
  cases x <;> cases y <;> first | trivial | exact hx | exact hy | exact ⟨wLo_k hx.1 hy.1, wHi_k hx.2 hy.2⟩
theorem or_e {G : Type} {env : Pd.Env} {g : G} {mt mu : MT G} {a b : Bool} (ha : mt env g = some (a, g)) (hb : mu env g = some (b, g)) : mOr mt mu env g = some (a || b, g) := by
  cases a with
  | true => exact or_t ha
  | false => exact or_f ha hb
theorem and_e {G : Type} {env : Pd.Env} {g : G} {mt mu : MT G} {a b : Bool} (ha : mt env g = some (a, g)) (hb : mu env g = some (b, g)) : mAnd mt mu env g = some (a && b, g) := by
  cases a with
  | false => exact and_f ha
  | true => exact and_t ha hb
section
variable {k : Kd} {x y : Bd}
theorem meet_e (hx : BdK k x) (hy : BdK k y) : F_meet [x.d, y.d] = some (meetM x y).d := by
  have pre : ∀ d : D, Re d m_meet (startE 4 ([x.d, y.d].map .sh)) () → F_meet [x.d, y.d] = some d := fun d h => runP_Re (N := 4) (n := 2) (m := m_meet) (ds := [x.d, y.d]) h
  have t1 : mOpT (dInD false) (mC (.tuple [(.str "never")])) (mTup (mCons (mVar 0) (mCons (mVar 1) mNil))) (startE 4 ([x.d, y.d].map .sh)) () = some (x.tg == 2 || y.tg == 2, ()) := opT_e rfl (tup_e (cons_e rfl (cons_e rfl nil_e))) (by rw [in_tup (Nat.le_of_ble_eq_true rfl), ev_never, ev_never])
  have a0 : mOpT dEq (mVar 0) (mC (.tuple [(.str "all")])) (startE 4 ([x.d, y.d].map .sh)) () = some (x.tg == 0, ()) := opT_e rfl rfl (eq_all x)
  have a1 : mOpT dEq (mVar 1) (mC (.tuple [(.str "all")])) (startE 4 ([x.d, y.d].map .sh)) () = some (y.tg == 0, ()) := opT_e rfl rfl (eq_all y)
  have n0 : mOpT dEq (mVar 0) (mC (.tuple [(.str "null")])) (startE 4 ([x.d, y.d].map .sh)) () = some (x.tg == 1, ()) := opT_e rfl rfl (eq_null x)
  have n1 : mOpT dEq (mVar 1) (mC (.tuple [(.str "null")])) (startE 4 ([x.d, y.d].map .sh)) () = some (y.tg == 1, ()) := opT_e rfl rfl (eq_null y)
  have t2 := or_e a0 a1
  have t3 := or_e n0 n1
  have t4 := opT_e (f := dEq) (ma := mVar 0) (mb := mVar 1) (env := startE 4 ([x.d, y.d].map .sh)) (g := ()) rfl rfl (eq_flat (bd64 x) (bd64 y))
  cases x with
  | never => exact pre _ (re_in (re_ift t1 (re_ret rfl)))
  | all =>
    cases y with
    | never => exact pre _ (re_in (re_ift t1 (re_ret rfl)))
    | _ => exact pre _ (re_nx (if_no t1) (re_in (re_ift t2 (re_ret (mif_t a0 rfl)))))
  | null =>
    cases y with
    | never => exact pre _ (re_in (re_ift t1 (re_ret rfl)))
    | all => exact pre _ (re_nx (if_no t1) (re_in (re_ift t2 (re_ret (mif_f a0 rfl)))))
    | null => exact pre _ (re_nx (if_no t1) (re_nx (if_no t2) (re_in (re_ift t3 (re_ret (mif_t t4 rfl))))))
    | rng c d => exact pre _ (re_nx (if_no t1) (re_nx (if_no t2) (re_in (re_ift t3 (re_ret (mif_f t4 rfl))))))
  | rng a b =>
    cases y with
    | never => exact pre _ (re_in (re_ift t1 (re_ret rfl)))
    | all => exact pre _ (re_nx (if_no t1) (re_in (re_ift t2 (re_ret (mif_f a0 rfl)))))
    | null => exact pre _ (re_nx (if_no t1) (re_nx (if_no t2) (re_in (re_ift t3 (re_ret (mif_f t4 rfl))))))
    | rng c d =>
      have h1 := higher_e hx.1 hy.1
      have h2 := lower_e hx.2 hy.2
      have h3 := empty_e (hiE_k hx.1 hy.1) (loE_k hx.2 hy.2)
      refine pre _ (re_nx (if_no t1) (re_nx (if_no t2) (re_nx (if_no t3) (re_nx (par_e (x := (hiE a c).d) (y := (loE b d).d) (cons_e (call_e (xs := [a.d, c.d]) (cons_e (op_e rfl rfl rfl) (cons_e (op_e rfl rfl rfl) nil_e)) h1) (cons_e (call_e (xs := [b.d, d.d]) (cons_e (op_e rfl rfl rfl) (cons_e (op_e rfl rfl rfl) nil_e)) h2) nil_e))) (re_ret (g1 := ()) ?_)))))
      have t5 : mTru (mCall F_is_empty (mCons (mVar 2) (mCons (mVar 3) mNil))) [.sh (Bd.rng a b).d, .sh (Bd.rng c d).d, .sh (hiE a c).d, .sh (loE b d).d] () = some (isEmp (hiE a c) (loE b d), ()) := tru_e (call_e (xs := [(hiE a c).d, (loE b d).d]) (cons_e rfl (cons_e rfl nil_e)) h3) rfl
      show mIf _ _ _ [.sh (Bd.rng a b).d, .sh (Bd.rng c d).d, .sh (hiE a c).d, .sh (loE b d).d] () = some (Bd.d (if isEmp (hiE a c) (loE b d) = true then .never else .rng (hiE a c) (loE b d)), ())
      cases h : isEmp (hiE a c) (loE b d) with
      | true => rw [h] at t5; exact mif_t t5 rfl
      | false => rw [h] at t5; exact mif_f t5 rfl
theorem lmeet_e (hx : BdK k x) (hy : BdK k y) : F__law_meet [x.d, y.d] = some (meetM x y).d := by
  have pre : ∀ d : D, Re d m__law_meet (startE 4 ([x.d, y.d].map .sh)) () → F__law_meet [x.d, y.d] = some d := fun d h => runP_Re (N := 4) (n := 2) (m := m__law_meet) (ds := [x.d, y.d]) h
  have tt : ∀ {s : Str} {n : Nat}, (∀ z : Bd, PyData.eqv z.d (.tuple [.str s]) = (z.tg == n)) → mOpT (dInD false) (mTup (mCons (mC (.str s)) mNil)) (mL (mLst (mCons (mVar 0) (mCons (mVar 1) mNil)))) (startE 4 ([x.d, y.d].map .sh)) () = some (x.tg == n || y.tg == n, ()) := fun {s n} h => opT_e (tup_e (cons_e rfl nil_e)) (L_e (lst_e (cons_e rfl (cons_e rfl nil_e)))) (by rw [in_lst (Nat.le_of_ble_eq_true rfl), h, h])
  have t1 := tt ev_never
  have t2 := tt ev_all
  have t3 := tt ev_null
  have a0 : mOp dEq (mVar 0) (mTup (mCons (mC (.str "all")) mNil)) (startE 4 ([x.d, y.d].map .sh)) () = some (.bool (x.tg == 0), ()) := op_e rfl (tup_e (cons_e rfl nil_e)) (eq_all x)
  have t4 := op_e (f := dEq) (ma := mVar 0) (mb := mVar 1) (env := startE 4 ([x.d, y.d].map .sh)) (g := ()) rfl rfl (eq_flat (bd64 x) (bd64 y))
  have two : mL (mLst (mCons (mVar 0) (mCons (mVar 1) mNil))) (startE 4 ([x.d, y.d].map .sh)) () = some (.list [x.d, y.d], ()) := L_e (lst_e (cons_e rfl (cons_e rfl nil_e)))
  have two' : mL (mLst (mCons (mTup (mCons (mC (.str "never")) mNil)) (mCons (mVar 0) mNil))) (startE 4 ([x.d, y.d].map .sh)) () = some (.list [.tuple [.str "never"], x.d], ()) := L_e (lst_e (cons_e (tup_e (cons_e rfl nil_e)) (cons_e rfl nil_e)))
  cases x with
  | never => exact pre _ (re_in (re_ift t1 (re_ret rfl)))
  | all =>
    cases y with
    | never => exact pre _ (re_in (re_ift t1 (re_ret rfl)))
    | _ => exact pre _ (re_nx (if_no t1) (re_in (re_ift t2 (re_ret (op_e two (call_e (cons_e a0 nil_e) rfl) rfl)))))
  | null =>
    cases y with
    | never => exact pre _ (re_in (re_ift t1 (re_ret rfl)))
    | all => exact pre _ (re_nx (if_no t1) (re_in (re_ift t2 (re_ret (op_e two (call_e (cons_e a0 nil_e) rfl) rfl)))))
    | null => exact pre _ (re_nx (if_no t1) (re_nx (if_no t2) (re_in (re_ift t3 (re_ret (op_e two' (call_e (cons_e t4 nil_e) rfl) rfl))))))
    | rng c d => exact pre _ (re_nx (if_no t1) (re_nx (if_no t2) (re_in (re_ift t3 (re_ret (op_e two' (call_e (cons_e t4 nil_e) rfl) rfl))))))
  | rng a b =>
    cases y with
    | never => exact pre _ (re_in (re_ift t1 (re_ret rfl)))
    | all => exact pre _ (re_nx (if_no t1) (re_in (re_ift t2 (re_ret (op_e two (call_e (cons_e a0 nil_e) rfl) rfl)))))
    | null => exact pre _ (re_nx (if_no t1) (re_nx (if_no t2) (re_in (re_ift t3 (re_ret (op_e two' (call_e (cons_e t4 nil_e) rfl) rfl))))))
    | rng c d =>
      have h1 := ends_e true true hx.1 hy.1
      have h2 := ends_e true false hx.2 hy.2
      let lo := hiE a c
      let hi := loE b d
      have klo : EnK k lo := hiE_k hx.1 hy.1
      have khi : EnK k hi := loE_k hx.2 hy.2
      let E4 : Pd.Env := [.sh (Bd.rng a b).d, .sh (Bd.rng c d).d, .sh lo.d, .sh hi.d]
      refine pre _ (re_nx (if_no t1) (re_nx (if_no t2) (re_nx (if_no t3) (re_nx (set_e (d := lo.d) (call_e (xs := [a.d, c.d, .bool true, .bool true]) (cons_e (op_e rfl rfl rfl) (cons_e (op_e rfl rfl rfl) (cons_e rfl (cons_e rfl nil_e)))) h1)) (re_nx (set_e (d := hi.d) (call_e (xs := [b.d, d.d, .bool true, .bool false]) (cons_e (op_e rfl rfl rfl) (cons_e (op_e rfl rfl rfl) (cons_e rfl (cons_e rfl nil_e)))) h2)) ?_)))))
      have fin : ∀ v : Bool, mAnd (mOpT dIsNot (mVar 2) (mC .none)) (mAnd (mOpT dIsNot (mVar 3) (mC .none)) (mOr (mOpT dLt (mOp dIx (mVar 3) (mC (.int 0))) (mOp dIx (mVar 2) (mC (.int 0)))) (mAnd (mOpT dEq (mOp dIx (mVar 3) (mC (.int 0))) (mOp dIx (mVar 2) (mC (.int 0)))) (mNot (mAnd (mTru (mOp dIx (mVar 2) (mC (.int 1)))) (mTru (mOp dIx (mVar 3) (mC (.int 1))))))))) E4 () = some (v, ()) → v = isEmp lo hi → Re (meetM (.rng a b) (.rng c d)).d (mSeq (mIfS (mAnd (mOpT dIsNot (mVar 2) (mC .none)) (mAnd (mOpT dIsNot (mVar 3) (mC .none)) (mOr (mOpT dLt (mOp dIx (mVar 3) (mC (.int 0))) (mOp dIx (mVar 2) (mC (.int 0)))) (mAnd (mOpT dEq (mOp dIx (mVar 3) (mC (.int 0))) (mOp dIx (mVar 2) (mC (.int 0)))) (mNot (mAnd (mTru (mOp dIx (mVar 2) (mC (.int 1)))) (mTru (mOp dIx (mVar 3) (mC (.int 1))))))))))
    (mRet (mTup (mCons (mC (.str "never")) mNil)))
    mSkip)
    (mRet (mTup (mCons (mC (.str "range")) (mCons (mVar 2) (mCons (mVar 3) mNil)))))) E4 () := fun v h hv => by
        show Re (Bd.d (if isEmp lo hi = true then .never else .rng lo hi)) _ _ _
        rw [← hv]
        cases v with
        | true => exact re_in (re_ift h (re_ret (tup_e (cons_e rfl nil_e))))
        | false => exact re_nx (if_no h) (re_ret (tup_e (cons_e rfl (cons_e rfl (cons_e rfl nil_e)))))
      show Re _ _ E4 ()
      have i2 : mOpT dIsNot (mVar 2) (mC .none) E4 () = some (!lo.isNone, ()) := (isNot_e rfl).trans (by rw [en_none])
      have i3 : mOpT dIsNot (mVar 3) (mC .none) E4 () = some (!hi.isNone, ()) := (isNot_e rfl).trans (by rw [en_none])
      cases hlo : lo with
      | none => rw [hlo] at i2; exact fin false (and_f i2) (by rw [hlo]; rfl)
      | some p =>
        cases hhi : hi with
        | none => rw [hlo] at i2; rw [hhi] at i3; exact fin false (and_t i2 (and_f i3)) (by rw [hlo, hhi]; rfl)
        | some q =>
          obtain ⟨l, u⟩ := p
          obtain ⟨m, v⟩ := q
          rw [hlo] at i2 klo
          rw [hhi] at i3 khi
          have hk : m.k = l.k := Eq.trans khi (Eq.symm klo)
          have g2 : ∀ (j : Int) (z : D), dIx (En.d (some (l, u))) (.int j) = some z → mOp dIx (mVar 2) (mC (.int j)) E4 () = some (z, ()) := fun j z hz => op_e (x := lo.d) rfl rfl (by rw [hlo]; exact hz)
          have g3 : ∀ (j : Int) (z : D), dIx (En.d (some (m, v))) (.int j) = some z → mOp dIx (mVar 3) (mC (.int j)) E4 () = some (z, ()) := fun j z hz => op_e (x := hi.d) rfl rfl (by rw [hhi]; exact hz)
          have c1 := opT_e (g3 0 m.d rfl) (g2 0 l.d rfl) (w_lt hk)
          have c2 := opT_e (g3 0 m.d rfl) (g2 0 l.d rfl) (w_eq hk)
          have c3 := not_e (and_e (tru_e (g2 1 (.bool u) rfl) rfl) (tru_e (g3 1 (.bool v) rfl) rfl))
          refine fin _ (and_t i2 (and_t i3 (or_e c1 (and_e c2 c3)))) ?_
          rw [hlo, hhi]
          show (decide (m.r < l.r) || (decide (m.r = l.r) && !(u && v))) = (decide (m.r < l.r) || (decide (l.r = m.r) && !(u && v)))
          have : decide (m.r = l.r) = decide (l.r = m.r) := by rw [decide_eq_decide]; exact ⟨Eq.symm, Eq.symm⟩
          rw [this]
end
end K32

namespace K32
open PySem Pd
section
variable {k : Kd} {x y : Bd}
theorem join_e (hx : BdK k x) (hy : BdK k y) : F_join [x.d, y.d] = some (joinM x y).d := by
  have pre : ∀ d : D, Re d m_join (startE 2 ([x.d, y.d].map .sh)) () → F_join [x.d, y.d] = some d := fun d h => runP_Re (N := 2) (n := 2) (m := m_join) (ds := [x.d, y.d]) h
  have e0 : mOpT dEq (mVar 0) (mC (.tuple [(.str "never")])) (startE 2 ([x.d, y.d].map .sh)) () = some (x.tg == 2, ()) := opT_e rfl rfl (eq_never x)
  have e1 : mOpT dEq (mVar 1) (mC (.tuple [(.str "never")])) (startE 2 ([x.d, y.d].map .sh)) () = some (y.tg == 2, ()) := opT_e rfl rfl (eq_never y)
  have a0 : mOpT dEq (mVar 0) (mC (.tuple [(.str "all")])) (startE 2 ([x.d, y.d].map .sh)) () = some (x.tg == 0, ()) := opT_e rfl rfl (eq_all x)
  have a1 : mOpT dEq (mVar 1) (mC (.tuple [(.str "all")])) (startE 2 ([x.d, y.d].map .sh)) () = some (y.tg == 0, ()) := opT_e rfl rfl (eq_all y)
  have n0 : mOpT dEq (mVar 0) (mC (.tuple [(.str "null")])) (startE 2 ([x.d, y.d].map .sh)) () = some (x.tg == 1, ()) := opT_e rfl rfl (eq_null x)
  have n2 : mOpT dNe (mOp dEq (mVar 0) (mC (.tuple [(.str "null")]))) (mOp dEq (mVar 1) (mC (.tuple [(.str "null")]))) (startE 2 ([x.d, y.d].map .sh)) () = some ((x.tg == 1) != (y.tg == 1), ()) := opT_e (op_e rfl rfl (eq_null x)) (op_e rfl rfl (eq_null y)) (ne_bb _ _)
  have t1 := or_e e0 e1
  have t2 := or_e a0 (or_e a1 n2)
  cases x with
  | never => exact pre _ (re_in (re_ift t1 (re_ret (mif_t e0 rfl))))
  | all =>
    cases y with
    | never => exact pre _ (re_in (re_ift t1 (re_ret (mif_f e0 rfl))))
    | _ => exact pre _ (re_nx (if_no t1) (re_in (re_ift t2 (re_ret rfl))))
  | null =>
    cases y with
    | never => exact pre _ (re_in (re_ift t1 (re_ret (mif_f e0 rfl))))
    | all => exact pre _ (re_nx (if_no t1) (re_in (re_ift t2 (re_ret rfl))))
    | null => exact pre _ (re_nx (if_no t1) (re_nx (if_no t2) (re_in (re_ift n0 (re_ret rfl)))))
    | rng c d => exact pre _ (re_nx (if_no t1) (re_in (re_ift t2 (re_ret rfl))))
  | rng a b =>
    cases y with
    | never => exact pre _ (re_in (re_ift t1 (re_ret (mif_f e0 rfl))))
    | all => exact pre _ (re_nx (if_no t1) (re_in (re_ift t2 (re_ret rfl))))
    | null => exact pre _ (re_nx (if_no t1) (re_in (re_ift t2 (re_ret rfl))))
    | rng c d =>
      have h1 := wlow_e hx.1 hy.1
      have h2 := whigh_e hx.2 hy.2
      exact pre _ (re_nx (if_no t1) (re_nx (if_no t2) (re_nx (if_no n0) (re_ret (tup_e (cons_e rfl (cons_e (call_e (xs := [a.d, c.d]) (cons_e (op_e rfl rfl rfl) (cons_e (op_e rfl rfl rfl) nil_e)) h1) (cons_e (call_e (xs := [b.d, d.d]) (cons_e (op_e rfl rfl rfl) (cons_e (op_e rfl rfl rfl) nil_e)) h2) nil_e))))))))
theorem ljoin_e (hx : BdK k x) (hy : BdK k y) : F__law_join [x.d, y.d] = some (joinM x y).d := by
  have pre : ∀ d : D, Re d m__law_join (startE 2 ([x.d, y.d].map .sh)) () → F__law_join [x.d, y.d] = some d := fun d h => runP_Re (N := 2) (n := 2) (m := m__law_join) (ds := [x.d, y.d]) h
  have tt : ∀ {s : Str} {n : Nat}, (∀ z : Bd, PyData.eqv z.d (.tuple [.str s]) = (z.tg == n)) → mOpT (dInD false) (mTup (mCons (mC (.str s)) mNil)) (mL (mLst (mCons (mVar 0) (mCons (mVar 1) mNil)))) (startE 2 ([x.d, y.d].map .sh)) () = some (x.tg == n || y.tg == n, ()) := fun {s n} h => opT_e (tup_e (cons_e rfl nil_e)) (L_e (lst_e (cons_e rfl (cons_e rfl nil_e)))) (by rw [in_lst (Nat.le_of_ble_eq_true rfl), h, h])
  have t1 := tt ev_never
  have t3 := or_e (tt ev_all) (tt ev_null)
  have e0 : mOp dEq (mVar 0) (mTup (mCons (mC (.str "never")) mNil)) (startE 2 ([x.d, y.d].map .sh)) () = some (.bool (x.tg == 2), ()) := op_e rfl (tup_e (cons_e rfl nil_e)) (eq_never x)
  have two : mL (mLst (mCons (mVar 0) (mCons (mVar 1) mNil))) (startE 2 ([x.d, y.d].map .sh)) () = some (.list [x.d, y.d], ()) := L_e (lst_e (cons_e rfl (cons_e rfl nil_e)))
  have ch : mChainT dEq dEq (mVar 0) (mVar 1) (mTup (mCons (mC (.str "null")) mNil)) (startE 2 ([x.d, y.d].map .sh)) () = some (PyData.eqv x.d y.d && (y.tg == 1), ()) := by
    have h := eq_flat (bd64 x) (bd64 y)
    cases hb : PyData.eqv x.d y.d with
    | false => rw [hb] at h; exact chain_f rfl rfl h
    | true => rw [hb] at h; exact chain_t rfl rfl h (tup_e (cons_e rfl nil_e)) (eq_null y)
  cases x with
  | never => exact pre _ (re_in (re_ift t1 (re_ret (op_e two (call_e (cons_e e0 nil_e) rfl) rfl))))
  | all =>
    cases y with
    | never => exact pre _ (re_in (re_ift t1 (re_ret (op_e two (call_e (cons_e e0 nil_e) rfl) rfl))))
    | _ => exact pre _ (re_nx (if_no t1) (re_nx (if_no ch) (re_in (re_ift t3 (re_ret (tup_e (cons_e rfl nil_e)))))))
  | null =>
    cases y with
    | never => exact pre _ (re_in (re_ift t1 (re_ret (op_e two (call_e (cons_e e0 nil_e) rfl) rfl))))
    | all => exact pre _ (re_nx (if_no t1) (re_nx (if_no ch) (re_in (re_ift t3 (re_ret (tup_e (cons_e rfl nil_e)))))))
    | null => exact pre _ (re_nx (if_no t1) (re_in (re_ift ch (re_ret rfl))))
    | rng c d => exact pre _ (re_nx (if_no t1) (re_nx (if_no ch) (re_in (re_ift t3 (re_ret (tup_e (cons_e rfl nil_e)))))))
  | rng a b =>
    cases y with
    | never => exact pre _ (re_in (re_ift t1 (re_ret (op_e two (call_e (cons_e e0 nil_e) rfl) rfl))))
    | all => exact pre _ (re_nx (if_no t1) (re_nx (if_no ch) (re_in (re_ift t3 (re_ret (tup_e (cons_e rfl nil_e)))))))
    | null => exact pre _ (re_nx (if_no t1) (re_nx (if_no ch) (re_in (re_ift t3 (re_ret (tup_e (cons_e rfl nil_e)))))))
    | rng c d =>
      have h1 := ends_e false true hx.1 hy.1
      have h2 := ends_e false false hx.2 hy.2
      have ch : mChainT dEq dEq (mVar 0) (mVar 1) (mTup (mCons (mC (.str "null")) mNil)) (startE 2 ([(Bd.rng a b).d, (Bd.rng c d).d].map .sh)) () = some (false, ()) := ch.trans (by rw [show ((Bd.rng c d).tg == 1) = false from rfl, Bool.and_false])
      exact pre _ (re_nx (if_no t1) (re_nx (if_no ch) (re_nx (if_no t3) (re_ret (tup_e (cons_e rfl (cons_e (call_e (xs := [a.d, c.d, .bool false, .bool true]) (cons_e (op_e rfl rfl rfl) (cons_e (op_e rfl rfl rfl) (cons_e rfl (cons_e rfl nil_e)))) h1) (cons_e (call_e (xs := [b.d, d.d, .bool false, .bool false]) (cons_e (op_e rfl rfl rfl) (cons_e (op_e rfl rfl rfl) (cons_e rfl (cons_e rfl nil_e)))) h2) nil_e))))))))
end
/-! #### within -/
abbrev Va := Option Wv
def Va.d : Va → D
  | none => .none
  | some w => w.d
def VaK (k : Kd) : Va → Prop
  | none => True
  | some w => w.k = k
def inLo : En → Wv → Bool
  | none, _ => true
  | some (l, a), w => decide (l.r < w.r) || (decide (w.r = l.r) && a)
def inHi : En → Wv → Bool
  | none, _ => true
  | some (h, a), w => decide (w.r < h.r) || (decide (w.r = h.r) && a)
def inM : Bd → Va → Bool
  | .all, _ => true
  | .null, v => v.isNone
  | .never, _ => false
  | .rng _ _, none => false
  | .rng lo hi, some w => inLo lo w && inHi hi w
theorem va_none (v : Va) : isNone v.d = v.isNone := by cases v with | none => rfl | some w => exact w_none w
theorem not_empty_lo (lo : En) (w : Wv) : (!isEmp lo (some (w, true))) = inLo lo w := by
  rcases lo with _ | ⟨l, a⟩
  · rfl
  · show (!(decide (w.r < l.r) || (decide (l.r = w.r) && !(a && true)))) = (decide (l.r < w.r) || (decide (w.r = l.r) && a))
    rcases Int.lt_trichotomy w.r l.r with h | h | h
    · rw [decide_eq_true h, decide_eq_false (p := l.r < w.r) (by omega), decide_eq_false (p := w.r = l.r) (by omega)]; rfl
    · rw [decide_eq_false (p := w.r < l.r) (by omega), decide_eq_false (p := l.r < w.r) (by omega), decide_eq_true h, decide_eq_true h.symm]; cases a <;> rfl
    · rw [decide_eq_true h, decide_eq_false (p := w.r < l.r) (by omega), decide_eq_false (p := l.r = w.r) (by omega)]; rfl
theorem not_empty_hi (hi : En) (w : Wv) : (!isEmp (some (w, true)) hi) = inHi hi w := by
  rcases hi with _ | ⟨l, a⟩
  · rfl
  · show (!(decide (l.r < w.r) || (decide (w.r = l.r) && !(true && a)))) = (decide (w.r < l.r) || (decide (w.r = l.r) && a))
    rcases Int.lt_trichotomy w.r l.r with h | h | h
    · rw [decide_eq_true h, decide_eq_false (p := l.r < w.r) (by omega), decide_eq_false (p := w.r = l.r) (by omega)]; rfl
    · rw [decide_eq_false (p := w.r < l.r) (by omega), decide_eq_false (p := l.r < w.r) (by omega), decide_eq_true h]; cases a <;> rfl
    · rw [decide_eq_true h, decide_eq_false (p := w.r < l.r) (by omega), decide_eq_false (p := w.r = l.r) (by omega)]; rfl
theorem bool_or {G : Type} {env : Pd.Env} {g : G} {ma mb : ME G} {a b : Bool} (ha : ma env g = some (.bool a, g)) (hb : mb env g = some (.bool b, g)) : mBOr ma mb env g = some (.bool (a || b), g) := by
  unfold mBOr
  rw [ha]
  cases a with
  | true => rfl
  | false => exact hb
theorem bool_and {G : Type} {env : Pd.Env} {g : G} {ma mb : ME G} {a b : Bool} (ha : ma env g = some (.bool a, g)) (hb : mb env g = some (.bool b, g)) : mBAnd ma mb env g = some (.bool (a && b), g) := by
  unfold mBAnd
  rw [ha]
  cases a with
  | false => rfl
  | true => exact hb
theorem bool_not {G : Type} {env : Pd.Env} {g : G} {ma : ME G} {a : Bool} (ha : ma env g = some (.bool a, g)) : mBNot ma env g = some (.bool (!a), g) := by
  unfold mBNot
  rw [ha]
section
variable {k : Kd} {x : Bd} {v : Va}
theorem within_e (hx : BdK k x) (hv : VaK k v) : F_is_within [x.d, v.d] = some (.bool (inM x v)) := by
  have pre : ∀ b : Bool, Re (.bool b) m_is_within (startE 2 ([x.d, v.d].map .sh)) () → F_is_within [x.d, v.d] = some (.bool b) := fun d h => runP_Re (N := 2) (n := 2) (m := m_is_within) (ds := [x.d, v.d]) h
  have r1 : mBOr (mOp dEq (mVar 0) (mC (.tuple [(.str "all")]))) (mBAnd (mOp dEq (mVar 0) (mC (.tuple [(.str "null")]))) (mOp dIs (mVar 1) (mC .none))) (startE 2 ([x.d, v.d].map .sh)) () = some (.bool ((x.tg == 0) || ((x.tg == 1) && v.isNone)), ()) :=
    bool_or (op_e rfl rfl (eq_all x)) (bool_and (op_e rfl rfl (eq_null x)) (op_e rfl rfl (by show some (PyData.bool (isNone v.d)) = _; rw [va_none])))
  cases x with
  | all => exact pre _ (re_in (re_ift (opT_e (op_e rfl rfl rfl) rfl rfl) (re_ret r1)))
  | null => exact pre _ (re_in (re_ift (opT_e (op_e rfl rfl rfl) rfl rfl) (re_ret r1)))
  | never => exact pre _ (re_in (re_ift (opT_e (op_e rfl rfl rfl) rfl rfl) (re_ret r1)))
  | rng lo hi =>
    cases v with
    | none => exact pre _ (re_nx (if_no (opT_e (op_e rfl rfl rfl) rfl rfl)) (re_in (re_ift (opT_e rfl rfl rfl) (re_ret rfl))))
    | some w =>
      have i1 : mOpT dIs (mVar 1) (mC .none) (startE 2 ([(Bd.rng lo hi).d, Va.d (some w)].map .sh)) () = some (false, ()) := (is_e rfl).trans (by rw [va_none]; rfl)
      have h1 := empty_e (k := k) (x := lo) (y := some (w, true)) hx.1 hv
      have h2 := empty_e (k := k) (x := some (w, true)) (y := hi) hv hx.2
      refine pre _ (re_nx (if_no (opT_e (op_e rfl rfl rfl) rfl rfl)) (re_nx (if_no i1) (re_ret (g1 := ()) ?_)))
      refine (bool_and (bool_not (call_e (xs := [lo.d, En.d (some (w, true))]) (cons_e (op_e rfl rfl rfl) (cons_e (tup_e (cons_e rfl (cons_e rfl nil_e))) nil_e)) h1)) (bool_not (call_e (xs := [En.d (some (w, true)), hi.d]) (cons_e (tup_e (cons_e rfl (cons_e rfl nil_e))) (cons_e (op_e rfl rfl rfl) nil_e)) h2))).trans ?_
      rw [not_empty_lo, not_empty_hi]
      rfl
theorem lin_e (hx : BdK k x) (hv : VaK k v) : F__law_in [x.d, v.d] = some (.bool (inM x v)) := by
  have pre : ∀ b : Bool, Re (.bool b) m__law_in (startE 4 ([x.d, v.d].map .sh)) () → F__law_in [x.d, v.d] = some (.bool b) := fun d h => runP_Re (N := 4) (n := 2) (m := m__law_in) (ds := [x.d, v.d]) h
  have r1 : mBOr (mOp dEq (mVar 0) (mTup (mCons (mC (.str "all")) mNil))) (mBAnd (mOp dEq (mVar 0) (mTup (mCons (mC (.str "null")) mNil))) (mOp dIs (mVar 1) (mC .none))) (startE 4 ([x.d, v.d].map .sh)) () = some (.bool ((x.tg == 0) || ((x.tg == 1) && v.isNone)), ()) :=
    bool_or (op_e rfl (tup_e (cons_e rfl nil_e)) (eq_all x)) (bool_and (op_e rfl (tup_e (cons_e rfl nil_e)) (eq_null x)) (op_e rfl rfl (by show some (PyData.bool (isNone v.d)) = _; rw [va_none])))
  cases x with
  | all => exact pre _ (re_in (re_ift (opT_e (op_e rfl rfl rfl) rfl rfl) (re_ret r1)))
  | null => exact pre _ (re_in (re_ift (opT_e (op_e rfl rfl rfl) rfl rfl) (re_ret r1)))
  | never => exact pre _ (re_in (re_ift (opT_e (op_e rfl rfl rfl) rfl rfl) (re_ret r1)))
  | rng lo hi =>
    cases v with
    | none => exact pre _ (re_nx (if_no (opT_e (op_e rfl rfl rfl) rfl rfl)) (re_in (re_ift (opT_e rfl rfl rfl) (re_ret rfl))))
    | some w =>
      have i1 : mOpT dIs (mVar 1) (mC .none) (startE 4 ([(Bd.rng lo hi).d, Va.d (some w)].map .sh)) () = some (false, ()) := (is_e rfl).trans (by rw [va_none]; rfl)
      let E4 : Pd.Env := [.sh (Bd.rng lo hi).d, .sh w.d, .sh lo.d, .sh hi.d]
      refine pre _ (re_nx (if_no (opT_e (op_e rfl rfl rfl) rfl rfl)) (re_nx (if_no i1) (re_nx (par_e (x := lo.d) (y := hi.d) (cons_e (op_e rfl rfl rfl) (cons_e (op_e rfl rfl rfl) nil_e))) ?_)))
      show Re _ _ E4 ()
      have tlo : mAnd (mOpT dIsNot (mVar 2) (mC .none)) (mOr (mOpT dLt (mVar 1) (mOp dIx (mVar 2) (mC (.int 0)))) (mAnd (mOpT dEq (mVar 1) (mOp dIx (mVar 2) (mC (.int 0)))) (mNot (mTru (mOp dIx (mVar 2) (mC (.int 1))))))) E4 () = some (!inLo lo w, ()) := by
        have i2 : mOpT dIsNot (mVar 2) (mC .none) E4 () = some (!lo.isNone, ()) := (isNot_e rfl).trans (by rw [en_none])
        rcases hlo : lo with _ | ⟨l, a⟩
        · rw [hlo] at i2; exact and_f i2
        · rw [hlo] at i2
          have hk : w.k = l.k := Eq.trans hv (by have := hx.1; rw [hlo] at this; exact Eq.symm this)
          have g2 : ∀ (j : Int) (z : D), dIx (En.d (some (l, a))) (.int j) = some z → mOp dIx (mVar 2) (mC (.int j)) E4 () = some (z, ()) := fun j z hz => op_e (x := lo.d) rfl rfl (by rw [hlo]; exact hz)
          refine (and_t i2 (or_e (opT_e rfl (g2 0 l.d rfl) (w_lt hk)) (and_e (opT_e rfl (g2 0 l.d rfl) (w_eq hk)) (not_e (tru_e (g2 1 (.bool a) rfl) rfl))))).trans ?_
          show some (decide (w.r < l.r) || (decide (w.r = l.r) && !a), ()) = some (!(decide (l.r < w.r) || (decide (w.r = l.r) && a)), ())
          rcases Int.lt_trichotomy w.r l.r with h | h | h
          · rw [decide_eq_true h, decide_eq_false (p := l.r < w.r) (by omega), decide_eq_false (p := w.r = l.r) (by omega)]; rfl
          · rw [decide_eq_false (p := w.r < l.r) (by omega), decide_eq_false (p := l.r < w.r) (by omega), decide_eq_true h]; cases a <;> rfl
          · rw [decide_eq_true h, decide_eq_false (p := w.r < l.r) (by omega), decide_eq_false (p := w.r = l.r) (by omega)]; rfl
      have thi : mBOr (mOp dIs (mVar 3) (mC .none)) (mBOr (mOp dLt (mVar 1) (mOp dIx (mVar 3) (mC (.int 0)))) (mBAnd (mOp dEq (mVar 1) (mOp dIx (mVar 3) (mC (.int 0)))) (mOp dIx (mVar 3) (mC (.int 1))))) E4 () = some (.bool (inHi hi w), ()) := by
        have i3 : mOp dIs (mVar 3) (mC .none) E4 () = some (.bool hi.isNone, ()) := op_e rfl rfl (by show some (PyData.bool (isNone hi.d)) = _; rw [en_none])
        rcases hhi : hi with _ | ⟨l, a⟩
        · rw [hhi] at i3; unfold mBOr; rw [i3]; rfl
        · rw [hhi] at i3
          have hk : w.k = l.k := Eq.trans hv (by have := hx.2; rw [hhi] at this; exact Eq.symm this)
          have g3 : ∀ (j : Int) (z : D), dIx (En.d (some (l, a))) (.int j) = some z → mOp dIx (mVar 3) (mC (.int j)) E4 () = some (z, ()) := fun j z hz => op_e (x := hi.d) rfl rfl (by rw [hhi]; exact hz)
          exact (bool_or i3 (bool_or (op_e rfl (g3 0 l.d rfl) (w_lt hk)) (bool_and (op_e rfl (g3 0 l.d rfl) (w_eq hk)) (g3 1 (.bool a) rfl)))).trans rfl
      show Re (.bool (inLo lo w && inHi hi w)) _ E4 ()
      cases h : inLo lo w with
      | false => rw [h] at tlo; exact re_in (re_ift tlo (re_ret rfl))
      | true => rw [h] at tlo; exact re_nx (if_no tlo) (re_ret thi)
end
/-! #### what meet and join let through -/
theorem meet_in {k : Kd} {x y : Bd} {v : Va} (hx : BdK k x) (hy : BdK k y) : inM (meetM x y) v = (inM x v && inM y v) := by
  cases x with
  | never => cases y <;> rfl
  | all => cases y <;> (show inM _ v = (true && inM _ v)) <;> rw [Bool.true_and] <;> rfl
  | null => cases y <;> cases v <;> first | rfl | (simp [meetM, inM])
  | rng a b =>
    cases y with
    | never => cases v <;> simp [meetM, inM]
    | all => cases v <;> simp [meetM, inM]
    | null => cases v <;> simp [meetM, inM]
    | rng c d =>
      cases v with
      | none =>
        show inM (if _ then _ else _) none = (false && false)
        split <;> rfl
      | some w =>
        have hlo : inLo (hiE a c) w = (inLo a w && inLo c w) := by
          rcases a with _ | ⟨a, p⟩ <;> rcases c with _ | ⟨c, q⟩
          · rfl
          · rfl
          · show inLo (some (a, p)) w = (_ && true); rw [Bool.and_true]
          · rw [hiE_ss]
            by_cases h1 : a.r = c.r
            · rw [if_pos h1]
              cases p <;> cases q <;> simp [inLo, h1] <;> omega
            · rw [if_neg h1]
              by_cases h2 : c.r < a.r
              · rw [if_pos h2]
                rw [Bool.eq_iff_iff]
                simp only [inLo, Bool.and_eq_true, Bool.or_eq_true, decide_eq_true_eq]
                constructor
                · intro h; refine ⟨h, .inl ?_⟩; omega
                · exact fun h => h.1
              · rw [if_neg h2]
                rw [Bool.eq_iff_iff]
                simp only [inLo, Bool.and_eq_true, Bool.or_eq_true, decide_eq_true_eq]
                constructor
                · intro h; refine ⟨.inl ?_, h⟩; omega
                · exact fun h => h.2
        have hhi : inHi (loE b d) w = (inHi b w && inHi d w) := by
          rcases b with _ | ⟨a, p⟩ <;> rcases d with _ | ⟨c, q⟩
          · rfl
          · rfl
          · show inHi (some (a, p)) w = (_ && true); rw [Bool.and_true]
          · rw [loE_ss]
            by_cases h1 : a.r = c.r
            · rw [if_pos h1]
              cases p <;> cases q <;> simp [inHi, h1] <;> omega
            · rw [if_neg h1]
              by_cases h2 : a.r < c.r
              · rw [if_pos h2]
                rw [Bool.eq_iff_iff]
                simp only [inHi, Bool.and_eq_true, Bool.or_eq_true, decide_eq_true_eq]
                constructor
                · intro h; refine ⟨h, .inl ?_⟩; omega
                · exact fun h => h.1
              · rw [if_neg h2]
                rw [Bool.eq_iff_iff]
                simp only [inHi, Bool.and_eq_true, Bool.or_eq_true, decide_eq_true_eq]
                constructor
                · intro h; refine ⟨.inl ?_, h⟩; omega
                · exact fun h => h.2
        show inM (if isEmp (hiE a c) (loE b d) = true then .never else .rng (hiE a c) (loE b d)) (some w) = ((inLo a w && inHi b w) && (inLo c w && inHi d w))
        have hr : ((inLo a w && inHi b w) && (inLo c w && inHi d w)) = (inLo (hiE a c) w && inHi (loE b d) w) := by
          rw [hlo, hhi]
          cases inLo a w <;> cases inHi b w <;> cases inLo c w <;> cases inHi d w <;> rfl
        rw [hr]
        cases he : isEmp (hiE a c) (loE b d) with
        | false => rfl
        | true =>
          show false = _
          rcases hl : hiE a c with _ | ⟨l, p⟩
          · rw [hl] at he; cases he
          · rcases hh : loE b d with _ | ⟨u, q⟩
            · rw [hl, hh] at he; cases he
            · rw [hl, hh] at he
              have he : (decide (u.r < l.r) || (decide (l.r = u.r) && !(p && q))) = true := he
              symm
              rw [Bool.eq_false_iff]
              intro z
              simp only [inLo, inHi, Bool.and_eq_true, Bool.or_eq_true, decide_eq_true_eq] at z
              simp only [Bool.or_eq_true, Bool.and_eq_true, decide_eq_true_eq, Bool.not_eq_true', Bool.and_eq_false_iff] at he
              rcases he with he | ⟨he, hp | hp⟩
              · omega
              · rcases z.1 with h | ⟨_, h⟩
                · omega
                · rw [hp] at h; cases h
              · rcases z.2 with h | ⟨_, h⟩
                · omega
                · rw [hp] at h; cases h
theorem join_in {k : Kd} {x y : Bd} {v : Va} (hx : BdK k x) (hy : BdK k y) (h : inM x v = true ∨ inM y v = true) : inM (joinM x y) v = true := by
  cases x with
  | never => rcases h with h | h; cases h; exact h
  | all => cases y <;> rfl
  | null =>
    cases y with
    | never => rcases h with h | h; exact h; cases h
    | null => rcases h with h | h <;> exact h
    | _ => rfl
  | rng a b =>
    cases y with
    | never => rcases h with h | h; exact h; cases h
    | all => rfl
    | null => rfl
    | rng c d =>
      cases v with
      | none => rcases h with h | h <;> cases h
      | some w =>
        have h : (inLo a w = true ∧ inHi b w = true) ∨ (inLo c w = true ∧ inHi d w = true) := by
          rcases h with h | h
          · exact .inl (by simpa [inM] using h)
          · exact .inr (by simpa [inM] using h)
        show (inLo (wLo a c) w && inHi (wHi b d) w) = true
        rw [Bool.and_eq_true]
        constructor
        · have h : inLo a w = true ∨ inLo c w = true := by rcases h with h | h; exact .inl h.1; exact .inr h.1
          rcases a with _ | ⟨a, p⟩ <;> rcases c with _ | ⟨c, q⟩
          · rfl
          · rfl
          · rfl
          · rw [wLo_ss]
            simp only [inLo, Bool.and_eq_true, Bool.or_eq_true, decide_eq_true_eq] at h
            split
            · simp only [inLo, Bool.and_eq_true, Bool.or_eq_true, decide_eq_true_eq]
              rcases h with h | h <;> rcases h with h | ⟨h, h'⟩
              · exact .inl h
              · exact .inr ⟨h, .inl h'⟩
              · exact .inl (by omega)
              · exact .inr ⟨by omega, .inr h'⟩
            · split
              · simp only [inLo, Bool.and_eq_true, Bool.or_eq_true, decide_eq_true_eq]
                rcases h with h | h
                · exact .inl (by omega)
                · exact h
              · simp only [inLo, Bool.and_eq_true, Bool.or_eq_true, decide_eq_true_eq]
                rcases h with h | h
                · exact h
                · exact .inl (by omega)
        · have h : inHi b w = true ∨ inHi d w = true := by rcases h with h | h; exact .inl h.2; exact .inr h.2
          rcases b with _ | ⟨a, p⟩ <;> rcases d with _ | ⟨c, q⟩
          · rfl
          · rfl
          · rfl
          · rw [wHi_ss]
            simp only [inHi, Bool.and_eq_true, Bool.or_eq_true, decide_eq_true_eq] at h
            split
            · simp only [inHi, Bool.and_eq_true, Bool.or_eq_true, decide_eq_true_eq]
              rcases h with h | h <;> rcases h with h | ⟨h, h'⟩
              · exact .inl h
              · exact .inr ⟨h, .inl h'⟩
              · exact .inl (by omega)
              · exact .inr ⟨by omega, .inr h'⟩
            · split
              · simp only [inHi, Bool.and_eq_true, Bool.or_eq_true, decide_eq_true_eq]
                rcases h with h | h
                · exact .inl (by omega)
                · exact h
              · simp only [inHi, Bool.and_eq_true, Bool.or_eq_true, decide_eq_true_eq]
                rcases h with h | h
                · exact h
                · exact .inl (by omega)
end K32

namespace K32
open PySem Pd
theorem z2000 : 2000 ≤ sizeLine := by decide
theorem list_add {xs ys : List D} (h : xs.length + ys.length ≤ 1000) : dAdd (.list xs) (.list ys) = some (.list (xs ++ ys)) := by
  have := z2000
  exact if_pos (by omega)
theorem tup_add {xs ys : List D} (h : xs.length + ys.length ≤ 1000) : dAdd (.tuple xs) (.tuple ys) = some (.tuple (xs ++ ys)) := by
  have := z2000
  exact if_pos (by omega)
/-! #### data without doubt -/
def Ni (n : Nat) (d : D) : Prop := noDict d = true ∧ d.depth ≤ n
theorem Ni.ne {n : Nat} {d : D} (h : Ni n d) (hn : n ≤ 64) : dNe d d = some (.bool false) := ne_self h.1 (Nat.le_trans h.2 hn)
theorem Ni.eq {n : Nat} {d : D} (h : Ni n d) (hn : n ≤ 64) : dEq d d = some (.bool true) := eq_self h.1 (Nat.le_trans h.2 hn)
theorem Ni.mono {m n : Nat} {d : D} (h : Ni m d) (hn : m ≤ n) : Ni n d := ⟨h.1, Nat.le_trans h.2 hn⟩
theorem ni_tup {n : Nat} {xs : List D} (h : ∀ x ∈ xs, Ni n x) : Ni (n + 1) (.tuple xs) := ⟨by rw [noDict]; exact noDictA_of fun x hx => (h x hx).1, depth_tup fun x hx => (h x hx).2⟩
theorem ni_list {n : Nat} {xs : List D} (h : ∀ x ∈ xs, Ni n x) : Ni (n + 1) (.list xs) := ⟨by rw [noDict]; exact noDictA_of fun x hx => (h x hx).1, depth_list fun x hx => (h x hx).2⟩
theorem ni_scal {d : D} (h : scal0 d = true) : Ni 1 d := by cases d <;> first | exact ⟨rfl, Nat.le_of_ble_eq_true rfl⟩ | cases h
theorem ni2 {n : Nat} {a b : D} (ha : Ni n a) (hb : Ni n b) : Ni (n + 1) (.tuple [a, b]) := ni_tup fun x hx => by
  simp only [List.mem_cons, List.not_mem_nil, or_false] at hx
  rcases hx with rfl | rfl <;> assumption
theorem ni3 {n : Nat} {a b c : D} (ha : Ni n a) (hb : Ni n b) (hc : Ni n c) : Ni (n + 1) (.tuple [a, b, c]) := ni_tup fun x hx => by
  simp only [List.mem_cons, List.not_mem_nil, or_false] at hx
  rcases hx with rfl | rfl | rfl <;> assumption
def Nice : Ex → Prop
  | .val d => scal0 d = true
  | .cell _ _ => True
  | .nt a => Nice a
  | .nl a => Nice a
  | .am a vs => Nice a ∧ ∀ v ∈ vs, scal0 v = true
  | .bin _ a b => Nice a ∧ Nice b
theorem nice_ni : ∀ {e : Ex}, Nice e → Ni (e.h + 3) e.d
  | .val d, h => ((ni2 (ni_scal (d := .str "value") rfl) (ni_scal h)).mono (by show 2 ≤ 0 + 3; decide))
  | .cell i j, _ => ((ni3 (ni_scal (d := .str "cell") rfl) (ni_scal (d := .int _) rfl) (ni_scal (d := .int _) rfl)).mono (by show 2 ≤ 0 + 3; decide))
  | .nt a, h => (ni2 ((ni_scal (d := .str "not") rfl).mono (by omega)) (nice_ni (e := a) h)).mono (by show a.h + 3 + 1 ≤ a.h + 1 + 3; omega)
  | .nl a, h => (ni2 ((ni_scal (d := .str "null") rfl).mono (by omega)) (nice_ni (e := a) h)).mono (by show a.h + 3 + 1 ≤ a.h + 1 + 3; omega)
  | .am a vs, h => (ni3 ((ni_scal (d := .str "among") rfl).mono (by omega)) (nice_ni (e := a) h.1) ((ni_list (n := 1) fun v hv => ni_scal (h.2 v hv)).mono (by omega))).mono (by show a.h + 3 + 1 ≤ a.h + 1 + 3; omega)
  | .bin w a b, h => (ni3 (n := max a.h b.h + 3) ((ni_scal (d := .str w.s) rfl).mono (by omega)) ((nice_ni (e := a) h.1).mono (by omega)) ((nice_ni (e := b) h.2).mono (by omega))).mono (by show max a.h b.h + 3 + 1 ≤ max a.h b.h + 1 + 3; omega)
theorem WT.nice {k : Kd} {n : Nat} {e : Ex} (h : WT k n e) : Nice e := by
  induction h with
  | val h => exact (VB.of h 0).scal
  | cell _ => trivial
  | ar _ _ _ ia ib => exact ⟨ia, ib⟩
  | cmp _ _ _ ia ib => exact ⟨ia, ib⟩
  | lg _ _ _ ia ib => exact ⟨ia, ib⟩
  | nt _ ia => exact ia
  | nl _ ia => exact ia
  | am _ hv _ _ ia => exact ⟨ia, fun v h => (VB.of (hv v h) 0).scal⟩
theorem WT.dep {k : Kd} {n : Nat} {e : Ex} (h : WT k n e) (hh : e.h < 9) : e.d.depth ≤ 64 := Nat.le_trans (nice_ni h.nice).2 (by omega)
/-! #### strict cells -/
abbrev Pl := Nat × Nat
def pD (p : Pl) : D := .tuple [.int (p.1 : Int), .int (p.2 : Int)]
def Ex.st : Ex → List Pl
  | .cell i j => [(i, j)]
  | .bin w a b => if w.arith = true then a.st ++ b.st else []
  | _ => []
theorem st_len {k : Kd} {n : Nat} {e : Ex} (h : WT k n e) : e.st.length ≤ 2 ^ n := by
  have two : ∀ n, 1 ≤ 2 ^ n := fun n => Nat.one_le_two_pow
  induction h with
  | @val k n d _ => exact Nat.zero_le _
  | @cell k n i j _ => exact two n
  | @ar n w a b hw _ _ ia ib =>
    show (if w.arith = true then a.st ++ b.st else []).length ≤ _
    rw [if_pos hw, List.length_append, Nat.pow_succ]
    omega
  | @cmp k n w a b hw _ _ ia ib =>
    show (if w.arith = true then a.st ++ b.st else []).length ≤ _
    rw [if_neg (by cases w <;> first | (intro z; cases z; done) | cases hw)]
    exact Nat.zero_le _
  | @lg n w a b hw _ _ ia ib =>
    show (if w.arith = true then a.st ++ b.st else []).length ≤ _
    rw [if_neg (by cases w <;> first | (intro z; cases z; done) | cases hw)]
    exact Nat.zero_le _
  | _ => exact Nat.zero_le _
theorem st16 {k : Kd} {n : Nat} {e : Ex} (h : WT k n e) (hn : n ≤ 4) : e.st.length ≤ 16 := Nat.le_trans (st_len h) (Nat.pow_le_pow_right (by decide) hn)
theorem cut_d (e : Ex) (i j : Nat) (he : e = .cell i j) {G : Type} {env : Pd.Env} {g : G} {k : Nat} (h : env.at k = .sh e.d) : mSlT (mVar k) (mPart (mC (.int 1))) mNo env g = some (pD (i, j), g) := by
  subst he
  exact slT_e (g1 := g) (xs := [.str "cell", .int (i : Int), .int (j : Int)]) (lo := mPart (mC (.int 1))) (hi := mNo) (var_e h) (part_e rfl) rfl rfl
theorem word0 (e : Ex) {t : Str} {b : Bool} {G : Type} {env : Pd.Env} {g : G} {i : Nat} (he : env.at i = .sh e.d) (h : ∃ s, dIx e.d (.int 0) = some (.str s) ∧ dEq (.str s) (.str t) = some (.bool b)) : mOpT dEq (mOp dIx (mVar i) (mC (.int 0))) (mC (.str t)) env g = some (b, g) := by
  obtain ⟨s, h1, h2⟩ := h
  exact opT_e (op_e (var_e he) rfl h1) rfl h2
def Ex.isCl : Ex → Bool
  | .cell _ _ => true
  | _ => false
def Ex.isAr : Ex → Bool
  | .bin w _ _ => w.arith
  | _ => false
theorem w_cell (e : Ex) : ∃ s, dIx e.d (.int 0) = some (.str s) ∧ dEq (.str s) (.str "cell") = some (.bool e.isCl) := by
  cases e with
  | bin w a b => cases w <;> exact ⟨_, rfl, rfl⟩
  | _ => exact ⟨_, rfl, rfl⟩
theorem w_arT (e : Ex) : ∃ s, dIx e.d (.int 0) = some (.str s) ∧ dInF false (.str s) (.tuple [.str "plus", .str "minus", .str "times"]) = some (.bool e.isAr) := by
  cases e with
  | bin w a b => cases w <;> exact ⟨_, rfl, rfl⟩
  | _ => exact ⟨_, rfl, rfl⟩
theorem w_arL (e : Ex) : ∃ s, dIx e.d (.int 0) = some (.str s) ∧ dInF false (.str s) (.list [.str "plus", .str "minus", .str "times"]) = some (.bool e.isAr) := by
  cases e with
  | bin w a b => cases w <;> exact ⟨_, rfl, rfl⟩
  | _ => exact ⟨_, rfl, rfl⟩
theorem strict_e {k : Kd} {n : Nat} {e : Ex} (h : WT k n e) : ∀ m, e.h < m → n ≤ 4 → F_strict_cells m [e.d] = some (.list (e.st.map pD)) ∧ F__law_strict m [e.d] = some (.list (e.st.map pD)) := by
  have no : ∀ {e : Ex} (m : Nat), e.h < m → e.isCl = false → e.isAr = false → e.st = [] → F_strict_cells m [e.d] = some (.list (e.st.map pD)) ∧ F__law_strict m [e.d] = some (.list (e.st.map pD)) := fun {e} m hm h1 h2 h3 => by
    obtain ⟨m, rfl⟩ : ∃ j, m = j + 1 := ⟨m - 1, by omega⟩
    obtain ⟨s, s1, s2⟩ := w_cell e
    obtain ⟨t, t1, t2⟩ := w_arT e
    obtain ⟨u, u1, u2⟩ := w_arL e
    rw [h1] at s2; rw [h2] at t2 u2; rw [h3]
    exact ⟨runP_Rl (N := 1) (n := 1) (m := m_strict_cells (F_strict_cells m)) (ds := [e.d]) (xs := []) (rl_nx (if_no (word0 e rfl ⟨s, s1, s2⟩)) (rl_nx (if_no (opT_e (op_e rfl rfl t1) (tup_e (cons_e rfl (cons_e rfl (cons_e rfl nil_e)))) t2)) (rl_ret (lst_e nil_e)))),
      runP_Rl (N := 1) (n := 1) (m := m__law_strict (F__law_strict m)) (ds := [e.d]) (xs := []) (rl_nx (if_no (word0 e rfl ⟨s, s1, s2⟩)) (rl_nx (if_no (opT_e (op_e rfl rfl u1) (L_e (lst_e (cons_e rfl (cons_e rfl (cons_e rfl nil_e))))) u2)) (rl_ret (lst_e nil_e))))⟩
  induction h with
  | @cell k n i j h =>
    intro m hm _
    obtain ⟨m, rfl⟩ : ∃ j, m = j + 1 := ⟨m - 1, by omega⟩
    exact ⟨runP_Rl (N := 1) (n := 1) (m := m_strict_cells (F_strict_cells m)) (ds := [(Ex.cell i j).d]) (xs := [pD (i, j)]) (rl_in (rl_ift (word0 (.cell i j) rfl ⟨_, rfl, rfl⟩) (rl_ret (lst_e (cons_e (cut_d _ i j rfl rfl) nil_e))))),
      runP_Rl (N := 1) (n := 1) (m := m__law_strict (F__law_strict m)) (ds := [(Ex.cell i j).d]) (xs := [pD (i, j)]) (rl_in (rl_ift (word0 (.cell i j) rfl ⟨_, rfl, rfl⟩) (rl_ret (lst_e (cons_e (cut_d _ i j rfl rfl) nil_e)))))⟩
  | @ar n w a b hw ha hb ia ib =>
    intro m hm hn
    simp only [Ex.h] at hm
    obtain ⟨m, rfl⟩ : ∃ j, m = j + 1 := ⟨m - 1, by omega⟩
    obtain ⟨a1, a2⟩ := ia m (by omega) (by omega)
    obtain ⟨b1, b2⟩ := ib m (by omega) (by omega)
    have la := st16 ha (by omega)
    have lb := st16 hb (by omega)
    obtain ⟨s, s1, s2⟩ := w_cell (.bin w a b)
    obtain ⟨t, t1, t2⟩ := w_arT (.bin w a b)
    obtain ⟨u, u1, u2⟩ := w_arL (.bin w a b)
    have hw' : (Ex.bin w a b).isAr = true := hw
    rw [hw'] at t2 u2
    have hst : (Ex.bin w a b).st = a.st ++ b.st := if_pos hw
    have hadd : dAdd (.list (a.st.map pD)) (.list (b.st.map pD)) = some (.list ((Ex.bin w a b).st.map pD)) := by
      rw [list_add (by rw [List.length_map, List.length_map]; omega), hst, List.map_append]
    exact ⟨runP_Re (N := 1) (n := 1) (m := m_strict_cells (F_strict_cells m)) (ds := [_]) (re_nx (if_no (word0 _ rfl ⟨s, s1, s2⟩)) (re_in (re_ift (opT_e (op_e rfl rfl t1) (tup_e (cons_e rfl (cons_e rfl (cons_e rfl nil_e)))) t2) (re_ret (op_e (call_e (xs := [a.d]) (cons_e (op_e rfl rfl rfl) nil_e) a1) (call_e (xs := [b.d]) (cons_e (op_e rfl rfl rfl) nil_e) b1) hadd))))),
      runP_Re (N := 1) (n := 1) (m := m__law_strict (F__law_strict m)) (ds := [_]) (re_nx (if_no (word0 _ rfl ⟨s, s1, s2⟩)) (re_in (re_ift (opT_e (op_e rfl rfl u1) (L_e (lst_e (cons_e rfl (cons_e rfl (cons_e rfl nil_e))))) u2) (re_ret (op_e (call_e (xs := [a.d]) (cons_e (op_e rfl rfl rfl) nil_e) a2) (call_e (xs := [b.d]) (cons_e (op_e rfl rfl rfl) nil_e) b2) hadd)))))⟩
  | val h => exact fun m hm _ => no m hm rfl rfl rfl
  | nt _ _ => exact fun m hm _ => no m hm rfl rfl rfl
  | nl _ _ => exact fun m hm _ => no m hm rfl rfl rfl
  | am _ _ _ _ _ => exact fun m hm _ => no m hm rfl rfl rfl
  | @cmp k n w a b hw _ _ _ _ =>
    have : w.arith = false := by cases w <;> first | rfl | cases hw
    exact fun m hm _ => no m hm rfl this (if_neg (by rw [this]; decide))
  | @lg n w a b hw _ _ _ _ =>
    have : w.arith = false := by cases w <;> first | rfl | cases hw
    exact fun m hm _ => no m hm rfl this (if_neg (by rw [this]; decide))
/-! #### this cell -/
def Ex.here (p : Pl) : Ex → Bool
  | .cell i j => i == p.1 && j == p.2
  | _ => false
theorem here_add (p : Pl) : dAdd (.tuple [.str "cell"]) (pD p) = some (Ex.cell p.1 p.2).d := tup_add (by show 3 ≤ _; decide)
theorem ev_int (a b : Nat) : PyData.eqv (.int (a : Int)) (.int (b : Int)) = (a == b) := by
  have h := eq_int (a : Int) (b : Int)
  rw [eq_flat (Nat.le_of_ble_eq_true rfl) (Nat.le_of_ble_eq_true rfl)] at h
  injection h with h; injection h with h
  rw [h]
  by_cases e : a = b
  · subst e; simp
  · rw [beq_false_of_ne e, beq_false_of_ne (by omega)]
theorem ev_here (e : Ex) (p : Pl) : PyData.eqv e.d (Ex.cell p.1 p.2).d = e.here p := by
  cases e with
  | cell i j =>
    show PyData.eqv (.tuple [.str "cell", .int (i : Int), .int (j : Int)]) (.tuple [.str "cell", .int (p.1 : Int), .int (p.2 : Int)]) = (i == p.1 && j == p.2)
    rw [PyData.eqv, PyData.eqvAll, PyData.eqvAll, PyData.eqvAll, PyData.eqvAll, ev_int, ev_int, Bool.and_true]
    rfl
  | bin w a b => cases w <;> rfl
  | _ => rfl
theorem cell_dep (p : Pl) : (Ex.cell p.1 p.2).d.depth ≤ 64 := Nat.le_of_ble_eq_true rfl
theorem eq_here {e : Ex} (h : e.d.depth ≤ 64) (p : Pl) : dEq e.d (Ex.cell p.1 p.2).d = some (.bool (e.here p)) := by rw [eq_flat h (cell_dep p), ev_here]
theorem ev_pl (p q : Pl) : PyData.eqv (pD p) (pD q) = (p.1 == q.1 && p.2 == q.2) := by
  show PyData.eqv (.tuple [.int (p.1 : Int), .int (p.2 : Int)]) (.tuple [.int (q.1 : Int), .int (q.2 : Int)]) = _
  rw [PyData.eqv, PyData.eqvAll, PyData.eqvAll, PyData.eqvAll, ev_int, ev_int, Bool.and_true]
theorem eq_pl (p q : Pl) : dEq (pD p) (pD q) = some (.bool (p.1 == q.1 && p.2 == q.2)) := by rw [eq_flat (Nat.le_of_ble_eq_true rfl) (Nat.le_of_ble_eq_true rfl), ev_pl]
def inSt (p : Pl) (l : List Pl) : Bool := l.any fun q => q.1 == p.1 && q.2 == p.2
theorem inSt_app (p : Pl) (l m : List Pl) : inSt p (l ++ m) = (inSt p l || inSt p m) := List.any_append
theorem pls_dep (l : List Pl) : (PyData.list (l.map pD)).depth ≤ 64 := Nat.le_trans (depth_list (n := 2) fun x hx => by
  obtain ⟨q, _, rfl⟩ := List.mem_map.mp hx
  exact Nat.le_of_ble_eq_true rfl) (by decide)
theorem any_pl (p : Pl) (l : List Pl) : (l.map pD).any (fun z => PyData.eqv z (pD p)) = inSt p l := by
  rw [List.any_map]
  unfold inSt
  congr 1
  funext q
  exact ev_pl q p
theorem in_pl (p : Pl) (l : List Pl) : dInD false (pD p) (.list (l.map pD)) = some (.bool (inSt p l)) := by
  show (if _ then _ else _) = _
  rw [if_pos ⟨Nat.le_of_ble_eq_true rfl, pls_dep l⟩]
  exact congrArg (fun b => some (PyData.bool b)) (any_pl p l)
theorem notin_pl (p : Pl) (l : List Pl) : dInD true (pD p) (.list (l.map pD)) = some (.bool (!inSt p l)) := by
  show (if _ then _ else _) = _
  rw [if_pos ⟨Nat.le_of_ble_eq_true rfl, pls_dep l⟩]
  exact congrArg (fun b => some (PyData.bool (!b))) (any_pl p l)
end K32

namespace K32
open PySem Pd
/-! #### values of a list -/
def toW : D → Option Wv
  | .int n => some (.int n)
  | .bool b => some (.bool b)
  | .str s => if s = Tx.t0.s then some (.text .t0) else if s = Tx.t1.s then some (.text .t1) else if s = Tx.t2.s then some (.text .t2) else if s = Tx.t3.s then some (.text .t3) else if s = Tx.t4.s then some (.text .t4) else if s = Tx.t5.s then some (.text .t5) else none
  | _ => none
theorem vd_w {k : Kd} {d : D} (h : Vd k d) : (d = .none ∧ toW d = none) ∨ ∃ w, toW d = some w ∧ d = w.d ∧ w.k = k := by
  cases k with
  | int =>
    rcases h with rfl | ⟨i, rfl, _⟩
    · exact .inl ⟨rfl, rfl⟩
    · exact .inr ⟨.int i, rfl, rfl, rfl⟩
  | bool =>
    rcases h with rfl | ⟨b, rfl⟩
    · exact .inl ⟨rfl, rfl⟩
    · exact .inr ⟨.bool b, rfl, rfl, rfl⟩
  | text =>
    rcases h with rfl | ⟨s, hs, rfl⟩
    · exact .inl ⟨rfl, rfl⟩
    · simp only [List.mem_cons, List.not_mem_nil, or_false] at hs
      rcases hs with rfl | rfl | rfl | rfl | rfl | rfl
      · exact .inr ⟨.text .t0, rfl, rfl, rfl⟩
      · exact .inr ⟨.text .t1, rfl, rfl, rfl⟩
      · exact .inr ⟨.text .t3, rfl, rfl, rfl⟩
      · exact .inr ⟨.text .t2, rfl, rfl, rfl⟩
      · exact .inr ⟨.text .t4, rfl, rfl, rfl⟩
      · exact .inr ⟨.text .t5, rfl, rfl, rfl⟩
def wsOf (vs : List D) : List Wv := vs.filterMap toW
theorem ws_map {k : Kd} : ∀ {vs : List D}, (∀ v ∈ vs, Vd k v) → vs.filter (fun v => !isNone v) = (wsOf vs).map Wv.d ∧ ∀ w ∈ wsOf vs, w.k = k
  | [], _ => ⟨rfl, fun _ h => nomatch h⟩
  | v :: vs, h => by
    obtain ⟨h1, h2⟩ := ws_map (vs := vs) fun x hx => h x (List.mem_cons_of_mem _ hx)
    rcases vd_w (h v (List.mem_cons_self ..)) with ⟨rfl, e⟩ | ⟨w, e, rfl, hk⟩
    · have : wsOf (.none :: vs) = wsOf vs := List.filterMap_cons_none e
      rw [this, List.filter_cons_of_neg (by simp [isNone])]
      exact ⟨h1, h2⟩
    · have : wsOf (w.d :: vs) = w :: wsOf vs := List.filterMap_cons_some e
      rw [this, List.filter_cons_of_pos (by rw [w_none]; rfl), h1]
      refine ⟨rfl, fun x hx => ?_⟩
      rcases List.mem_cons.mp hx with rfl | hx
      · exact hk
      · exact h2 x hx
theorem w_alike {a b : Wv} (h : a.k = b.k) : PySem.W.alike a.d b.d = true := by
  cases a with
  | int i => cases b with
    | int j => rfl
    | _ => cases h
  | text i => cases b with
    | text j => rfl
    | _ => cases h
  | bool p => cases b with
    | bool q => rfl
    | _ => cases h
theorem w_dataLt {a b : Wv} (h : a.k = b.k) : PySem.W.dataLt a.d b.d = decide (a.r < b.r) := by
  have e := w_lt h
  unfold dLt at e
  rw [if_pos ⟨Nat.le_trans (w_depth a) (by decide), Nat.le_trans (w_depth b) (by decide), w_alike h, w_none a⟩] at e
  injection e with e
  injection e
def srt (ws : List Wv) : List Wv := ws.mergeSort fun a b => decide (a.r ≤ b.r)
theorem srt_mem {w : Wv} {ws : List Wv} : w ∈ srt ws ↔ w ∈ ws := (List.mergeSort_perm _ _).mem_iff
theorem srt_pw (ws : List Wv) : (srt ws).Pairwise fun a b => a.r ≤ b.r := by
  refine (List.pairwise_mergeSort (le := fun a b : Wv => decide (a.r ≤ b.r)) (fun a b c h1 h2 => ?_) (fun a b => ?_) ws).imp fun h => of_decide_eq_true h
  · have h1 := of_decide_eq_true h1
    have h2 := of_decide_eq_true h2
    exact decide_eq_true (by omega)
  · rw [Bool.or_eq_true, decide_eq_true_eq, decide_eq_true_eq]
    omega
theorem sorted_ws {k : Kd} {ws : List Wv} (h : ∀ w ∈ ws, w.k = k) : dSorted [.list (ws.map Wv.d)] = some ((srt ws).map Wv.d) := by
  unfold dSorted
  have h1 : alikeB (ws.map Wv.d) = true := List.all_eq_true.mpr fun d hd => List.all_eq_true.mpr fun d' hd' => by
    obtain ⟨a, ha, rfl⟩ := List.mem_map.mp hd
    obtain ⟨b, hb, rfl⟩ := List.mem_map.mp hd'
    exact w_alike ((h a ha).trans (h b hb).symm)
  have h2 : (ws.map Wv.d).all notTup = true := List.all_eq_true.mpr fun d hd => by
    obtain ⟨a, ha, rfl⟩ := List.mem_map.mp hd
    cases a <;> rfl
  have h3 : (ws.map Wv.d).all (fun d => decide (d.depth ≤ 60)) = true := List.all_eq_true.mpr fun d hd => by
    obtain ⟨a, ha, rfl⟩ := List.mem_map.mp hd
    exact decide_eq_true (Nat.le_trans (w_depth a) (by decide))
  show (if _ then _ else none) = _
  rw [if_pos ⟨h1, .inr h2, h3⟩]
  refine congrArg some (List.map_mergeSort (r := fun a b : Wv => decide (a.r ≤ b.r)) (s := PySem.W.dataLe false (id : D → D)) (f := Wv.d) (l := ws) fun a ha b hb => ?_).symm
  rw [PySem.W.dataLe_eq]
  show decide (a.r ≤ b.r) = !PySem.W.dataLt b.d a.d
  rw [w_dataLt ((h b hb).trans (h a ha).symm)]
  by_cases hab : a.r ≤ b.r
  · rw [decide_eq_true hab, decide_eq_false (by omega)]; rfl
  · rw [decide_eq_false hab, decide_eq_true (by omega)]; rfl
def ofV : List Wv → Bd
  | [] => .never
  | x :: r => .rng (some (x, true)) (some ((x :: r).getLast (List.cons_ne_nil x r), true))
theorem ofV_k {k : Kd} {ws : List Wv} (h : ∀ w ∈ ws, w.k = k) : BdK k (ofV (srt ws)) := by
  have h' : ∀ w ∈ srt ws, w.k = k := fun w hw => h w (srt_mem.mp hw)
  cases e : srt ws with
  | nil => trivial
  | cons x r =>
    rw [e] at h'
    exact ⟨h' _ (List.mem_cons_self ..), h' _ (List.getLast_mem _)⟩
theorem last_e (x : Wv) (r : List Wv) : dIx (.list ((x :: r).map Wv.d)) (.int (-1)) = some ((x :: r).getLast (List.cons_ne_nil x r)).d := by
  have e := List.dropLast_concat_getLast (List.cons_ne_nil x r)
  have : (x :: r).map Wv.d = (x :: r).dropLast.map Wv.d ++ [((x :: r).getLast (List.cons_ne_nil x r)).d] := by
    conv => lhs; rw [← e]
    rw [List.map_append]
    rfl
  rw [this]
  exact L2.atI_last _ _
theorem first_e (x : Wv) (r : List Wv) : dIx (.list ((x :: r).map Wv.d)) (.int 0) = some x.d := ix_nat (j := 0) rfl
theorem comp_nn {vs : List D} {G : Type} {env : Pd.Env} {g : G} {i : Nat} (hi : i < env.length) : compL (bName i) (mOpT dIsNot (mVar i) (mC .none)) (mVar i) env vs g = some (vs.filter (fun v => !isNone v), g) := by
  have hc : compL (bName i) (mOpT dIsNot (mVar i) (mC .none)) (mVar i) env (vs.map id) g = some ((vs.filter fun v => !isNone v).map id, g) :=
    compL_filter id id (fun v => !isNone v) fun v _ => ⟨_, rfl, isNot_e (var_e (by rw [at_set, if_pos ⟨rfl, hi⟩] <;> rfl)), var_e (by rw [at_set, if_pos ⟨rfl, hi⟩] <;> rfl)⟩
  rw [List.map_id, List.map_id] at hc
  exact hc
theorem of_values_e {k : Kd} {vs : List D} (h : ∀ v ∈ vs, Vd k v) : F_of_values [.list vs] = some (ofV (srt (wsOf vs))).d := by
  obtain ⟨h1, h2⟩ := ws_map h
  have hs := sorted_ws h2
  rw [← h1] at hs
  refine runP_Re (N := 3) (n := 1) (m := m_of_values) (ds := [.list vs]) (re_nx (set_e (d := .list ((srt (wsOf vs)).map Wv.d)) (L_e (callF_e (xs := [.list (vs.filter fun v => !isNone v)]) (cons_e (L_e (comp_e (itL_e rfl) rfl (comp_nn (by show 2 < 3; decide)))) nil_e) hs))) (re_ret (g1 := ()) ?_))
  cases e : srt (wsOf vs) with
  | nil => exact mif_t (opT_e (call_e (cons_e rfl nil_e) rfl) rfl (eq_it rfl)) rfl
  | cons x r => exact mif_f (opT_e (call_e (xs := [.list ((x :: r).map Wv.d)]) (cons_e rfl nil_e) rfl) rfl (eq_if (by rw [List.length_map]; show ((r.length + 1 : Nat) : Int) ≠ 0; omega))) (tup_e (cons_e rfl (cons_e (tup_e (cons_e (op_e rfl rfl (first_e x r)) (cons_e rfl nil_e))) (cons_e (tup_e (cons_e (op_e rfl (un_e (x := .int 1) (z := .int (-1)) rfl rfl) (last_e x r)) (cons_e rfl nil_e))) nil_e))))
/-! #### the model -/
abbrev known : Bd := .rng none none
def besM (w : W2) (v : Wv) (wn first : Bool) : Bd := match w with
  | .same => if wn = true then .rng (some (v, true)) (some (v, true)) else known
  | _ => if first = wn then (if first = true then .rng none (some (v, !wn)) else .rng none (some (v, true))) else .rng (some (v, first)) none
theorem beside_e (w : W2) (hw : w.cmp = true) (v : Wv) (wn first : Bool) : F_beside [.str w.s, v.d, .bool wn, .bool first] = some (besM w v wn first).d := by
  cases w <;> first | (cases wn <;> cases first <;> rfl) | cases hw
def Ex.isNo : Ex → Bool
  | .val d => isNone d
  | _ => false
def Ex.isVal : Ex → Bool
  | .val _ => true
  | _ => false
def Ex.cv : Ex → Option Wv
  | .val d => toW d
  | _ => none
abbrev noD : D := .tuple [.str "value", .none]
theorem ev_no (e : Ex) : PyData.eqv e.d noD = e.isNo := by
  cases e with
  | val d =>
    show PyData.eqv (.tuple [.str "value", d]) (.tuple [.str "value", .none]) = _
    rw [PyData.eqv, PyData.eqvAll, PyData.eqvAll, PyData.eqvAll, eqv_none, Bool.and_true]
    rfl
  | bin w a b => cases w <;> rfl
  | _ => rfl
theorem w_value (e : Ex) : ∃ s, dIx e.d (.int 0) = some (.str s) ∧ dEq (.str s) (.str "value") = some (.bool e.isVal) := by
  cases e with
  | bin w a b => cases w <;> exact ⟨_, rfl, rfl⟩
  | _ => exact ⟨_, rfl, rfl⟩
theorem isVal_e {G : Type} {env : Pd.Env} {g : G} {i : Nat} (e : Ex) (h : env.at i = .sh e.d) : mOpT dEq (mOp dIx (mVar i) (mC (.int 0))) (mC (.str "value")) env g = some (e.isVal, g) := word0 e h (w_value e)
def cmpM (c : Pl) (w : W2) (a b : Ex) (wn : Bool) : Bd :=
  if (a.isNo || b.isNo) = true then .never else
  if (a.here c && b.isVal) = true then (match b.cv with | some v => besM w v wn true | none => .all) else
  if (b.here c && a.isVal) = true then (match a.cv with | some v => besM w v wn false | none => .all) else
  if inSt c (a.st ++ b.st) = true then known else .all
theorem cv_of {k : Kd} {n : Nat} {e : Ex} (h : WT k n e) (h1 : e.isVal = true) (h2 : e.isNo = false) : ∃ v, e.cv = some v ∧ e.d = .tuple [.str "value", v.d] ∧ v.k = k := by
  cases h with
  | @val _ _ d h =>
    rcases vd_w h with ⟨rfl, _⟩ | ⟨w, e, rfl, hk⟩
    · cases h2
    · exact ⟨w, e, rfl, hk⟩
  | _ => cases h1
theorem in_two {t : D} (ht : t.depth ≤ 64) {x y : D} (hx : x.depth ≤ 63) (hy : y.depth ≤ 63) : dInD false t (.tuple [x, y]) = some (.bool (PyData.eqv x t || PyData.eqv y t)) := by
  show (if _ then _ else _) = _
  rw [if_pos ⟨rfl, ht, depth_list (n := 63) fun z hz => by
    simp only [List.mem_cons, List.not_mem_nil, or_false] at hz
    rcases hz with rfl | rfl <;> assumption⟩]
  show some (PyData.bool (PyData.eqv x t || (PyData.eqv y t || false))) = _
  rw [Bool.or_false]
theorem WT.dep63 {k : Kd} {n : Nat} {e : Ex} (h : WT k n e) (hh : e.h < 9) : e.d.depth ≤ 63 := Nat.le_trans (nice_ni h.nice).2 (by omega)
theorem compared_e {k : Kd} {n : Nat} {w : W2} {a b : Ex} (hw : w.cmp = true) (ha : WT k n a) (hb : WT k n b) (hn : n ≤ 4) (h1 : a.h < 9) (h2 : b.h < 9) (c : Pl) (wn : Bool) : F_compared [(Ex.bin w a b).d, pD c, .bool wn] = some (cmpM c w a b wn).d := by
  let E6 : Pd.Env := [.sh (Ex.bin w a b).d, .sh (pD c), .sh (.bool wn), .sh (.str w.s), .sh a.d, .sh b.d]
  refine runP_Re (N := 6) (n := 3) (m := m_compared) (ds := [(Ex.bin w a b).d, pD c, .bool wn]) (re_nx (e1 := E6) (asg_e (d := (Ex.bin w a b).d) rfl rfl) ?_)
  have t1 : mOpT (dInD false) (mTup (mCons (mC (.str "value")) (mCons (mC .none) mNil))) (mTup (mCons (mVar 4) (mCons (mVar 5) mNil))) E6 () = some (a.isNo || b.isNo, ()) := opT_e (tup_e (cons_e rfl (cons_e rfl nil_e))) (tup_e (cons_e rfl (cons_e rfl nil_e))) (by rw [in_two (Nat.le_of_ble_eq_true rfl) (ha.dep63 h1) (hb.dep63 h2), ev_no, ev_no])
  have t2 := and_e (opT_e (ma := mVar 4) (mb := mOp dAdd (mTup (mCons (mC (.str "cell")) mNil)) (mVar 1)) (env := E6) (g := ()) rfl (op_e (tup_e (cons_e rfl nil_e)) rfl (here_add c)) (eq_here (ha.dep h1) c)) (isVal_e (i := 5) b rfl)
  have t3 := and_e (opT_e (ma := mVar 5) (mb := mOp dAdd (mTup (mCons (mC (.str "cell")) mNil)) (mVar 1)) (env := E6) (g := ()) rfl (op_e (tup_e (cons_e rfl nil_e)) rfl (here_add c)) (eq_here (hb.dep h2) c)) (isVal_e (i := 4) a rfl)
  have sa := (strict_e ha 9 h1 hn).1
  have sb := (strict_e hb 9 h2 hn).1
  have la := st16 ha hn
  have lb := st16 hb hn
  have hadd : dAdd (.list (a.st.map pD)) (.list (b.st.map pD)) = some (.list ((a.st ++ b.st).map pD)) := by
    rw [list_add (by rw [List.length_map, List.length_map]; omega), List.map_append]
  have t4 : mOpT (dInD false) (mVar 1) (mOp dAdd (mCall (F_strict_cells 9) (mCons (mVar 4) mNil)) (mCall (F_strict_cells 9) (mCons (mVar 5) mNil))) E6 () = some (inSt c (a.st ++ b.st), ()) := opT_e rfl (op_e (call_e (xs := [a.d]) (cons_e rfl nil_e) sa) (call_e (xs := [b.d]) (cons_e rfl nil_e) sb) hadd) (in_pl c _)
  unfold cmpM
  cases x1 : (a.isNo || b.isNo) with
  | true => rw [x1] at t1; rw [if_pos rfl]; exact re_in (re_ift t1 (re_ret rfl))
  | false =>
    obtain ⟨na, nb⟩ := Bool.or_eq_false_iff.mp x1
    rw [x1] at t1; rw [if_neg (by simp)]
    refine re_nx (if_no t1) ?_
    cases x2 : (a.here c && b.isVal) with
    | true =>
      rw [x2] at t2; rw [if_pos rfl]
      obtain ⟨v, e1, e2, _⟩ := cv_of hb (Bool.and_eq_true_iff.mp x2).2 nb
      rw [e1]
      refine re_in (re_ift t2 (re_ret (call_e (xs := [.str w.s, v.d, .bool wn, .bool true]) (cons_e rfl (cons_e (op_e (x := b.d) rfl rfl (by rw [e2]; rfl)) (cons_e rfl (cons_e rfl nil_e)))) (beside_e w hw v wn true))))
    | false =>
      rw [x2] at t2; rw [if_neg (by simp)]
      refine re_nx (if_no t2) ?_
      cases x3 : (b.here c && a.isVal) with
      | true =>
        rw [x3] at t3; rw [if_pos rfl]
        obtain ⟨v, e1, e2, _⟩ := cv_of ha (Bool.and_eq_true_iff.mp x3).2 na
        rw [e1]
        refine re_in (re_ift t3 (re_ret (call_e (xs := [.str w.s, v.d, .bool wn, .bool false]) (cons_e rfl (cons_e (op_e (x := a.d) rfl rfl (by rw [e2]; rfl)) (cons_e rfl (cons_e rfl nil_e)))) (beside_e w hw v wn false))))
      | false =>
        rw [x3] at t3; rw [if_neg (by simp)]
        refine re_nx (if_no t3) (re_ret (g1 := ()) ?_)
        cases x4 : inSt c (a.st ++ b.st) with
        | true => rw [x4] at t4; exact mif_t t4 rfl
        | false => rw [x4] at t4; exact mif_f t4 rfl
def amM (c : Pl) (a : Ex) (vs : List D) (wn : Bool) : Bd :=
  if (!wn && vs.any isNone) = true then .never else
  if a.here c = true then (if wn = true then ofV (srt (wsOf vs)) else known) else
  if (wn && (wsOf vs).isEmpty) = true then .never else
  if inSt c a.st = true then known else .all
theorem in_none {vs : List D} {k : Kd} (h : ∀ v ∈ vs, Vd k v) : dInF false .none (.list vs) = some (.bool (vs.any isNone)) := by
  show (if _ then _ else none) = _
  rw [if_pos ⟨rfl, List.all_eq_true.mpr fun v hv => (h v hv).flat⟩]
  have : (fun e => PyData.eqv e .none) = isNone := funext eqv_none
  rw [this]
  rfl
theorem ofV_tg (ws : List Wv) : ((ofV (srt ws)).tg == 2) = ws.isEmpty := by
  have hl : (srt ws).length = ws.length := (List.mergeSort_perm _ _).length_eq
  cases ws with
  | nil => show ((ofV (srt [])).tg == 2) = true; rw [show srt [] = [] from List.mergeSort_nil]; rfl
  | cons x r =>
    cases e : srt (x :: r) with
    | nil => rw [e] at hl; cases hl
    | cons y s => rfl
theorem listed_e {k : Kd} {n : Nat} {a : Ex} {vs : List D} (ha : WT k n a) (hv : ∀ v ∈ vs, Vd k v) (hn : n ≤ 4) (h1 : a.h < 9) (c : Pl) (wn : Bool) : F_listed [(Ex.am a vs).d, pD c, .bool wn] = some (amM c a vs wn).d := by
  let E3 : Pd.Env := [.sh (Ex.am a vs).d, .sh (pD c), .sh (.bool wn)]
  refine runP_Re (N := 3) (n := 3) (m := m_listed) (ds := [(Ex.am a vs).d, pD c, .bool wn]) ?_
  show Re _ _ E3 ()
  have hof := of_values_e hv
  have t1 := and_e (not_e (tru_e (ma := mVar 2) (env := E3) (g := ()) (x := .bool wn) (b := wn) rfl rfl)) (opT_e (f := dInF false) (ma := mC .none) (mb := mOp dIx (mVar 0) (mC (.int 2))) (env := E3) (g := ()) (y := .list vs) rfl (op_e rfl rfl rfl) (in_none hv))
  have t2 := opT_e (ma := mOp dIx (mVar 0) (mC (.int 1))) (mb := mOp dAdd (mTup (mCons (mC (.str "cell")) mNil)) (mVar 1)) (env := E3) (g := ()) (x := a.d) (op_e rfl rfl rfl) (op_e (tup_e (cons_e rfl nil_e)) rfl (here_add c)) (eq_here (ha.dep h1) c)
  have t3 := and_e (tru_e (ma := mVar 2) (env := E3) (g := ()) (x := .bool wn) (b := wn) rfl rfl) (opT_e (ma := mCall F_of_values (mCons (mOp dIx (mVar 0) (mC (.int 2))) mNil)) (mb := mC (.tuple [(.str "never")])) (env := E3) (g := ()) (call_e (xs := [.list vs]) (cons_e (op_e rfl rfl rfl) nil_e) hof) rfl (eq_never _))
  rw [ofV_tg] at t3
  have t4 := opT_e (f := dInD false) (ma := mVar 1) (mb := mCall (F_strict_cells 9) (mCons (mOp dIx (mVar 0) (mC (.int 1))) mNil)) (env := E3) (g := ()) rfl (call_e (xs := [a.d]) (cons_e (op_e rfl rfl rfl) nil_e) (strict_e ha 9 h1 hn).1) (in_pl c a.st)
  unfold amM
  cases x1 : (!wn && vs.any isNone) with
  | true => rw [x1] at t1; rw [if_pos rfl]; exact re_in (re_ift t1 (re_ret rfl))
  | false =>
    rw [x1] at t1; rw [if_neg (by simp)]
    refine re_nx (if_no t1) ?_
    cases x2 : a.here c with
    | true =>
      rw [x2] at t2; rw [if_pos rfl]
      refine re_in (re_ift t2 (re_ret (g1 := ()) ?_))
      cases wn with
      | true => exact mif_t (tru_e (x := .bool true) rfl rfl) (call_e (xs := [.list vs]) (cons_e (op_e rfl rfl rfl) nil_e) hof)
      | false => exact mif_f (tru_e (x := .bool false) rfl rfl) rfl
    | false =>
      rw [x2] at t2; rw [if_neg (by simp)]
      refine re_nx (if_no t2) ?_
      cases x3 : (wn && (wsOf vs).isEmpty) with
      | true => rw [x3] at t3; rw [if_pos rfl]; exact re_in (re_ift t3 (re_ret rfl))
      | false =>
        rw [x3] at t3; rw [if_neg (by simp)]
        refine re_nx (if_no t3) (re_ret (g1 := ()) ?_)
        cases x4 : inSt c a.st with
        | true => rw [x4] at t4; exact mif_t t4 rfl
        | false => rw [x4] at t4; exact mif_f t4 rfl
end K32

namespace K32
open PySem Pd
def bm (c : Pl) : Ex → Bool → Bd
  | .val d, wn => if isBd wn d = true then .all else .never
  | .cell i j, wn => if (i == c.1 && j == c.2) = true then .rng (some (.bool wn, true)) (some (.bool wn, true)) else .all
  | .nt a, wn => bm c a (!wn)
  | .nl a, wn => if a.here c = true then (if wn = true then .null else known) else if (wn || !inSt c a.st) = true then .all else known
  | .am a vs, wn => amM c a vs wn
  | .bin .and a b, wn => if wn = true then meetM (bm c a wn) (bm c b wn) else joinM (bm c a wn) (bm c b wn)
  | .bin .or a b, wn => if wn = true then joinM (bm c a wn) (bm c b wn) else meetM (bm c a wn) (bm c b wn)
  | .bin w a b, wn => cmpM c w a b wn
theorem bm_cmp {w : W2} (hw : w.cmp = true) (c : Pl) (a b : Ex) (wn : Bool) : bm c (.bin w a b) wn = cmpM c w a b wn := by cases w <;> first | rfl | cases hw
theorem eq_bb (a b : Bool) : dEq (.bool a) (.bool b) = some (.bool (a == b)) := by cases a <;> cases b <;> rfl
theorem eq_b3 {d : D} (h : Vd .bool d) (wn : Bool) : dEq d (.bool wn) = some (.bool (isBd wn d)) := by
  rcases h with rfl | ⟨b, rfl⟩
  · rfl
  · cases b <;> cases wn <;> rfl
theorem cell_kind {i j : Nat} {k k' : Kd} (h : (i, j, k) ∈ cellsL) (h' : (i, j, k') ∈ cellsL) : k = k' := by
  simp only [cellsL, List.mem_cons, Prod.mk.injEq, List.not_mem_nil, or_false] at h h'
  rcases h with ⟨_, h, rfl⟩ | ⟨_, h, rfl⟩ | ⟨_, h, rfl⟩ <;> rcases h' with ⟨_, h', rfl⟩ | ⟨_, h', rfl⟩ | ⟨_, h', rfl⟩ <;> first | rfl | omega
theorem here_k {k : Kd} {n : Nat} {e : Ex} (h : WT k n e) {c : Pl} (hh : e.here c = true) : (c.1, c.2, k) ∈ cellsL := by
  cases h with
  | @cell _ _ i j h =>
    have hh : (i == c.1 && j == c.2) = true := hh
    rw [Bool.and_eq_true, beq_iff_eq, beq_iff_eq] at hh
    rw [← hh.1, ← hh.2]
    exact h
  | _ => cases hh
theorem bes_k {k : Kd} {v : Wv} (h : v.k = k) (w : W2) (wn first : Bool) : BdK k (besM w v wn first) := by
  cases w <;> cases wn <;> cases first <;> first | exact ⟨trivial, trivial⟩ | exact ⟨h, h⟩ | exact ⟨trivial, h⟩ | exact ⟨h, trivial⟩
theorem bm_k {kc : Kd} {c : Pl} (hc : (c.1, c.2, kc) ∈ cellsL) {k : Kd} {n : Nat} {e : Ex} (h : WT k n e) : k = .bool → ∀ wn, BdK kc (bm c e wn) := by
  have kn : BdK kc known := ⟨trivial, trivial⟩
  induction h with
  | @val k n d h => intro _ wn; show BdK kc (if _ then _ else _); split <;> trivial
  | @cell k n i j h =>
    intro hk wn
    subst hk
    show BdK kc (if _ then _ else _)
    split
    · rename_i hh
      rw [Bool.and_eq_true, beq_iff_eq, beq_iff_eq] at hh
      have h : (c.1, c.2, Kd.bool) ∈ cellsL := by rw [← hh.1, ← hh.2]; exact h
      have : Kd.bool = kc := cell_kind h hc
      exact ⟨this, this⟩
    · trivial
  | ar _ _ _ _ _ => intro hk; cases hk
  | @cmp k n w a b hw ha hb _ _ =>
    intro _ wn
    rw [bm_cmp hw]
    unfold cmpM
    split
    · trivial
    · rename_i hno
      obtain ⟨na, nb⟩ := Bool.or_eq_false_iff.mp (Bool.eq_false_iff.mpr hno)
      split
      · rename_i h
        obtain ⟨h1, h2⟩ := Bool.and_eq_true_iff.mp h
        obtain ⟨v, e1, _, hk⟩ := cv_of hb h2 nb
        rw [e1]
        exact bes_k (hk.trans (cell_kind (here_k ha h1) hc)) _ _ _
      · split
        · rename_i h
          obtain ⟨h1, h2⟩ := Bool.and_eq_true_iff.mp h
          obtain ⟨v, e1, _, hk⟩ := cv_of ha h2 na
          rw [e1]
          exact bes_k (hk.trans (cell_kind (here_k hb h1) hc)) _ _ _
        · split
          · exact kn
          · trivial
  | @lg n w a b hw ha hb ia ib =>
    intro _ wn
    have ia := ia rfl wn
    have ib := ib rfl wn
    cases w with
    | and => show BdK kc (if _ then _ else _); split; exact meet_k ia ib; exact join_k ia ib
    | or => show BdK kc (if _ then _ else _); split; exact join_k ia ib; exact meet_k ia ib
    | _ => cases hw
  | @nt n a ha ia => intro _ wn; exact ia rfl (!wn)
  | @nl k n a ha ia =>
    intro _ wn
    show BdK kc (if _ then _ else _)
    split
    · split
      · trivial
      · exact kn
    · split
      · trivial
      · exact kn
  | @am k n a vs ha hv h1 h3 ia =>
    intro _ wn
    show BdK kc (amM c a vs wn)
    unfold amM
    split
    · trivial
    · split
      · rename_i hh
        split
        · refine ofV_k ?_
          have := (ws_map hv).2
          rwa [cell_kind (here_k ha hh) hc] at this
        · exact kn
      · split
        · trivial
        · split
          · exact kn
          · trivial
theorem here_in {e : Ex} {c : Pl} (h : e.here c = true) : inSt c e.st = true := by
  cases e with
  | cell i j =>
    have h : (i == c.1 && j == c.2) = true := h
    show ((i == c.1 && j == c.2) || false) = true
    rw [h]; rfl
  | _ => cases h
/-! #### bounds_of -/
theorem w_word (e : Ex) (t : Str) (b : Bool) {G : Type} {env : Pd.Env} {g : G} {s : Str} (h : env.at 3 = .sh (.str s)) (hs : dEq (.str s) (.str t) = some (.bool b)) : mOpT dEq (mVar 3) (mC (.str t)) env g = some (b, g) := word_t h hs
abbrev BE (t c w x y z : SV) : Pd.Env := [t, c, w, x, y, z]
theorem bounds_e {kc : Kd} {c : Pl} (hc : (c.1, c.2, kc) ∈ cellsL) {k : Kd} {n : Nat} {e : Ex} (h : WT k n e) : k = .bool → ∀ m wn, e.h < m → e.h < 9 → n ≤ 4 → F_bounds_of m [e.d, pD c, .bool wn] = some (bm c e wn).d := by
  have pre : ∀ {m : Nat} {e : Ex} {d : D} {wn : Bool}, Re d (m_bounds_of (F_bounds_of m)) (startE 6 ([e.d, pD c, .bool wn].map .sh)) () → F_bounds_of (m + 1) [e.d, pD c, .bool wn] = some d := fun {m e d wn} h => runP_Re (N := 6) (n := 3) (m := m_bounds_of (F_bounds_of m)) (ds := [e.d, pD c, .bool wn]) h
  induction h with
  | @val k n d h =>
    intro hk m wn hm _ _
    subst hk
    obtain ⟨m, rfl⟩ : ∃ j, m = j + 1 := ⟨m - 1, by omega⟩
    refine pre (re_nx (set_e (op_e rfl rfl rfl)) (re_in (re_ift (word_t rfl rfl) (re_ret (g1 := ()) ?_))))
    have t := opT_e (ma := mOp dIx (mVar 0) (mC (.int 1))) (mb := mVar 2) (env := BE (.sh (Ex.val d).d) (.sh (pD c)) (.sh (.bool wn)) (.sh (.str "value")) .un .un) (g := ()) (x := d) (op_e rfl rfl rfl) rfl (eq_b3 h wn)
    show _ = some (Bd.d (if isBd wn d = true then .all else .never), ())
    cases hb : isBd wn d with
    | true => rw [hb] at t; exact mif_t t rfl
    | false => rw [hb] at t; exact mif_f t rfl
  | @cell k n i j h =>
    intro hk m wn hm _ _
    obtain ⟨m, rfl⟩ : ∃ j, m = j + 1 := ⟨m - 1, by omega⟩
    refine pre (re_nx (set_e (op_e rfl rfl rfl)) (re_nx (if_no (word_t rfl rfl)) (re_nx (if_no (word_t rfl rfl)) (re_in (re_ift (word_t rfl rfl) (re_ret (g1 := ()) ?_))))))
    have t := opT_e (mb := mVar 1) (env := BE (.sh (Ex.cell i j).d) (.sh (pD c)) (.sh (.bool wn)) (.sh (.str "cell")) .un .un) (g := ()) (cut_d (.cell i j) i j rfl (k := 0) rfl) rfl (eq_pl (i, j) c)
    show _ = some (Bd.d (if (i == c.1 && j == c.2) = true then .rng (some (.bool wn, true)) (some (.bool wn, true)) else .all), ())
    cases hb : (i == c.1 && j == c.2) with
    | true => rw [hb] at t; exact mif_t t (tup_e (cons_e rfl (cons_e (tup_e (cons_e rfl (cons_e rfl nil_e))) (cons_e (tup_e (cons_e rfl (cons_e rfl nil_e))) nil_e))))
    | false => rw [hb] at t; exact mif_f t rfl
  | ar _ _ _ _ _ => intro hk; cases hk
  | @cmp k n w a b hw ha hb _ _ =>
    intro _ m wn hm h9 hn
    simp only [Ex.h] at hm h9
    obtain ⟨m, rfl⟩ : ∃ j, m = j + 1 := ⟨m - 1, by omega⟩
    rw [bm_cmp hw]
    have hcmp := compared_e hw ha hb (by omega) (by omega) (by omega) c wn
    have hin : dInF false (.str w.s) (.tuple [.str "and", .str "or"]) = some (.bool false) := by cases w <;> first | rfl | cases hw
    refine pre (re_nx (set_e (op_e rfl rfl rfl)) (re_nx (if_no (word_t rfl ?_)) (re_nx (if_no (word_t rfl ?_)) (re_nx (if_no (word_t rfl ?_)) (re_nx (if_no (word_t rfl ?_)) (re_nx (if_no (opT_e rfl (tup_e (cons_e rfl (cons_e rfl nil_e))) hin)) (re_nx (if_no (word_t rfl ?_)) (re_nx (if_no (word_t rfl ?_)) (re_ret (call_e (xs := [(Ex.bin w a b).d, pD c, .bool wn]) (cons_e rfl (cons_e rfl (cons_e rfl nil_e))) hcmp))))))))))
    all_goals (cases w <;> first | rfl | cases hw)
  | @lg n w a b hw ha hb ia ib =>
    intro _ m wn hm h9 hn
    simp only [Ex.h] at hm h9
    obtain ⟨m, rfl⟩ : ∃ j, m = j + 1 := ⟨m - 1, by omega⟩
    have ia := ia rfl m wn (by omega) (by omega) hn
    have ib := ib rfl m wn (by omega) (by omega) hn
    have ka := bm_k hc ha rfl wn
    have kb := bm_k hc hb rfl wn
    have hin : dInF false (.str w.s) (.tuple [.str "and", .str "or"]) = some (.bool true) := by cases w <;> first | rfl | cases hw
    refine pre (re_nx (set_e (op_e rfl rfl rfl)) (re_nx (if_no (word_t rfl ?_)) (re_nx (if_no (word_t rfl ?_)) (re_nx (if_no (word_t rfl ?_)) (re_nx (if_no (word_t rfl ?_)) (re_in (re_ift (opT_e rfl (tup_e (cons_e rfl (cons_e rfl nil_e))) hin) (re_nx (par_e (x := (bm c a wn).d) (y := (bm c b wn).d) (cons_e (call_e (xs := [a.d, pD c, .bool wn]) (cons_e (op_e rfl rfl rfl) (cons_e rfl (cons_e rfl nil_e))) ia) (cons_e (call_e (xs := [b.d, pD c, .bool wn]) (cons_e (op_e rfl rfl rfl) (cons_e rfl (cons_e rfl nil_e))) ib) nil_e))) (re_ret (g1 := ()) ?_)))))))))
    · cases w <;> first | rfl | cases hw
    · cases w <;> first | rfl | cases hw
    · cases w <;> first | rfl | cases hw
    · cases w <;> first | rfl | cases hw
    · show mIf _ _ _ (BE (.sh (Ex.bin w a b).d) (.sh (pD c)) (.sh (.bool wn)) (.sh (.str w.s)) (.sh (bm c a wn).d) (.sh (bm c b wn).d)) () = _
      have hm : mCall F_meet (mCons (mVar 4) (mCons (mVar 5) mNil)) (BE (.sh (Ex.bin w a b).d) (.sh (pD c)) (.sh (.bool wn)) (.sh (.str w.s)) (.sh (bm c a wn).d) (.sh (bm c b wn).d)) () = some ((meetM (bm c a wn) (bm c b wn)).d, ()) := call_e (xs := [(bm c a wn).d, (bm c b wn).d]) (cons_e rfl (cons_e rfl nil_e)) (meet_e ka kb)
      have hj : mCall F_join (mCons (mVar 4) (mCons (mVar 5) mNil)) (BE (.sh (Ex.bin w a b).d) (.sh (pD c)) (.sh (.bool wn)) (.sh (.str w.s)) (.sh (bm c a wn).d) (.sh (bm c b wn).d)) () = some ((joinM (bm c a wn) (bm c b wn)).d, ()) := call_e (xs := [(bm c a wn).d, (bm c b wn).d]) (cons_e rfl (cons_e rfl nil_e)) (join_e ka kb)
      cases w with
      | and =>
        show _ = some (Bd.d (if wn = true then _ else _), ())
        cases wn with
        | true => exact mif_t (opT_e (x := .bool true) (op_e rfl rfl rfl) rfl rfl) hm
        | false => exact mif_f (opT_e (x := .bool true) (op_e rfl rfl rfl) rfl rfl) hj
      | or =>
        show _ = some (Bd.d (if wn = true then _ else _), ())
        cases wn with
        | true => exact mif_f (opT_e (x := .bool false) (op_e rfl rfl rfl) rfl rfl) hj
        | false => exact mif_t (opT_e (x := .bool false) (op_e rfl rfl rfl) rfl rfl) hm
      | _ => cases hw
  | @nt n a ha ia =>
    intro _ m wn hm h9 hn
    simp only [Ex.h] at hm h9
    obtain ⟨m, rfl⟩ : ∃ j, m = j + 1 := ⟨m - 1, by omega⟩
    exact pre (re_nx (set_e (op_e rfl rfl rfl)) (re_nx (if_no (word_t rfl rfl)) (re_nx (if_no (word_t rfl rfl)) (re_nx (if_no (word_t rfl rfl)) (re_in (re_ift (word_t rfl rfl) (re_ret (call_e (xs := [a.d, pD c, .bool !wn]) (cons_e (op_e rfl rfl rfl) (cons_e rfl (cons_e (bool_not rfl) nil_e))) (ia rfl m (!wn) (by omega) (by omega) hn)))))))))
  | @nl k n a ha ia =>
    intro _ m wn hm h9 hn
    simp only [Ex.h] at hm h9
    obtain ⟨m, rfl⟩ : ∃ j, m = j + 1 := ⟨m - 1, by omega⟩
    refine pre (re_nx (set_e (op_e rfl rfl rfl)) (re_nx (if_no (word_t rfl rfl)) (re_nx (if_no (word_t rfl rfl)) (re_nx (if_no (word_t rfl rfl)) (re_nx (if_no (word_t rfl rfl)) (re_nx (if_no (opT_e rfl (tup_e (cons_e rfl (cons_e rfl nil_e))) rfl)) (re_in (re_ift (word_t rfl rfl) ?_))))))))
    let E6 : Pd.Env := BE (.sh (Ex.nl a).d) (.sh (pD c)) (.sh (.bool wn)) (.sh (.str "null")) .un .un
    show Re _ _ E6 ()
    have t1 := opT_e (ma := mOp dIx (mVar 0) (mC (.int 1))) (mb := mOp dAdd (mTup (mCons (mC (.str "cell")) mNil)) (mVar 1)) (env := E6) (g := ()) (x := a.d) (op_e rfl rfl rfl) (op_e (tup_e (cons_e rfl nil_e)) rfl (here_add c)) (eq_here (ha.dep (by omega)) c)
    have t2 := opT_e (f := dInD true) (ma := mVar 1) (mb := mCall (F_strict_cells 9) (mCons (mOp dIx (mVar 0) (mC (.int 1))) mNil)) (env := E6) (g := ()) rfl (call_e (xs := [a.d]) (cons_e (op_e rfl rfl rfl) nil_e) (strict_e ha 9 (by omega) (by omega)).1) (notin_pl c a.st)
    have t3 := or_e (tru_e (ma := mVar 2) (env := E6) (g := ()) (x := .bool wn) (b := wn) rfl rfl) t2
    show Re (Bd.d (if a.here c = true then (if wn = true then .null else known) else if (wn || !inSt c a.st) = true then .all else known)) _ E6 ()
    cases hh : a.here c with
    | true =>
      rw [hh] at t1; rw [if_pos rfl]
      refine re_in (re_ift t1 (re_ret (g1 := ()) ?_))
      cases wn with
      | true => exact mif_t (tru_e (x := .bool true) rfl rfl) rfl
      | false => exact mif_f (tru_e (x := .bool false) rfl rfl) rfl
    | false =>
      rw [hh] at t1; rw [if_neg (by simp)]
      refine re_nx (if_no t1) (re_ret (g1 := ()) ?_)
      cases ho : (wn || !inSt c a.st) with
      | true => rw [ho] at t3; exact mif_t t3 rfl
      | false => rw [ho] at t3; exact mif_f t3 rfl
  | @am k n a vs ha hv h1 h3 ia =>
    intro _ m wn hm h9 hn
    simp only [Ex.h] at hm h9
    obtain ⟨m, rfl⟩ : ∃ j, m = j + 1 := ⟨m - 1, by omega⟩
    have hl := listed_e ha hv (by omega) (by omega) c wn
    exact pre (re_nx (set_e (op_e rfl rfl rfl)) (re_nx (if_no (word_t rfl rfl)) (re_nx (if_no (word_t rfl rfl)) (re_nx (if_no (word_t rfl rfl)) (re_nx (if_no (word_t rfl rfl)) (re_nx (if_no (opT_e rfl (tup_e (cons_e rfl (cons_e rfl nil_e))) rfl)) (re_nx (if_no (word_t rfl rfl)) (re_in (re_ift (word_t rfl rfl) (re_ret (call_e (xs := [(Ex.am a vs).d, pD c, .bool wn]) (cons_e rfl (cons_e rfl (cons_e rfl nil_e))) hl)))))))))))
end K32

namespace K32
open PySem Pd
abbrev knD : D := .tuple [.str "range", .none, .none]
abbrev LB (t : D) (c : Pl) (wn : Bool) (s : Str) (two part vals v p : SV) : Pd.Env := [.sh t, .sh (pD c), .sh (.bool wn), .sh (.str s), .sh knD, .sh (Ex.cell c.1 c.2).d, two, part, vals, v, p]
section
variable {F : List D → Option D} {c : Pl} {wn : Bool} {w : W2} {a b : Ex} {v p : SV}
theorem body_no {first : Bool} (h : ((if first = true then a else b).here c && (if first = true then b else a).isVal) = false) (da : a.d.depth ≤ 64) (db : b.d.depth ≤ 64) :
    lb__law_bounds_1 F (LB (Ex.bin w a b).d c wn w.s .un .un .un v (.sh (.int (if first = true then 1 else 2)))) () = some (.nx, LB (Ex.bin w a b).d c wn w.s .un .un .un v (.sh (.int (if first = true then 1 else 2))), ()) := by
  obtain ⟨s, s1, s2⟩ := w_value (if first = true then b else a)
  cases first with
  | true =>
    refine if_no ((and_e (opT_e (x := a.d) (op_e rfl rfl rfl) rfl (eq_here da c)) (opT_e (x := .str s) (op_e (x := b.d) (op_e rfl (op_e rfl rfl rfl) rfl) rfl s1) rfl s2)).trans (congrArg (fun z => some (z, ())) h))
  | false =>
    refine if_no ((and_e (opT_e (x := b.d) (op_e rfl rfl rfl) rfl (eq_here db c)) (opT_e (x := .str s) (op_e (x := a.d) (op_e rfl (op_e rfl rfl rfl) rfl) rfl s1) rfl s2)).trans (congrArg (fun z => some (z, ())) h))
theorem body_yes {first : Bool} {x : Wv} (hw : w.cmp = true) (h : ((if first = true then a else b).here c && (if first = true then b else a).isVal) = true) (hx : (if first = true then b else a).d = .tuple [.str "value", x.d]) (da : a.d.depth ≤ 64) (db : b.d.depth ≤ 64) :
    Re (besM w x wn first).d (lb__law_bounds_1 F) (LB (Ex.bin w a b).d c wn w.s .un .un .un v (.sh (.int (if first = true then 1 else 2)))) () := by
  obtain ⟨s, s1, s2⟩ := w_value (if first = true then b else a)
  have go : ∀ {p : Int} {v : SV}, p = (if first = true then 1 else 2) → Re (besM w x wn first).d (mSeq (mIfS (mOpT dEq (mVar 3) (mC (.str "same")))
    (mRet (mOp dIx (mL (mLst (mCons (mVar 4) (mCons (mTup (mCons (mC (.str "range")) (mCons (mTup (mCons (mVar 9) (mCons (mC (.bool true)) mNil))) (mCons (mTup (mCons (mVar 9) (mCons (mC (.bool true)) mNil))) mNil)))) mNil)))) (mCall dInt (mCons (mVar 2) mNil))))
    mSkip)
    (mSeq (mIfS (mOpT dEq (mOp dEq (mVar 10) (mC (.int 1))) (mVar 2))
    (mRet (mTup (mCons (mC (.str "range")) (mCons (mC .none) (mCons (mTup (mCons (mVar 9) (mCons (mBOr (mOp dEq (mVar 10) (mC (.int 2))) (mBNot (mVar 2))) mNil))) mNil)))))
    mSkip)
    (mRet (mTup (mCons (mC (.str "range")) (mCons (mTup (mCons (mVar 9) (mCons (mOp dEq (mVar 10) (mC (.int 1))) mNil))) (mCons (mC .none) mNil))))))) (LB (Ex.bin w a b).d c wn w.s .un .un .un (.sh x.d) (.sh (.int p))) () := by
    rintro p v rfl
    have three : ∀ {y z u : D}, mTup (mCons (mC y) (mCons (mC z) (mCons (mC u) mNil))) (LB (Ex.bin w a b).d c wn w.s .un .un .un (.sh x.d) (.sh (.int (if first = true then 1 else 2)))) () = some (.tuple [y, z, u], ()) := tup_e (cons_e rfl (cons_e rfl (cons_e rfl nil_e)))
    cases w with
    | same =>
      refine re_in (re_ift (word_t rfl rfl) (re_ret (op_e (L_e (lst_e (cons_e rfl (cons_e (tup_e (cons_e rfl (cons_e (tup_e (cons_e rfl (cons_e rfl nil_e))) (cons_e (tup_e (cons_e rfl (cons_e rfl nil_e))) nil_e)))) nil_e)))) (call_e (xs := [.bool wn]) (cons_e rfl nil_e) rfl) ?_)))
      cases wn <;> rfl
    | less =>
      refine re_nx (if_no (word_t rfl rfl)) ?_
      cases first <;> cases wn
      · exact re_in (re_ift (opT_e (x := .bool false) (op_e rfl rfl rfl) rfl rfl) (re_ret (tup_e (cons_e rfl (cons_e rfl (cons_e (tup_e (cons_e rfl (cons_e rfl nil_e))) nil_e))))))
      · exact re_nx (if_no (opT_e (x := .bool false) (op_e rfl rfl rfl) rfl rfl)) (re_ret (tup_e (cons_e rfl (cons_e (tup_e (cons_e rfl (cons_e (op_e rfl rfl rfl) nil_e))) (cons_e rfl nil_e)))))
      · exact re_nx (if_no (opT_e (x := .bool true) (op_e rfl rfl rfl) rfl rfl)) (re_ret (tup_e (cons_e rfl (cons_e (tup_e (cons_e rfl (cons_e (op_e rfl rfl rfl) nil_e))) (cons_e rfl nil_e)))))
      · exact re_in (re_ift (opT_e (x := .bool true) (op_e rfl rfl rfl) rfl rfl) (re_ret (tup_e (cons_e rfl (cons_e rfl (cons_e (tup_e (cons_e rfl (cons_e rfl nil_e))) nil_e))))))
    | _ => cases hw
  cases first with
  | true =>
    have h : (a.here c && b.isVal) = true := h
    refine re_ift ((and_e (opT_e (x := a.d) (op_e rfl rfl rfl) rfl (eq_here da c)) (opT_e (x := .str s) (op_e (x := b.d) (op_e rfl (op_e rfl rfl rfl) rfl) rfl s1) rfl s2)).trans (congrArg (fun z => some (z, ())) h)) (re_nx (set_e (d := x.d) (op_e (x := b.d) (op_e rfl (op_e rfl rfl rfl) rfl) rfl ?_)) (go (v := v) rfl))
    rw [show b.d = _ from hx]; rfl
  | false =>
    have h : (b.here c && a.isVal) = true := h
    refine re_ift ((and_e (opT_e (x := b.d) (op_e rfl rfl rfl) rfl (eq_here db c)) (opT_e (x := .str s) (op_e (x := a.d) (op_e rfl (op_e rfl rfl rfl) rfl) rfl s1) rfl s2)).trans (congrArg (fun z => some (z, ())) h)) (re_nx (set_e (d := x.d) (op_e (x := a.d) (op_e rfl (op_e rfl rfl rfl) rfl) rfl ?_)) (go (v := v) rfl))
    rw [show a.d = _ from hx]; rfl
end
theorem two_ix {x y : D} (b : Bool) : ∃ z, dInt [.bool b] = some z ∧ dIx (.list [x, y]) z = some (if b = true then y else x) := by
  cases b
  · exact ⟨.int 0, rfl, ix_nat (j := 0) rfl⟩
  · exact ⟨.int 1, rfl, ix_nat (j := 1) rfl⟩
theorem pick2 {G : Type} {env : Pd.Env} {g g1 g2 : G} {ml : ME G} {mb : ME G} {x y : D} {b : Bool} (h1 : ml env g = some (.list [x, y], g1)) (h2 : mb env g1 = some (.bool b, g2)) : mOp dIx ml (mCall dInt (mCons mb mNil)) env g = some (if b = true then y else x, g2) := by
  obtain ⟨z, e1, e2⟩ := two_ix (x := x) (y := y) b
  exact op_e h1 (call_e (xs := [.bool b]) (cons_e h2 nil_e) e1) e2
theorem slice2 {w : W2} {a b : Ex} {env : Pd.Env} (h : env.at 0 = .sh (Ex.bin w a b).d) : mSlT (mVar 0) (mPart (mC (.int 1))) mNo env () = some (.tuple [a.d, b.d], ()) :=
  slT_e (g1 := ()) (xs := [.str w.s, a.d, b.d]) (lo := mPart (mC (.int 1))) (hi := mNo) (var_e h) (part_e rfl) rfl rfl
theorem lbounds_e {kc : Kd} {c : Pl} (hc : (c.1, c.2, kc) ∈ cellsL) {k : Kd} {n : Nat} {e : Ex} (h : WT k n e) : k = .bool → ∀ m wn, e.h < m → e.h < 9 → n ≤ 4 → F__law_bounds m [e.d, pD c, .bool wn] = some (bm c e wn).d := by
  have pre : ∀ {m : Nat} {e : Ex} {s : Str} {d : D} {wn : Bool} {r : MS Unit}, dIx e.d (.int 0) = some (.str s) → m__law_bounds (F__law_bounds m) = (mSeq (mSet 3 (mOp dIx (mVar 0) (mC (.int 0)))) (mSeq (mSet 4 (mTup (mCons (mC (.str "range")) (mCons (mC .none) (mCons (mC .none) mNil))))) (mSeq (mSet 5 (mOp dAdd (mTup (mCons (mC (.str "cell")) mNil)) (mVar 1))) r))) → Re d r (LB e.d c wn s .un .un .un .un .un) () → F__law_bounds (m + 1) [e.d, pD c, .bool wn] = some d := fun {m e s d wn r} hs hm h => by
    refine runP_Re (N := 11) (n := 3) (m := m__law_bounds (F__law_bounds m)) (ds := [e.d, pD c, .bool wn]) ?_
    rw [hm]
    exact re_nx (set_e (op_e rfl rfl hs)) (re_nx (set_e (d := knD) (tup_e (cons_e rfl (cons_e rfl (cons_e rfl nil_e))))) (re_nx (set_e (d := (Ex.cell c.1 c.2).d) (op_e (tup_e (cons_e rfl nil_e)) rfl (here_add c))) h))
  have aL : ∀ {env : Pd.Env} {s t : Str}, mL (mLst (mCons (mTup (mCons (mC (.str s)) mNil)) (mCons (mTup (mCons (mC (.str t)) mNil)) mNil))) env () = some (.list [.tuple [.str s], .tuple [.str t]], ()) := L_e (lst_e (cons_e (tup_e (cons_e rfl nil_e)) (cons_e (tup_e (cons_e rfl nil_e)) nil_e)))
  have kL : ∀ {env : Pd.Env}, env.at 4 = .sh knD → mL (mLst (mCons (mTup (mCons (mC (.str "all")) mNil)) (mCons (mVar 4) mNil))) env () = some (.list [.tuple [.str "all"], knD], ()) := fun h => L_e (lst_e (cons_e (tup_e (cons_e rfl nil_e)) (cons_e (var_e h) nil_e)))
  have noD : ∀ {s t : Str} {e : Ex} {wn : Bool} {x : ME Unit}, dEq (.str s) (.str t) = some (.bool false) → mIfS (mOpT dEq (mVar 3) (mC (.str t))) (mRet x) mSkip (LB e.d c wn s .un .un .un .un .un) () = some (.nx, LB e.d c wn s .un .un .un .un .un, ()) := fun h => if_no (word_t rfl h)
  induction h with
  | @val k n d h =>
    intro hk m wn hm _ _
    subst hk
    obtain ⟨m, rfl⟩ : ∃ j, m = j + 1 := ⟨m - 1, by omega⟩
    refine pre rfl rfl (re_in (re_ift (word_t rfl rfl) (re_ret (g1 := ()) ((pick2 (b := !isNone d && isBd wn d) aL (bool_and (op_e (x := d) (op_e rfl rfl rfl) rfl rfl) (op_e (x := d) (op_e rfl rfl rfl) rfl (eq_b3 h wn)))).trans ?_))))
    show _ = some (Bd.d (if isBd wn d = true then .all else .never), ())
    rcases h with rfl | ⟨b, rfl⟩
    · rfl
    · cases b <;> cases wn <;> rfl
  | @cell k n i j h =>
    intro hk m wn hm _ _
    obtain ⟨m, rfl⟩ : ∃ j, m = j + 1 := ⟨m - 1, by omega⟩
    refine pre rfl rfl (re_nx (noD rfl) (re_in (re_ift (word_t rfl rfl) (re_ret (g1 := ()) ((pick2 (b := (Ex.cell i j).here c) (L_e (lst_e (cons_e (tup_e (cons_e rfl nil_e)) (cons_e (tup_e (cons_e rfl (cons_e (tup_e (cons_e rfl (cons_e rfl nil_e))) (cons_e (tup_e (cons_e rfl (cons_e rfl nil_e))) nil_e)))) nil_e)))) (op_e rfl rfl (eq_here (Nat.le_of_ble_eq_true rfl) c))).trans ?_)))))
    show _ = some (Bd.d (if (i == c.1 && j == c.2) = true then .rng (some (.bool wn, true)) (some (.bool wn, true)) else .all), ())
    show some (if (i == c.1 && j == c.2) = true then _ else _, ()) = _
    cases hb : (i == c.1 && j == c.2) <;> rfl
  | ar _ _ _ _ _ => intro hk; cases hk
  | @cmp k n w a b hw ha hb _ _ =>
    intro _ m wn hm h9 hn
    simp only [Ex.h] at hm h9
    obtain ⟨m, rfl⟩ : ∃ j, m = j + 1 := ⟨m - 1, by omega⟩
    rw [bm_cmp hw]
    have da := ha.dep (by omega)
    have db := hb.dep (by omega)
    have hin : dInF false (.str w.s) (.list [.str "and", .str "or"]) = some (.bool false) := by cases w <;> first | rfl | cases hw
    refine pre (s := w.s) rfl rfl (re_nx (noD ?_) (re_nx (noD ?_) (re_nx (noD ?_) (re_nx (if_no (opT_e rfl (L_e (lst_e (cons_e rfl (cons_e rfl nil_e)))) hin)) (re_nx (if_no (word_t rfl ?_)) (re_nx (if_no (word_t rfl ?_)) ?_))))))
    · cases w <;> first | rfl | cases hw
    · cases w <;> first | rfl | cases hw
    · cases w <;> first | rfl | cases hw
    · cases w <;> first | rfl | cases hw
    · cases w <;> first | rfl | cases hw
    have t1 : mOpT (dInD false) (mTup (mCons (mC (.str "value")) (mCons (mC .none) mNil))) (mSlT (mVar 0) (mPart (mC (.int 1))) mNo) (LB (Ex.bin w a b).d c wn w.s .un .un .un .un .un) () = some (a.isNo || b.isNo, ()) := opT_e (tup_e (cons_e rfl (cons_e rfl nil_e))) (slice2 rfl) (by rw [in_two (Nat.le_of_ble_eq_true rfl) (ha.dep63 (by omega)) (hb.dep63 (by omega)), ev_no, ev_no])
    unfold cmpM
    cases x1 : (a.isNo || b.isNo) with
    | true => rw [x1] at t1; rw [if_pos rfl]; exact re_in (re_ift t1 (re_ret (tup_e (cons_e rfl nil_e))))
    | false =>
      obtain ⟨na, nb⟩ := Bool.or_eq_false_iff.mp x1
      rw [x1] at t1; rw [if_neg (by simp)]
      refine re_nx (if_no t1) ?_
      have it : mItL (mL (mLst (mCons (mC (.int 1)) (mCons (mC (.int 2)) mNil)))) (LB (Ex.bin w a b).d c wn w.s .un .un .un .un .un) () = some ([.int 1, .int 2], ()) := itL_e (L_e (lst_e (cons_e rfl (cons_e rfl nil_e))))
      cases x2 : (a.here c && b.isVal) with
      | true =>
        rw [if_pos rfl]
        obtain ⟨v, e1, e2, _⟩ := cv_of hb (Bool.and_eq_true_iff.mp x2).2 nb
        rw [e1]
        obtain ⟨e3, u, h3⟩ := body_yes (F := F__law_bounds m) (c := c) (wn := wn) (v := .un) (first := true) hw x2 e2 da db
        exact re_in ⟨_, _, for_e it (loop_re (e1 := LB (Ex.bin w a b).d c wn w.s .un .un .un .un (.sh (.int 1))) rfl h3)⟩
      | false =>
        rw [if_neg (by simp)]
        have n1 := body_no (F := F__law_bounds m) (w := w) (c := c) (wn := wn) (v := .un) (first := true) x2 da db
        cases x3 : (b.here c && a.isVal) with
        | true =>
          rw [if_pos rfl]
          obtain ⟨v, e1, e2, _⟩ := cv_of ha (Bool.and_eq_true_iff.mp x3).2 na
          rw [e1]
          obtain ⟨e3, u, h3⟩ := body_yes (F := F__law_bounds m) (c := c) (wn := wn) (v := .un) (first := false) hw x3 e2 da db
          exact re_in ⟨_, _, for_e it (loop_nx (e1 := LB (Ex.bin w a b).d c wn w.s .un .un .un .un (.sh (.int 1))) rfl n1 (loop_re (e1 := LB (Ex.bin w a b).d c wn w.s .un .un .un .un (.sh (.int 2))) rfl h3))⟩
        | false =>
          rw [if_neg (by simp)]
          have n2 := body_no (F := F__law_bounds m) (w := w) (c := c) (wn := wn) (v := .un) (first := false) x3 da db
          refine re_nx (for_e it (loop_nx (e1 := LB (Ex.bin w a b).d c wn w.s .un .un .un .un (.sh (.int 1))) rfl n1 (loop_nx (e1 := LB (Ex.bin w a b).d c wn w.s .un .un .un .un (.sh (.int 2))) rfl n2 loop_nil))) (re_ret (g1 := ()) ?_)
          have la := st16 ha (by omega)
          have lb := st16 hb (by omega)
          have hadd : dAdd (.list (a.st.map pD)) (.list (b.st.map pD)) = some (.list ((a.st ++ b.st).map pD)) := by
            rw [list_add (by rw [List.length_map, List.length_map]; omega), List.map_append]
          refine (pick2 (b := inSt c (a.st ++ b.st)) (kL rfl) (op_e rfl (op_e (call_e (xs := [a.d]) (cons_e (op_e rfl rfl rfl) nil_e) (strict_e ha 9 (by omega) (by omega)).2) (call_e (xs := [b.d]) (cons_e (op_e rfl rfl rfl) nil_e) (strict_e hb 9 (by omega) (by omega)).2) hadd) (in_pl c _))).trans ?_
          cases inSt c (a.st ++ b.st) <;> rfl
  | @lg n w a b hw ha hb ia ib =>
    intro _ m wn hm h9 hn
    simp only [Ex.h] at hm h9
    obtain ⟨m, rfl⟩ : ∃ j, m = j + 1 := ⟨m - 1, by omega⟩
    have ia := ia rfl m wn (by omega) (by omega) hn
    have ib := ib rfl m wn (by omega) (by omega) hn
    have ka := bm_k hc ha rfl wn
    have kb := bm_k hc hb rfl wn
    have hin : dInF false (.str w.s) (.list [.str "and", .str "or"]) = some (.bool true) := by cases w <;> first | rfl | cases hw
    have hcl : compL (bName 7) mYes (mCall (F__law_bounds m) (mCons (mVar 7) (mCons (mVar 1) (mCons (mVar 2) mNil)))) (Pd.Env.wipe (LB (Ex.bin w a b).d c wn w.s .un .un .un .un .un) [7]) ([a, b].map Ex.d) () = some ([a, b].map (fun x => (bm c x wn).d), ()) := compL_mm Ex.d (fun x => (bm c x wn).d) fun x hx => by
      simp only [List.mem_cons, List.not_mem_nil, or_false] at hx
      rcases hx with rfl | rfl
      · exact ⟨_, rfl, call_e (xs := [_, _, _]) (cons_e rfl (cons_e rfl (cons_e rfl nil_e))) ia⟩
      · exact ⟨_, rfl, call_e (xs := [_, _, _]) (cons_e rfl (cons_e rfl (cons_e rfl nil_e))) ib⟩
    refine pre (s := w.s) rfl rfl (re_nx (noD ?_) (re_nx (noD ?_) (re_nx (noD ?_) (re_in (re_ift (opT_e rfl (L_e (lst_e (cons_e rfl (cons_e rfl nil_e)))) hin) (re_nx (then_e (setF_e (comp_e (itT_e (slice2 rfl)) rfl hcl))) ?_))))))
    · cases w <;> first | rfl | cases hw
    · cases w <;> first | rfl | cases hw
    · cases w <;> first | rfl | cases hw
    show Re _ _ (LB (Ex.bin w a b).d c wn w.s (.sh (.list [(bm c a wn).d, (bm c b wn).d])) .un .un .un .un) ()
    have hm : mCall F__law_meet (mCons (mOp dIx (mVar 6) (mC (.int 0))) (mCons (mOp dIx (mVar 6) (mC (.int 1))) mNil)) (LB (Ex.bin w a b).d c wn w.s (.sh (.list [(bm c a wn).d, (bm c b wn).d])) .un .un .un .un) () = some ((meetM (bm c a wn) (bm c b wn)).d, ()) := call_e (xs := [(bm c a wn).d, (bm c b wn).d]) (cons_e (op_e rfl rfl rfl) (cons_e (op_e rfl rfl rfl) nil_e)) (lmeet_e ka kb)
    have hj : mCall F__law_join (mCons (mOp dIx (mVar 6) (mC (.int 0))) (mCons (mOp dIx (mVar 6) (mC (.int 1))) mNil)) (LB (Ex.bin w a b).d c wn w.s (.sh (.list [(bm c a wn).d, (bm c b wn).d])) .un .un .un .un) () = some ((joinM (bm c a wn) (bm c b wn)).d, ()) := call_e (xs := [(bm c a wn).d, (bm c b wn).d]) (cons_e (op_e rfl rfl rfl) (cons_e (op_e rfl rfl rfl) nil_e)) (ljoin_e ka kb)
    cases w with
    | and =>
      show Re (Bd.d (if wn = true then _ else _)) _ _ _
      cases wn with
      | true => exact re_in (re_ift (opT_e (x := .bool true) (op_e rfl rfl rfl) rfl rfl) (re_ret hm))
      | false => exact re_nx (if_no (opT_e (x := .bool true) (op_e rfl rfl rfl) rfl rfl)) (re_ret hj)
    | or =>
      show Re (Bd.d (if wn = true then _ else _)) _ _ _
      cases wn with
      | true => exact re_nx (if_no (opT_e (x := .bool false) (op_e rfl rfl rfl) rfl rfl)) (re_ret hj)
      | false => exact re_in (re_ift (opT_e (x := .bool false) (op_e rfl rfl rfl) rfl rfl) (re_ret hm))
    | _ => cases hw
  | @nt n a ha ia =>
    intro _ m wn hm h9 hn
    simp only [Ex.h] at hm h9
    obtain ⟨m, rfl⟩ : ∃ j, m = j + 1 := ⟨m - 1, by omega⟩
    exact pre rfl rfl (re_nx (noD rfl) (re_nx (noD rfl) (re_in (re_ift (word_t rfl rfl) (re_ret (call_e (xs := [a.d, pD c, .bool !wn]) (cons_e (op_e rfl rfl rfl) (cons_e rfl (cons_e (bool_not rfl) nil_e))) (ia rfl m (!wn) (by omega) (by omega) hn)))))))
  | @nl k n a ha ia =>
    intro _ m wn hm h9 hn
    simp only [Ex.h] at hm h9
    obtain ⟨m, rfl⟩ : ∃ j, m = j + 1 := ⟨m - 1, by omega⟩
    refine pre rfl rfl (re_nx (noD rfl) (re_nx (noD rfl) (re_nx (noD rfl) (re_nx (if_no (opT_e rfl (L_e (lst_e (cons_e rfl (cons_e rfl nil_e)))) rfl)) (re_in (re_ift (word_t rfl rfl) ?_))))))
    show Re (Bd.d (if a.here c = true then (if wn = true then .null else known) else if (wn || !inSt c a.st) = true then .all else known)) _ _ ()
    cases wn with
    | true =>
      refine re_in (re_ift (tru_e (x := .bool true) rfl rfl) (re_ret (g1 := ()) ((pick2 (b := a.here c) aL (op_e (x := a.d) (op_e rfl rfl rfl) rfl (eq_here (ha.dep (by omega)) c))).trans ?_)))
      cases a.here c <;> rfl
    | false =>
      refine re_nx (if_no (tru_e (x := .bool false) rfl rfl)) (re_ret (g1 := ()) ((pick2 (b := inSt c a.st) (kL rfl) (op_e rfl (call_e (xs := [a.d]) (cons_e (op_e rfl rfl rfl) nil_e) (strict_e ha 9 (by omega) (by omega)).2) (in_pl c _))).trans ?_))
      cases hh : a.here c with
      | true => rw [here_in hh]; rfl
      | false => cases inSt c a.st <;> rfl
  | @am k n a vs ha hv h1 h3 ia =>
    intro _ m wn hm h9 hn
    simp only [Ex.h] at hm h9
    obtain ⟨m, rfl⟩ : ∃ j, m = j + 1 := ⟨m - 1, by omega⟩
    obtain ⟨w1, w2⟩ := ws_map hv
    have hs := sorted_ws w2
    rw [← w1] at hs
    refine pre rfl rfl (re_nx (noD rfl) (re_nx (noD rfl) (re_nx (noD rfl) (re_nx (if_no (opT_e rfl (L_e (lst_e (cons_e rfl (cons_e rfl nil_e)))) rfl)) (re_nx (if_no (word_t rfl rfl)) (re_in (re_ift (word_t rfl rfl) (re_nx (set_e (d := .list ((srt (wsOf vs)).map Wv.d)) (L_e (callF_e (xs := [.list (vs.filter fun v => !isNone v)]) (cons_e (L_e (comp_e (itL_e (op_e (y := .int 2) rfl rfl rfl)) rfl (comp_nn (by show 9 < 11; decide)))) nil_e) hs))) ?_))))))))
    let E : Pd.Env := LB (Ex.am a vs).d c wn "among" .un .un (.sh (.list ((srt (wsOf vs)).map Wv.d))) .un .un
    show Re _ _ E ()
    have hemp : dEq (.list ((srt (wsOf vs)).map Wv.d)) (.list []) = some (.bool (wsOf vs).isEmpty) := by
      have hl : (srt (wsOf vs)).length = (wsOf vs).length := (List.mergeSort_perm _ _).length_eq
      have hd : (PyData.list ((srt (wsOf vs)).map Wv.d)).depth ≤ 64 := Nat.le_trans (depth_list (n := 1) fun x hx => by obtain ⟨w, _, rfl⟩ := List.mem_map.mp hx; exact w_depth w) (by decide)
      rw [eq_flat hd (Nat.le_of_ble_eq_true rfl)]
      cases e : srt (wsOf vs) with
      | nil =>
        rw [e] at hl
        have : wsOf vs = [] := List.eq_nil_of_length_eq_zero hl.symm
        rw [this]; rfl
      | cons x r =>
        rw [e] at hl
        cases e2 : wsOf vs with
        | nil => rw [e2] at hl; cases hl
        | cons y s => rfl
    have t1 := or_e (and_e (tru_e (ma := mVar 2) (env := E) (g := ()) (x := .bool wn) (b := wn) rfl rfl) (opT_e (ma := mVar 8) (env := E) (g := ()) rfl (L_e (lst_e nil_e)) hemp)) (and_e (not_e (tru_e (ma := mVar 2) (env := E) (g := ()) (x := .bool wn) (b := wn) rfl rfl)) (opT_e (f := dInF false) (ma := mC .none) (mb := mOp dIx (mVar 0) (mC (.int 2))) (env := E) (g := ()) (y := .list vs) rfl (op_e rfl rfl rfl) (in_none hv)))
    have t2 := and_e (opT_e (ma := mOp dIx (mVar 0) (mC (.int 1))) (mb := mVar 5) (env := E) (g := ()) (x := a.d) (op_e rfl rfl rfl) rfl (eq_here (ha.dep (by omega)) c)) (tru_e (ma := mVar 2) (env := E) (g := ()) (x := .bool wn) (b := wn) rfl rfl)
    have fin : mOp dIx (mL (mLst (mCons (mTup (mCons (mC (.str "all")) mNil)) (mCons (mVar 4) mNil)))) (mCall dInt (mCons (mOp (dInD false) (mVar 1) (mCall (F__law_strict 9) (mCons (mOp dIx (mVar 0) (mC (.int 1))) mNil))) mNil)) E () = some (Bd.d (if inSt c a.st = true then known else .all), ()) := (pick2 (b := inSt c a.st) (kL rfl) (op_e rfl (call_e (xs := [a.d]) (cons_e (op_e rfl rfl rfl) nil_e) (strict_e ha 9 (by omega) (by omega)).2) (in_pl c _))).trans (by cases inSt c a.st <;> rfl)
    show Re (amM c a vs wn).d _ E ()
    unfold amM
    cases x1 : (!wn && vs.any isNone) with
    | true =>
      rw [x1, Bool.or_true] at t1
      rw [if_pos rfl]
      exact re_in (re_ift t1 (re_ret (tup_e (cons_e rfl nil_e))))
    | false =>
      rw [x1, Bool.or_false] at t1
      rw [if_neg (by simp)]
      cases x2 : (wn && (wsOf vs).isEmpty) with
      | true =>
        rw [x2] at t1
        obtain ⟨rfl, hemp'⟩ := Bool.and_eq_true_iff.mp x2
        refine re_in (re_ift t1 (re_ret (g1 := ()) ((tup_e (cons_e rfl nil_e)).trans ?_)))
        have : wsOf vs = [] := List.isEmpty_iff.mp hemp'
        rw [this, show srt [] = [] from List.mergeSort_nil]
        cases a.here c <;> rfl
      | false =>
        rw [x2] at t1
        refine re_nx (if_no t1) ?_
        cases hh : a.here c with
        | true =>
          rw [hh] at t2
          rw [if_pos rfl]
          cases wn with
          | true =>
            rw [if_pos rfl]
            have hne : (wsOf vs).isEmpty = false := x2
            have hl : (srt (wsOf vs)).length = (wsOf vs).length := (List.mergeSort_perm _ _).length_eq
            refine re_in (re_ift t2 (re_ret (g1 := ()) ?_))
            show mTup _ (LB (Ex.am a vs).d c true "among" .un .un (.sh (.list ((srt (wsOf vs)).map Wv.d))) .un .un) () = _
            cases e : srt (wsOf vs) with
            | nil =>
              rw [e] at hl
              have : wsOf vs = [] := List.eq_nil_of_length_eq_zero hl.symm
              rw [this] at hne; cases hne
            | cons x r => exact tup_e (cons_e rfl (cons_e (tup_e (cons_e (op_e rfl rfl (first_e x r)) (cons_e rfl nil_e))) (cons_e (tup_e (cons_e (op_e rfl (un_e (x := .int 1) (z := .int (-1)) rfl rfl) (last_e x r)) (cons_e rfl nil_e))) nil_e)))
          | false =>
            rw [if_neg (by simp)]
            refine re_nx (if_no t2) (re_ret (g1 := ()) (fin.trans ?_))
            rw [here_in hh]; rfl
        | false =>
          rw [hh] at t2
          rw [if_neg (by simp), if_neg (by simp)]
          exact re_nx (if_no t2) (re_ret fin)
end K32

namespace K32
open PySem Pd
/-! #### what is true lies within -/
theorem none_calc {w : W2} (hw : w.logic = false) {x y : D} (h : isNone (binD w x y) = false) : isNone x = false ∧ isNone y = false := by
  rw [bin_reck hw] at h
  cases hx : isNone x with
  | true => rw [reck_none (.inl hx)] at h; cases h
  | false =>
    cases hy : isNone y with
    | true => rw [reck_none (.inr hy)] at h; cases h
    | false => exact ⟨rfl, rfl⟩
theorem strict_some {R : Nat → Nat → D} {c : Pl} : ∀ {e : Ex}, inSt c e.st = true → isNone (e.v R) = false → isNone (R c.1 c.2) = false
  | .val d, h, _ => nomatch h
  | .nt a, h, _ => nomatch h
  | .nl a, h, _ => nomatch h
  | .am a vs, h, _ => nomatch h
  | .cell i j, h, hv => by
    have h : ((i == c.1 && j == c.2) || false) = true := h
    rw [Bool.or_false, Bool.and_eq_true, beq_iff_eq, beq_iff_eq] at h
    rw [← h.1, ← h.2]
    exact hv
  | .bin w a b, h, hv => by
    have h : inSt c (if w.arith = true then a.st ++ b.st else []) = true := h
    cases hw : w.arith with
    | false => rw [hw, if_neg (by decide)] at h; cases h
    | true =>
      rw [hw, if_pos rfl, inSt_app, Bool.or_eq_true] at h
      obtain ⟨h1, h2⟩ := none_calc (arith_lg hw) hv
      rcases h with h | h
      · exact strict_some h h1
      · exact strict_some h h2
theorem here_v {R : Nat → Nat → D} {c : Pl} {e : Ex} (h : e.here c = true) : e.v R = R c.1 c.2 := by
  cases e with
  | cell i j =>
    have h : (i == c.1 && j == c.2) = true := h
    rw [Bool.and_eq_true, beq_iff_eq, beq_iff_eq] at h
    rw [← h.1, ← h.2]
    rfl
  | _ => cases h
theorem known_in {x : Va} (h : isNone x.d = false) : inM known x = true := by
  cases x with
  | none => cases h
  | some w => rfl
theorem ofV_in {w : Wv} {ws : List Wv} (h : ∃ v ∈ ws, v.r = w.r) : inM (ofV (srt ws)) (some w) = true := by
  obtain ⟨v, hv, hr⟩ := h
  have hv := srt_mem.mpr hv
  have hp := srt_pw ws
  cases e : srt ws with
  | nil => rw [e] at hv; cases hv
  | cons x r =>
    rw [e] at hv hp
    have h1 : x.r ≤ w.r := by
      rw [← hr]
      rcases List.mem_cons.mp hv with rfl | hv
      · exact Int.le_refl _
      · exact (List.pairwise_cons.mp hp).1 v hv
    have h2 : w.r ≤ ((x :: r).getLast (List.cons_ne_nil x r)).r := by
      rw [← hr]
      have e2 := List.dropLast_concat_getLast (List.cons_ne_nil x r)
      rw [← e2] at hv hp
      rcases List.mem_append.mp hv with hv | hv
      · exact (List.pairwise_append.mp hp).2.2 v hv _ (List.mem_singleton.mpr rfl)
      · rw [List.mem_singleton.mp hv]; exact Int.le_refl _
    show (inLo (some (x, true)) w && inHi (some ((x :: r).getLast (List.cons_ne_nil x r), true)) w) = true
    rw [Bool.and_eq_true]
    constructor
    · show (decide (x.r < w.r) || (decide (w.r = x.r) && true)) = true
      rw [Bool.and_true, Bool.or_eq_true, decide_eq_true_eq, decide_eq_true_eq]; omega
    · show (decide (w.r < _) || (decide (w.r = _) && true)) = true
      rw [Bool.and_true, Bool.or_eq_true, decide_eq_true_eq, decide_eq_true_eq]; omega
theorem w_eqv {a b : Wv} (h : a.k = b.k) : PyData.eqv a.d b.d = decide (a.r = b.r) := by
  have e := w_eq h
  rw [eq_flat (Nat.le_trans (w_depth a) (by decide)) (Nat.le_trans (w_depth b) (by decide))] at e
  injection e with e; injection e
theorem bes_in1 {w : W2} (hw : w.cmp = true) {v x : Wv} (hk : x.k = v.k) {wn : Bool} (h : calcD w x.d v.d = .bool wn) : inM (besM w v wn true) (some x) = true := by
  cases w with
  | same =>
    have h : (dEq x.d v.d).getD .none = .bool wn := h
    rw [w_eq hk] at h
    have h : PyData.bool (decide (x.r = v.r)) = .bool wn := h
    injection h with h
    cases wn with
    | true =>
      have h := of_decide_eq_true h
      show ((decide (v.r < x.r) || (decide (x.r = v.r) && true)) && (decide (x.r < v.r) || (decide (x.r = v.r) && true))) = true
      rw [decide_eq_true h]; simp
    | false => rfl
  | less =>
    have h : (dLt x.d v.d).getD .none = .bool wn := h
    rw [w_lt hk] at h
    have h : PyData.bool (decide (x.r < v.r)) = .bool wn := h
    injection h with h
    cases wn with
    | true =>
      have h := of_decide_eq_true h
      show (true && (decide (x.r < v.r) || (decide (x.r = v.r) && false))) = true
      rw [decide_eq_true h]; rfl
    | false =>
      have h := of_decide_eq_false h
      show ((decide (v.r < x.r) || (decide (x.r = v.r) && true)) && true) = true
      rw [Bool.and_true, Bool.and_true, Bool.or_eq_true, decide_eq_true_eq, decide_eq_true_eq]; omega
  | _ => cases hw
theorem bes_in2 {w : W2} (hw : w.cmp = true) {v x : Wv} (hk : x.k = v.k) {wn : Bool} (h : calcD w v.d x.d = .bool wn) : inM (besM w v wn false) (some x) = true := by
  cases w with
  | same =>
    have h : (dEq v.d x.d).getD .none = .bool wn := h
    rw [w_eq hk.symm] at h
    have h : PyData.bool (decide (v.r = x.r)) = .bool wn := h
    injection h with h
    cases wn with
    | true =>
      have h := (of_decide_eq_true h).symm
      show ((decide (v.r < x.r) || (decide (x.r = v.r) && true)) && (decide (x.r < v.r) || (decide (x.r = v.r) && true))) = true
      rw [decide_eq_true h]; simp
    | false => rfl
  | less =>
    have h : (dLt v.d x.d).getD .none = .bool wn := h
    rw [w_lt hk.symm] at h
    have h : PyData.bool (decide (v.r < x.r)) = .bool wn := h
    injection h with h
    cases wn with
    | true =>
      have h := of_decide_eq_true h
      show ((decide (v.r < x.r) || (decide (x.r = v.r) && false)) && true) = true
      rw [decide_eq_true h]; rfl
    | false =>
      have h := of_decide_eq_false h
      show (true && (decide (x.r < v.r) || (decide (x.r = v.r) && true))) = true
      rw [Bool.and_true, Bool.true_and, Bool.or_eq_true, decide_eq_true_eq, decide_eq_true_eq]; omega
  | _ => cases hw
theorem va_some {x : Va} (h : isNone x.d = false) : ∃ w, x = some w := by
  cases x with
  | none => cases h
  | some w => exact ⟨w, rfl⟩
theorem sound {R : Nat → Nat → D} {kc : Kd} {c : Pl} (hc : (c.1, c.2, kc) ∈ cellsL) {x : Va} (hx : R c.1 c.2 = x.d) (hk : VaK kc x) {k : Kd} {n : Nat} {e : Ex} (h : WT k n e) : k = .bool → ∀ wn, e.v R = .bool wn → inM (bm c e wn) x = true := by
  induction h with
  | @val k n d h =>
    intro _ wn hv
    have hv : d = .bool wn := hv
    subst hv
    show inM (if isBd wn (.bool wn) = true then .all else .never) x = true
    rw [if_pos (by cases wn <;> rfl)]
    rfl
  | @cell k n i j h =>
    intro hb wn hv
    have hv : R i j = .bool wn := hv
    show inM (if (i == c.1 && j == c.2) = true then .rng (some (.bool wn, true)) (some (.bool wn, true)) else .all) x = true
    split
    · rename_i hh
      rw [Bool.and_eq_true, beq_iff_eq, beq_iff_eq] at hh
      rw [hh.1, hh.2, hx] at hv
      cases x with
      | none => cases hv
      | some w =>
        cases w with
        | bool b =>
          have hv : PyData.bool b = .bool wn := hv
          injection hv with hv
          subst hv
          show ((decide _ || (decide ((Wv.bool b).r = (Wv.bool b).r) && true)) && (decide _ || (decide ((Wv.bool b).r = (Wv.bool b).r) && true))) = true
          rw [decide_eq_true (p := (Wv.bool b).r = (Wv.bool b).r) rfl]; simp
        | _ => cases hv
    · rfl
  | ar _ _ _ _ _ => intro hk; cases hk
  | @cmp k n w a b hw ha hb _ _ =>
    intro _ wn hv
    have hv : binD w (a.v R) (b.v R) = .bool wn := hv
    obtain ⟨n1, n2⟩ := none_calc (x := a.v R) (y := b.v R) (cmp_lg hw) (by rw [hv]; rfl)
    rw [bin_reck (cmp_lg hw), reck_some n1 n2] at hv
    rw [bm_cmp hw]
    have noN : ∀ {e : Ex}, isNone (e.v R) = false → e.isNo = false := fun {e} h => by
      cases e with
      | val d => exact h
      | _ => rfl
    unfold cmpM
    rw [if_neg (by rw [noN n1, noN n2]; decide)]
    split
    · rename_i h
      obtain ⟨h1, h2⟩ := Bool.and_eq_true_iff.mp h
      obtain ⟨v, e1, e2, hkv⟩ := cv_of hb h2 (noN n2)
      rw [e1]
      have hbv : b.v R = v.d := by
        cases b with
        | val d => show d = v.d; have e2 : PyData.tuple [.str "value", d] = .tuple [.str "value", v.d] := e2; injection e2 with e2; injection e2 with _ e2; injection e2
        | _ => cases h2
      rw [here_v h1, hx] at hv n1
      obtain ⟨y, rfl⟩ := va_some n1
      rw [hbv] at hv
      exact bes_in1 hw (Eq.trans hk ((hkv.trans (cell_kind (here_k ha h1) hc)).symm)) hv
    · split
      · rename_i h
        obtain ⟨h1, h2⟩ := Bool.and_eq_true_iff.mp h
        obtain ⟨v, e1, e2, hkv⟩ := cv_of ha h2 (noN n1)
        rw [e1]
        have hav : a.v R = v.d := by
          cases a with
          | val d => show d = v.d; have e2 : PyData.tuple [.str "value", d] = .tuple [.str "value", v.d] := e2; injection e2 with e2; injection e2 with _ e2; injection e2
          | _ => cases h2
        rw [here_v h1, hx] at hv n2
        obtain ⟨y, rfl⟩ := va_some n2
        rw [hav] at hv
        exact bes_in2 hw (Eq.trans hk ((hkv.trans (cell_kind (here_k hb h1) hc)).symm)) hv
      · split
        · rename_i h
          rw [inSt_app, Bool.or_eq_true] at h
          refine known_in ?_
          rw [← hx]
          rcases h with h | h
          · exact strict_some h n1
          · exact strict_some h n2
        · rfl
  | @lg n w a b hw ha hb ia ib =>
    intro _ wn hv
    have ka := bm_k hc ha rfl wn
    have kb := bm_k hc hb rfl wn
    have ia := ia rfl wn
    have ib := ib rfl wn
    cases w with
    | and =>
      have hv : bothD (a.v R) (b.v R) = .bool wn := hv
      show inM (if wn = true then _ else _) x = true
      generalize a.v R = p at hv ia
      generalize b.v R = q at hv ib
      cases wn with
      | true =>
        rw [if_pos rfl, meet_in ka kb]
        have : p = .bool true ∧ q = .bool true := by
          unfold bothD at hv
          split at hv <;> first | exact ⟨rfl, rfl⟩ | cases hv
        rw [ia this.1, ib this.2]; rfl
      | false =>
        rw [if_neg (by simp)]
        have : p = .bool false ∨ q = .bool false := by
          unfold bothD at hv
          split at hv <;> first | exact .inl rfl | exact .inr rfl | cases hv
        exact join_in ka kb (this.imp ia ib)
    | or =>
      have hv : eithD (a.v R) (b.v R) = .bool wn := hv
      show inM (if wn = true then _ else _) x = true
      generalize a.v R = p at hv ia
      generalize b.v R = q at hv ib
      cases wn with
      | false =>
        rw [if_neg (by simp), meet_in ka kb]
        have : p = .bool false ∧ q = .bool false := by
          unfold eithD at hv
          split at hv <;> first | exact ⟨rfl, rfl⟩ | cases hv
        rw [ia this.1, ib this.2]; rfl
      | true =>
        rw [if_pos rfl]
        have : p = .bool true ∨ q = .bool true := by
          unfold eithD at hv
          split at hv <;> first | exact .inl rfl | exact .inr rfl | cases hv
        exact join_in ka kb (this.imp ia ib)
    | _ => cases hw
  | @nt n a ha ia =>
    intro _ wn hv
    have hv : turnD (a.v R) = .bool wn := hv
    refine ia rfl (!wn) ?_
    generalize a.v R = p at hv
    cases p with
    | bool b => have hv : PyData.bool (!b) = .bool wn := hv; injection hv with hv; rw [← hv, Bool.not_not]
    | _ => cases hv
  | @nl k n a ha ia =>
    intro _ wn hv
    have hv : PyData.bool (isNone (a.v R)) = .bool wn := hv
    injection hv with hv
    show inM (if a.here c = true then (if wn = true then .null else known) else if (wn || !inSt c a.st) = true then .all else known) x = true
    split
    · rename_i hh
      rw [here_v hh, hx] at hv
      cases wn with
      | true => rw [if_pos rfl]; show x.isNone = true; rw [← va_none]; exact hv
      | false => rw [if_neg (by simp)]; exact known_in hv
    · split
      · rfl
      · rename_i h
        cases wn with
        | true => exact absurd rfl h
        | false =>
          have h : inSt c a.st = true := by
            cases e : inSt c a.st with
            | true => rfl
            | false => rw [e] at h; exact absurd rfl h
          refine known_in ?_
          rw [← hx]
          exact strict_some h hv
  | @am k n a vs ha hv' h1 h3 ia =>
    intro _ wn hv
    have hv : amD (a.v R) vs = .bool wn := hv
    obtain ⟨w1, w2⟩ := ws_map hv'
    have hn : isNone (a.v R) = false := by
      cases e : isNone (a.v R) with
      | true => unfold amD at hv; rw [e, if_pos rfl] at hv; cases hv
      | false => rfl
    unfold amD at hv
    rw [hn, if_neg (by simp), w1] at hv
    show inM (amM c a vs wn) x = true
    unfold amM
    have hany : wn = true → ∃ w ∈ wsOf vs, PyData.eqv w.d (a.v R) = true := by
      rintro rfl
      split at hv
      · rename_i h
        obtain ⟨d, hd, he⟩ := List.any_eq_true.mp h
        obtain ⟨w, hw, rfl⟩ := List.mem_map.mp hd
        exact ⟨w, hw, he⟩
      · split at hv <;> cases hv
    split
    · rename_i h
      obtain ⟨h1, h2⟩ := Bool.and_eq_true_iff.mp h
      cases wn with
      | true => cases h1
      | false =>
        split at hv
        · cases hv
        · first | (cases hv; done) | (rw [if_pos h2] at hv; cases hv)
    · split
      · rename_i hh
        rw [here_v hh, hx] at hn hany
        split
        · rename_i hw
          obtain ⟨w, hw1, hw2⟩ := hany hw
          obtain ⟨y, rfl⟩ := va_some hn
          have hkk : w.k = y.k := ((w2 w hw1).trans (cell_kind (here_k ha hh) hc)).trans (Eq.symm hk)
          have hw2 : PyData.eqv w.d y.d = true := hw2
          rw [w_eqv hkk] at hw2
          exact ofV_in ⟨w, hw1, of_decide_eq_true hw2⟩
        · exact known_in hn
      · split
        · rename_i h
          obtain ⟨h1, h2⟩ := Bool.and_eq_true_iff.mp h
          obtain ⟨w, hw1, _⟩ := hany h1
          rw [List.isEmpty_iff.mp h2] at hw1
          cases hw1
        · split
          · rename_i h
            refine known_in ?_
            rw [← hx]
            exact strict_some h hn
          · rfl
end K32

namespace K32
open PySem Pd
/-! #### small data -/
structure Sm (w dp : Nat) (d : D) : Prop where
  lay : PyData.canLay0 d = true
  dep : d.depth ≤ dp
  wt : PyData.weight d ≤ w
  sh : PyData.showable d = true
  it : PyData.intsShort 13 d = true
  nd : noDict d = true
theorem Sm.mono {w w' dp dp' : Nat} {d : D} (h : Sm w dp d) (hw : w ≤ w') (hd : dp ≤ dp') : Sm w' dp' d := ⟨h.lay, Nat.le_trans h.dep hd, Nat.le_trans h.wt hw, h.sh, h.it, h.nd⟩
theorem sm_all {w dp : Nat} : ∀ {xs : List D}, (∀ x ∈ xs, Sm w dp x) → PyData.canLayAll0 xs = true ∧ PyData.weightAll xs ≤ xs.length * (w + 1) ∧ PyData.showableAll xs = true ∧ PyData.intsShortAll 13 xs = true ∧ noDictA xs = true
  | [], _ => ⟨by simp only [PyData.canLayAll0], by simp only [PyData.weightAll]; exact Nat.zero_le _, by simp only [PyData.showableAll], by simp only [PyData.intsShortAll], rfl⟩
  | x :: xs, h => by
    obtain ⟨a1, a2, a3, a4, a5⟩ := sm_all (xs := xs) fun y hy => h y (List.mem_cons_of_mem _ hy)
    have hx := h x (List.mem_cons_self ..)
    refine ⟨by simp only [PyData.canLayAll0, hx.lay, a1, Bool.and_self], ?_, by simp only [PyData.showableAll, hx.sh, a3, Bool.and_self], by simp only [PyData.intsShortAll, hx.it, a4, Bool.and_self], ?_⟩
    · simp only [PyData.weightAll, List.length_cons]
      have := hx.wt
      rw [Nat.add_mul, Nat.one_mul]
      omega
    · show (noDict x && noDictA xs) = true
      rw [hx.nd, a5]; rfl
theorem sm_tup {w dp : Nat} {xs : List D} (h : ∀ x ∈ xs, Sm w dp x) : Sm (xs.length * (w + 1)) (dp + 1) (.tuple xs) := by
  obtain ⟨a1, a2, a3, a4, a5⟩ := sm_all h
  exact ⟨by simpa only [PyData.canLay0] using a1, depth_tup fun x hx => (h x hx).dep, by simpa only [PyData.weight] using a2, by simpa only [PyData.showable] using a3, by simpa only [PyData.intsShort] using a4, by simpa only [noDict] using a5⟩
theorem sm_list {w dp : Nat} {xs : List D} (h : ∀ x ∈ xs, Sm w dp x) : Sm (xs.length * (w + 1)) (dp + 1) (.list xs) := by
  obtain ⟨a1, a2, a3, a4, a5⟩ := sm_all h
  exact ⟨by simpa only [PyData.canLay0] using a1, depth_list fun x hx => (h x hx).dep, by simpa only [PyData.weight] using a2, by simpa only [PyData.showable] using a3, by simpa only [PyData.intsShort] using a4, by simpa only [noDict] using a5⟩
theorem sm_none : Sm 30 1 .none := ⟨by simp only [PyData.canLay0], Nat.le_of_ble_eq_true rfl, by simp only [PyData.weight]; decide, by simp only [PyData.showable], by simp only [PyData.intsShort], rfl⟩
theorem sm_bool (b : Bool) : Sm 30 1 (.bool b) := ⟨by simp only [PyData.canLay0], Nat.le_of_ble_eq_true rfl, by simp only [PyData.weight]; decide, by simp only [PyData.showable], by simp only [PyData.intsShort], rfl⟩
theorem log_lt {n k : Nat} (h : n < 2 ^ k) (hk : 0 < k) : n.log2 < k := by
  by_cases z : n = 0
  · subst z
    exact hk
  · exact (Nat.log2_lt z).mpr h
theorem sm_int {i : Int} (h1 : -43046721 ≤ i) (h2 : i ≤ 43046721) : Sm 30 1 (.int i) := by
  have hn : i.natAbs < 2 ^ 29 := by
    have : (2 : Nat) ^ 29 = 536870912 := by decide
    omega
  have hl := log_lt hn (by decide)
  refine ⟨by simp only [PyData.canLay0], Nat.le_of_ble_eq_true rfl, ?_, ?_, ?_, rfl⟩
  · simp only [PyData.weight]
    split
    · exact Nat.zero_le _
    · omega
  · simp only [PyData.showable, decide_eq_true_eq]
    omega
  · simp only [PyData.intsShort, decide_eq_true_eq]
    exact PyData.shown_int_le (by have : (10 : Nat) ^ 12 = 1000000000000 := by decide
                                  omega)
theorem sm_str {s : Str} (h1 : PyData.canLay0 (.str s) = true) (h2 : s.cps.size ≤ 30) : Sm 30 1 (.str s) := ⟨h1, Nat.le_of_ble_eq_true rfl, by simpa only [PyData.weight] using h2, by simp only [PyData.showable], by simp only [PyData.intsShort], rfl⟩
theorem sm_vd {k : Kd} {d : D} (h : Vd k d) : Sm 30 1 d := by
  cases k with
  | int =>
    rcases h with rfl | ⟨i, rfl, h1, h2⟩
    · exact sm_none
    · exact sm_int (by omega) (by omega)
  | bool =>
    rcases h with rfl | ⟨b, rfl⟩
    · exact sm_none
    · exact sm_bool b
  | text =>
    rcases h with rfl | ⟨s, hs, rfl⟩
    · exact sm_none
    · simp only [List.mem_cons, List.not_mem_nil, or_false] at hs
      rcases hs with rfl | rfl | rfl | rfl | rfl | rfl <;> exact sm_str (by decide +kernel) (by decide +kernel)
theorem sm_w2 (w : W2) : Sm 30 1 (.str w.s) := by cases w <;> exact sm_str (by decide +kernel) (by decide +kernel)
def Wt : Nat → Nat
  | 0 => 93
  | n + 1 => 3 * (Wt n + 1)
theorem Wt_ge : ∀ n, 93 ≤ Wt n
  | 0 => Nat.le_refl _
  | n + 1 => by have := Wt_ge n; show 93 ≤ 3 * (Wt n + 1); omega
theorem Wt_le' {n : Nat} (h : n ≤ 4) : Wt n ≤ 8000 := by
  have : n = 0 ∨ n = 1 ∨ n = 2 ∨ n = 3 ∨ n = 4 := by omega
  rcases this with rfl | rfl | rfl | rfl | rfl <;> decide
theorem sm2 {w dp : Nat} {a b : D} (ha : Sm w dp a) (hb : Sm w dp b) : Sm (2 * (w + 1)) (dp + 1) (.tuple [a, b]) := sm_tup (xs := [a, b]) fun x hx => by
  simp only [List.mem_cons, List.not_mem_nil, or_false] at hx
  rcases hx with rfl | rfl <;> assumption
theorem sm3 {w dp : Nat} {a b c : D} (ha : Sm w dp a) (hb : Sm w dp b) (hc : Sm w dp c) : Sm (3 * (w + 1)) (dp + 1) (.tuple [a, b, c]) := sm_tup (xs := [a, b, c]) fun x hx => by
  simp only [List.mem_cons, List.not_mem_nil, or_false] at hx
  rcases hx with rfl | rfl | rfl <;> assumption
theorem cell_small {i j : Nat} {k : Kd} (h : (i, j, k) ∈ cellsL) : i ≤ 1 ∧ j ≤ 2 := by
  simp only [cellsL, List.mem_cons, Prod.mk.injEq, List.not_mem_nil, or_false] at h
  omega
theorem Wt_mono {m n : Nat} (h : m ≤ n) : Wt m ≤ Wt n := by
  induction h with
  | refl => exact Nat.le_refl _
  | step _ ih => exact Nat.le_trans ih (by show Wt _ ≤ 3 * (Wt _ + 1); omega)
theorem Wt_7 {n : Nat} (h : n ≤ 7) : Wt n ≤ 2 ^ 20 := Nat.le_trans (Wt_mono h) (by decide)
theorem WT.sm {k : Kd} {n : Nat} {e : Ex} (h : WT k n e) : Sm (Wt e.h) (e.h + 2) e.d := by
  have bin : ∀ {w : W2} {a b : Ex}, Sm (Wt a.h) (a.h + 2) a.d → Sm (Wt b.h) (b.h + 2) b.d → Sm (Wt (max a.h b.h + 1)) (max a.h b.h + 1 + 2) (Ex.bin w a b).d := fun {w a b} ia ib => by
    have := Wt_ge (max a.h b.h)
    exact sm3 ((sm_w2 w).mono (by omega) (by omega)) (ia.mono (Wt_mono (Nat.le_max_left _ _)) (by omega)) (ib.mono (Wt_mono (Nat.le_max_right _ _)) (by omega))
  induction h with
  | @val k n d h => exact (sm2 (sm_str (s := "value") (by decide +kernel) (by decide +kernel)) (sm_vd h)).mono (by show 62 ≤ 93; decide) (Nat.le_refl _)
  | @cell k n i j h =>
    have := cell_small h
    exact (sm3 (sm_str (s := "cell") (by decide +kernel) (by decide +kernel)) (sm_int (by omega) (by omega)) (sm_int (by omega) (by omega))).mono (by show 93 ≤ 93; decide) (Nat.le_refl _)
  | ar _ _ _ ia ib => exact bin ia ib
  | cmp _ _ _ ia ib => exact bin ia ib
  | lg _ _ _ ia ib => exact bin ia ib
  | @nt n a _ ia =>
    have := Wt_ge a.h
    exact (sm2 ((sm_str (s := "not") (by decide +kernel) (by decide +kernel)).mono (by omega) (by omega)) ia).mono (by show 2 * (Wt a.h + 1) ≤ 3 * (Wt a.h + 1); omega) (Nat.le_refl _)
  | @nl k n a _ ia =>
    have := Wt_ge a.h
    exact (sm2 ((sm_str (s := "null") (by decide +kernel) (by decide +kernel)).mono (by omega) (by omega)) ia).mono (by show 2 * (Wt a.h + 1) ≤ 3 * (Wt a.h + 1); omega) (Nat.le_refl _)
  | @am k n a vs _ hv h1 h3 ia =>
    have := Wt_ge a.h
    have hl : Sm (vs.length * 31) 2 (.list vs) := sm_list fun v h => sm_vd (hv v h)
    show Sm (Wt (a.h + 1)) (a.h + 1 + 2) (Ex.am a vs).d
    exact sm3 ((sm_str (s := "among") (by decide +kernel) (by decide +kernel)).mono (by omega) (by omega)) ia (hl.mono (by omega) (by omega))
theorem Sm.ok {w dp : Nat} {d : D} (h : Sm w dp d) (hw : w ≤ 2 ^ 20) (hd : dp ≤ 64) : showOk d = true := by
  unfold showOk PyData.layable0
  rw [h.lay, decide_eq_true (Nat.le_trans h.dep hd), decide_eq_true (Nat.le_trans h.wt hw), h.sh, h.it]
  rfl
theorem Sm.eq {w dp : Nat} {d : D} (h : Sm w dp d) (hd : dp ≤ 64) : dEq d d = some (.bool true) := eq_self h.nd (Nat.le_trans h.dep hd)
theorem Sm.ne {w dp : Nat} {d : D} (h : Sm w dp d) (hd : dp ≤ 64) : dNe d d = some (.bool false) := ne_self h.nd (Nat.le_trans h.dep hd)
theorem repr_e {w dp : Nat} {d : D} (h : Sm w dp d) (hw : w ≤ 2 ^ 20) (hd : dp ≤ 64) : dRepr [d] = some (.str d.shown) := if_pos (h.ok hw hd)
theorem str_eq (s : Str) : dEq (.str s) (.str s) = some (.bool true) := eq_self rfl (Nat.le_of_ble_eq_true rfl)
theorem str_ne (s : Str) : dNe (.str s) (.str s) = some (.bool false) := ne_self rfl (Nat.le_of_ble_eq_true rfl)
/-! #### bounds are small -/
def WvS : Wv → Prop
  | .int n => -5 ≤ n ∧ n ≤ 5
  | _ => True
def EnS : En → Prop
  | none => True
  | some (w, _) => WvS w
def BdS : Bd → Prop
  | .rng lo hi => EnS lo ∧ EnS hi
  | _ => True
theorem sm_wv {w : Wv} (h : WvS w) : Sm 30 1 w.d := by
  cases w with
  | int n => exact sm_int (by have := h.1; omega) (by have := h.2; omega)
  | bool b => exact sm_bool b
  | text t => cases t <;> exact sm_str (by decide +kernel) (by decide +kernel)
theorem sm_en {x : En} (h : EnS x) : Sm 62 2 x.d := by
  cases x with
  | none => exact sm_none.mono (by decide) (by decide)
  | some p => exact sm2 (sm_wv h) (sm_bool p.2)
theorem sm_one {s : Str} (h : Sm 30 1 (.str s)) : Sm 200 3 (.tuple [.str s]) := (sm_tup (xs := [.str s]) fun x hx => by rw [List.mem_singleton.mp hx]; exact h).mono (by show 31 ≤ 200; decide) (by decide)
theorem sm_bd {x : Bd} (h : BdS x) : Sm 200 3 x.d := by
  cases x with
  | rng lo hi => exact (sm3 ((sm_str (s := "range") (by decide +kernel) (by decide +kernel)).mono (by decide) (by decide)) (sm_en h.1) (sm_en h.2)).mono (by decide) (by decide)
  | all => exact sm_one (sm_str (by decide +kernel) (by decide +kernel))
  | null => exact sm_one (sm_str (by decide +kernel) (by decide +kernel))
  | never => exact sm_one (sm_str (by decide +kernel) (by decide +kernel))
theorem repr_bd {x : Bd} (h : BdS x) : dRepr [x.d] = some (.str x.d.shown) := repr_e (sm_bd h) (by decide) (by decide)
theorem ite_s {p : Prop} [Decidable p] {x y : En} (hx : EnS x) (hy : EnS y) : EnS (if p then x else y) := by split <;> assumption
theorem hiE_s {x y : En} (hx : EnS x) (hy : EnS y) : EnS (hiE x y) := by
  rcases x with _ | ⟨x, a⟩ <;> rcases y with _ | ⟨y, b⟩
  · trivial
  · exact hy
  · exact hx
  · exact ite_s (ite_s hy hx) (ite_s hx hy)
theorem loE_s {x y : En} (hx : EnS x) (hy : EnS y) : EnS (loE x y) := by
  rcases x with _ | ⟨x, a⟩ <;> rcases y with _ | ⟨y, b⟩
  · trivial
  · exact hy
  · exact hx
  · exact ite_s (ite_s hy hx) (ite_s hx hy)
theorem wLo_s {x y : En} (hx : EnS x) (hy : EnS y) : EnS (wLo x y) := by
  rcases x with _ | ⟨x, a⟩ <;> rcases y with _ | ⟨y, b⟩
  · trivial
  · trivial
  · trivial
  · exact ite_s (x := some (x, a || b)) hx (ite_s hy hx)
theorem wHi_s {x y : En} (hx : EnS x) (hy : EnS y) : EnS (wHi x y) := by
  rcases x with _ | ⟨x, a⟩ <;> rcases y with _ | ⟨y, b⟩
  · trivial
  · trivial
  · trivial
  · exact ite_s (x := some (x, a || b)) hx (ite_s hy hx)
theorem meet_s {x y : Bd} (hx : BdS x) (hy : BdS y) : BdS (meetM x y) := by
  cases x <;> cases y <;> first | trivial | exact hx | exact hy | skip
  rename_i a b c d
  show BdS (if isEmp (hiE a c) (loE b d) = true then .never else .rng (hiE a c) (loE b d))
  split
  · trivial
  · exact ⟨hiE_s hx.1 hy.1, loE_s hx.2 hy.2⟩
theorem join_s {x y : Bd} (hx : BdS x) (hy : BdS y) : BdS (joinM x y) := by
  cases x <;> cases y <;> first | trivial | exact hx | exact hy | exact ⟨wLo_s hx.1 hy.1, wHi_s hx.2 hy.2⟩
theorem vd_s {k : Kd} {d : D} {w : Wv} (h : Vd k d) (e : toW d = some w) : WvS w := by
  cases k with
  | int =>
    rcases h with rfl | ⟨i, rfl, h1, h2⟩
    · cases e
    · injection e with e; subst e; exact ⟨h1, h2⟩
  | bool =>
    rcases h with rfl | ⟨b, rfl⟩
    · cases e
    · injection e with e; subst e; trivial
  | text =>
    rcases vd_w h with ⟨rfl, _⟩ | ⟨v, e2, _, hk⟩
    · cases e
    · rw [e2] at e; injection e with e; subst e
      cases v with
      | text t => trivial
      | _ => cases hk
theorem ws_s {k : Kd} {vs : List D} (h : ∀ v ∈ vs, Vd k v) : ∀ w ∈ wsOf vs, WvS w := fun w hw => by
  obtain ⟨v, h1, h2⟩ := List.mem_filterMap.mp hw
  exact vd_s (h v h1) h2
theorem ofV_s {ws : List Wv} (h : ∀ w ∈ ws, WvS w) : BdS (ofV (srt ws)) := by
  have h' : ∀ w ∈ srt ws, WvS w := fun w hw => h w (srt_mem.mp hw)
  cases e : srt ws with
  | nil => trivial
  | cons x r =>
    rw [e] at h'
    exact ⟨h' _ (List.mem_cons_self ..), h' _ (List.getLast_mem _)⟩
theorem bes_s {v : Wv} (h : WvS v) (w : W2) (wn first : Bool) : BdS (besM w v wn first) := by
  cases w <;> cases wn <;> cases first <;> first | exact ⟨trivial, trivial⟩ | exact ⟨h, h⟩ | exact ⟨trivial, h⟩ | exact ⟨h, trivial⟩
theorem cv_s {k : Kd} {n : Nat} {e : Ex} (h : WT k n e) {v : Wv} (hv : e.cv = some v) : WvS v := by
  cases h with
  | val h => exact vd_s h hv
  | _ => cases hv
theorem bm_s (c : Pl) {k : Kd} {n : Nat} {e : Ex} (h : WT k n e) : k = .bool → ∀ wn, BdS (bm c e wn) := by
  have kn : BdS known := ⟨trivial, trivial⟩
  induction h with
  | @val k n d h => intro _ wn; show BdS (if _ then _ else _); split <;> trivial
  | @cell k n i j h =>
    intro _ wn
    show BdS (if _ then _ else _)
    split
    · exact ⟨trivial, trivial⟩
    · trivial
  | ar _ _ _ _ _ => intro hk; cases hk
  | @cmp k n w a b hw ha hb _ _ =>
    intro _ wn
    rw [bm_cmp hw]
    unfold cmpM
    split
    · trivial
    · split
      · split
        · rename_i v e; exact bes_s (cv_s hb e) _ _ _
        · trivial
      · split
        · split
          · rename_i v e; exact bes_s (cv_s ha e) _ _ _
          · trivial
        · split
          · exact kn
          · trivial
  | @lg n w a b hw ha hb ia ib =>
    intro _ wn
    have ia := ia rfl wn
    have ib := ib rfl wn
    cases w with
    | and => show BdS (if _ then _ else _); split; exact meet_s ia ib; exact join_s ia ib
    | or => show BdS (if _ then _ else _); split; exact join_s ia ib; exact meet_s ia ib
    | _ => cases hw
  | @nt n a ha ia => intro _ wn; exact ia rfl (!wn)
  | @nl k n a ha ia =>
    intro _ wn
    show BdS (if _ then _ else _)
    split
    · split
      · trivial
      · exact kn
    · split
      · trivial
      · exact kn
  | @am k n a vs ha hv h1 h3 ia =>
    intro _ wn
    show BdS (amM c a vs wn)
    unfold amM
    split
    · trivial
    · split
      · split
        · exact ofV_s (ws_s hv)
        · exact kn
      · split
        · trivial
        · split
          · exact kn
          · trivial
/-! #### conjuncts -/
def Ex.cj : Ex → List Ex
  | .bin .and a b => a.cj ++ b.cj
  | e => [e]
theorem cj_len (e : Ex) : e.cj.length ≤ 2 ^ e.h := by
  have one : ∀ n, 1 ≤ 2 ^ n := fun n => Nat.one_le_two_pow
  induction e with
  | bin w a b ia ib =>
    cases w with
    | and =>
      show (a.cj ++ b.cj).length ≤ 2 ^ (max a.h b.h + 1)
      have h1 : 2 ^ a.h ≤ 2 ^ max a.h b.h := Nat.pow_le_pow_right (by decide) (Nat.le_max_left _ _)
      have h2 : 2 ^ b.h ≤ 2 ^ max a.h b.h := Nat.pow_le_pow_right (by decide) (Nat.le_max_right _ _)
      rw [List.length_append, Nat.pow_succ]
      omega
    | _ => exact one _
  | _ => exact one _
theorem notAnd (e : Ex) (h : ∀ a b, e ≠ .bin .and a b) : ∃ s, dIx e.d (.int 0) = some (.str s) ∧ dEq (.str s) (.str "and") = some (.bool false) := by
  cases e with
  | bin w a b =>
    cases w with
    | and => exact absurd rfl (h a b)
    | _ => exact ⟨_, rfl, rfl⟩
  | _ => exact ⟨_, rfl, rfl⟩
theorem notAnd_cj (e : Ex) (h : ∀ a b, e ≠ .bin .and a b) : e.cj = [e] := by
  cases e with
  | bin w a b =>
    cases w with
    | and => exact absurd rfl (h a b)
    | _ => rfl
  | _ => rfl
theorem d_some (e : Ex) : isNone e.d = false := by cases e <;> rfl
theorem conj_e : ∀ (m : Nat) (e : Ex), e.h < m → e.h < 9 → F_conjuncts m [e.d] = some (.list (e.cj.map Ex.d)) := by
  intro m
  induction m with
  | zero => exact fun e h => absurd h (Nat.not_lt_zero _)
  | succ m ih =>
    intro e hh h9
    have s0 : mIfS (mOpT dIs (mVar 0) (mC .none)) (mRetF (mLst mNil)) mSkip (startE 1 ([e.d].map .sh)) () = some (.nx, startE 1 ([e.d].map .sh), ()) := if_no ((is_e rfl).trans (by rw [d_some]))
    by_cases ha : ∃ a b, e = .bin .and a b
    · obtain ⟨a, b, rfl⟩ := ha
      have hh : max a.h b.h + 1 < m + 1 := hh
      have h9 : max a.h b.h + 1 < 9 := h9
      have a1 := ih a (by omega) (by omega)
      have b1 := ih b (by omega) (by omega)
      have la := cj_len a
      have lb := cj_len b
      have p1 : 2 ^ a.h ≤ 2 ^ 8 := Nat.pow_le_pow_right (by decide) (by omega)
      have p2 : 2 ^ b.h ≤ 2 ^ 8 := Nat.pow_le_pow_right (by decide) (by omega)
      have p3 : 2 ^ 8 = 256 := by decide
      have hadd : dAdd (.list (a.cj.map Ex.d)) (.list (b.cj.map Ex.d)) = some (.list ((Ex.bin .and a b).cj.map Ex.d)) := by
        rw [list_add (by rw [List.length_map, List.length_map]; omega), ← List.map_append]
        rfl
      have t : ∃ s, dIx (Ex.bin .and a b).d (.int 0) = some (.str s) ∧ dEq (.str s) (.str "and") = some (.bool true) := ⟨_, rfl, rfl⟩
      exact runP_Re (N := 1) (n := 1) (m := m_conjuncts (F_conjuncts m)) (ds := [_]) (re_nx s0 (re_in (re_ift (word0 _ rfl t) (re_ret (op_e (call_e (xs := [a.d]) (cons_e (op_e rfl rfl rfl) nil_e) a1) (call_e (xs := [b.d]) (cons_e (op_e rfl rfl rfl) nil_e) b1) hadd)))))
    · have ha : ∀ a b, e ≠ .bin .and a b := fun a b z => ha ⟨a, b, z⟩
      have t := notAnd e ha
      rw [notAnd_cj e ha]
      exact runP_Rl (N := 1) (n := 1) (m := m_conjuncts (F_conjuncts m)) (ds := [_]) (xs := [e.d]) (rl_nx s0 (rl_nx (if_no (word0 _ rfl t)) (rl_ret (lst_e (cons_e rfl nil_e)))))
theorem cj_wt {k : Kd} {n : Nat} {e : Ex} (h : WT k n e) : ∀ c ∈ e.cj, WT k n c ∧ c.h ≤ e.h := by
  induction h with
  | @lg n w a b hw ha hb ia ib =>
    intro c hc
    cases w with
    | and =>
      rcases List.mem_append.mp (show c ∈ a.cj ++ b.cj from hc) with h | h
      · obtain ⟨h1, h2⟩ := ia c h; exact ⟨h1, by show _ ≤ max a.h b.h + 1; omega⟩
      · obtain ⟨h1, h2⟩ := ib c h; exact ⟨h1, by show _ ≤ max a.h b.h + 1; omega⟩
    | or => rw [List.mem_singleton.mp (show c ∈ [_] from hc)]; exact ⟨.lg rfl ha hb, Nat.le_refl _⟩
    | _ => cases hw
  | val h => intro c hc; rw [List.mem_singleton.mp (show c ∈ [_] from hc)]; exact ⟨.val h, Nat.le_refl _⟩
  | cell h => intro c hc; rw [List.mem_singleton.mp (show c ∈ [_] from hc)]; exact ⟨.cell h, Nat.le_refl _⟩
  | @ar n w a b hw ha hb ia ib =>
    intro c hc
    cases w with
    | and => cases hw
    | _ => rw [List.mem_singleton.mp (show c ∈ [_] from hc)]; exact ⟨.ar hw ha hb, Nat.le_refl _⟩
  | @cmp k n w a b hw ha hb ia ib =>
    intro c hc
    cases w with
    | and => cases hw
    | _ => rw [List.mem_singleton.mp (show c ∈ [_] from hc)]; exact ⟨.cmp hw ha hb, Nat.le_refl _⟩
  | nt ha ia => intro c hc; rw [List.mem_singleton.mp (show c ∈ [_] from hc)]; exact ⟨.nt ha, Nat.le_refl _⟩
  | nl ha ia => intro c hc; rw [List.mem_singleton.mp (show c ∈ [_] from hc)]; exact ⟨.nl ha, Nat.le_refl _⟩
  | am ha h1 h2 h3 ia => intro c hc; rw [List.mem_singleton.mp (show c ∈ [_] from hc)]; exact ⟨.am ha h1 h2 h3, Nat.le_refl _⟩
/-! #### the whole -/
def whF (c : Pl) (acc : Bd) (l : List Ex) : Bd := l.foldl (fun a p => meetM a (bm c p true)) acc
theorem whF_k {kc : Kd} {c : Pl} (hc : (c.1, c.2, kc) ∈ cellsL) {n : Nat} : ∀ {l : List Ex} {acc : Bd}, (∀ x ∈ l, WT .bool n x) → BdK kc acc → BdK kc (whF c acc l)
  | [], _, _, h => h
  | x :: l, acc, hl, h => whF_k hc (l := l) (fun y hy => hl y (List.mem_cons_of_mem _ hy)) (meet_k h (bm_k hc (hl x (List.mem_cons_self ..)) rfl true))
theorem whF_s {c : Pl} {n : Nat} : ∀ {l : List Ex} {acc : Bd}, (∀ x ∈ l, WT .bool n x) → BdS acc → BdS (whF c acc l)
  | [], _, _, h => h
  | x :: l, acc, hl, h => whF_s (l := l) (fun y hy => hl y (List.mem_cons_of_mem _ hy)) (meet_s h (bm_s c (hl x (List.mem_cons_self ..)) rfl true))
theorem all_loop {kc : Kd} {c : Pl} (hc : (c.1, c.2, kc) ∈ cellsL) {n : Nat} (hn : n ≤ 4) {P : SV} : ∀ {l : List Ex} {acc : Bd} {p : SV}, (∀ x ∈ l, WT .bool n x ∧ x.h < 9) → BdK kc acc → ∃ p', loopL (bName 3) lb_bounds_of_all_1 (l.map Ex.d) [P, .sh (pD c), .sh acc.d, p] () = some (.nx, [P, .sh (pD c), .sh (whF c acc l).d, p'], ())
  | [], acc, p, _, _ => ⟨p, rfl⟩
  | x :: l, acc, p, hl, hk => by
    obtain ⟨hx, h9⟩ := hl x (List.mem_cons_self ..)
    have kx := bm_k hc hx rfl true
    obtain ⟨p', ih⟩ := all_loop hc hn (P := P) (l := l) (acc := meetM acc (bm c x true)) (p := .sh x.d) (fun y hy => hl y (List.mem_cons_of_mem _ hy)) (meet_k hk kx)
    exact ⟨p', loop_nx (e1 := [P, .sh (pD c), .sh acc.d, .sh x.d]) rfl (set_e (call_e (xs := [acc.d, (bm c x true).d]) (cons_e rfl (cons_e (call_e (xs := [x.d, pD c, .bool true]) (cons_e rfl (cons_e rfl (cons_e rfl nil_e))) (bounds_e hc hx rfl 9 true h9 h9 hn)) nil_e)) (meet_e hk kx))) ih⟩
theorem all_e {kc : Kd} {c : Pl} (hc : (c.1, c.2, kc) ∈ cellsL) {n : Nat} (hn : n ≤ 4) {l : List Ex} (hl : ∀ x ∈ l, WT .bool n x ∧ x.h < 9) : F_bounds_of_all [.list (l.map Ex.d), pD c] = some (whF c .all l).d := by
  obtain ⟨p', lp⟩ := all_loop hc hn (P := .sh (.list (l.map Ex.d))) (acc := .all) (p := .un) hl trivial
  exact runP_Re (N := 4) (n := 2) (m := m_bounds_of_all) (ds := [.list (l.map Ex.d), pD c]) (re_nx (set_e (d := Bd.all.d) rfl) (re_nx (for_e (itL_e rfl) lp) (re_ret rfl)))
theorem sure_e {kc : Kd} {c : Pl} (hc : (c.1, c.2, kc) ∈ cellsL) {n : Nat} (hn : n ≤ 4) {e : Ex} (h : WT .bool n e) (h9 : e.h < 9) : F_sure_bounds [e.d, pD c] = some (whF c .all e.cj).d := by
  have h1 := conj_e 9 e h9 h9
  have h2 := all_e hc hn (l := e.cj) fun x hx => by obtain ⟨a, b⟩ := cj_wt h x hx; exact ⟨a, by omega⟩
  exact runP_re (N := 2) (n := 2) (m := m_sure_bounds) (ds := [e.d, pD c]) (u := ()) (ret_e (call_e (xs := [.list (e.cj.map Ex.d), pD c]) (cons_e (call_e (xs := [e.d]) (cons_e rfl nil_e) h1) (cons_e rfl nil_e)) h2))
theorem sure_none {kc : Kd} {c : Pl} (hc : (c.1, c.2, kc) ∈ cellsL) : F_sure_bounds [.none, pD c] = some Bd.all.d := by
  have h2 := all_e hc (n := 0) (by decide) (l := []) (fun _ h => nomatch h)
  exact runP_re (N := 2) (n := 2) (m := m_sure_bounds) (ds := [.none, pD c]) (u := ()) (ret_e (call_e (xs := [.list [], pD c]) (cons_e (call_e (xs := [.none]) (cons_e rfl nil_e) rfl) (cons_e rfl nil_e)) h2))
/-! #### a single value -/
def sgM : Bd → D
  | .rng (some (x, a)) (some (y, b)) => if (decide (x.r = y.r) && (a == b)) = true then .tuple [x.d] else .none
  | _ => .none
theorem range_e (x : Bd) : ∃ s, dIx x.d (.int 0) = some (.str s) ∧ dEq (.str s) (.str "range") = some (.bool (x.tg == 3)) := by cases x <;> exact ⟨_, rfl, rfl⟩
def enB (x : Wv) (a : Bool) : En → Bool
  | none => false
  | some (y, b) => decide (x.r = y.r) && (a == b)
theorem end_eq {k : Kd} {x : Wv} {a : Bool} {y : En} (hx : x.k = k) (hy : EnK k y) : dEq (En.d (some (x, a))) y.d = some (.bool (enB x a y)) := by
  cases y with
  | none => exact en_eq_none
  | some p => exact en_eq (Eq.trans hx (Eq.symm hy))
theorem single_e {k : Kd} {x : Bd} (h : BdK k x) : F_single_value [x.d] = some (sgM x) := by
  have pre : ∀ d : D, Re d m_single_value (startE 1 ([x.d].map .sh)) () → F_single_value [x.d] = some d := fun d h => runP_Re (N := 1) (n := 1) (m := m_single_value) (ds := [x.d]) h
  obtain ⟨s, s1, s2⟩ := range_e x
  cases x with
  | rng lo hi =>
    cases lo with
    | none => exact pre _ (re_nx (if_no (and_t (opT_e (op_e rfl rfl rfl) rfl rfl) (and_f (opT_e (op_e rfl rfl rfl) rfl rfl)))) (re_ret (g1 := ()) (by cases hi <;> rfl)))
    | some p =>
      obtain ⟨w, a⟩ := p
      have he := end_eq (a := a) h.1 h.2
      have t : mAnd (mOpT dEq (mOp dIx (mVar 0) (mC (.int 0))) (mC (.str "range"))) (mAnd (mOpT dIsNot (mOp dIx (mVar 0) (mC (.int 1))) (mC .none)) (mOpT dEq (mOp dIx (mVar 0) (mC (.int 1))) (mOp dIx (mVar 0) (mC (.int 2))))) (startE 1 ([(Bd.rng (some (w, a)) hi).d].map .sh)) () = _ := and_t (opT_e (op_e rfl rfl rfl) rfl rfl) (and_t (opT_e (op_e rfl rfl rfl) rfl rfl) (opT_e (op_e rfl rfl rfl) (op_e rfl rfl rfl) he))
      cases hi with
      | none => exact pre _ (re_nx (if_no t) (re_ret rfl))
      | some q =>
        obtain ⟨y, b⟩ := q
        show F_single_value _ = some (if (decide (w.r = y.r) && (a == b)) = true then .tuple [w.d] else .none)
        cases hb : (decide (w.r = y.r) && (a == b)) with
        | true => rw [show enB w a (some (y, b)) = true from hb] at t; exact pre _ (re_in (re_ift t (re_ret (tup_e (cons_e (op_e (op_e rfl rfl rfl) rfl rfl) nil_e)))))
        | false => rw [show enB w a (some (y, b)) = false from hb] at t; exact pre _ (re_nx (if_no t) (re_ret rfl))
  | _ => exact pre _ (re_nx (if_no (and_f (opT_e (op_e rfl rfl rfl) rfl rfl))) (re_ret rfl))
end K32

namespace K32
open PySem Pd
theorem ixT_nat {ds : List D} {j : Nat} {x : D} (h : ds[j]? = some x) : dIx (.tuple ds) (.int (j : Int)) = some x := L2.atI_nat h
abbrev LW (c : Addr) (tree turn value side more kept pools i j kind bv wanted told due row whole part single number : SV) : Pd.Env := [.raw (.ref c), .st, .sh (.list (cellsL.map cD)), tree, turn, value, side, more, kept, pools, i, j, kind, bv, wanted, told, due, row, .un, whole, part, single, number]
def poolI : List D := [.none, .int (0 - 3), .int (0 - 2), .int (0 - 1), .int 0, .int 1, .int 2, .int 3, .int 4, .int 5]
def poolT : List D := [.none, .str "", .str "a", .str "ab", .str "b", .str "b a", .str "c"]
def poolB : List D := [.none, .bool false, .bool true]
def pool : Kd → List D
  | .int => poolI
  | .text => poolT
  | .bool => poolB
def poolsV : SV := .kd ((["int", "text", "bool"] : List Str).zip [.list poolI, .list poolT, .list poolB])
theorem pool_e {env : Pd.Env} {g g1 : Dc} {me : ME Dc} {k : Kd} (h9 : env.at 9 = poolsV) (h : me env g = some (.str k.s, g1)) : mKdIx 9 me env g = some (.list (pool k), g1) := by
  unfold mKdIx
  rw [h]
  dsimp only [bD]
  rw [h9]
  cases k <;> rfl
theorem pool_vd {k : Kd} : ∀ d ∈ pool k, Vd k d := by
  intro d hd
  cases k with
  | int =>
    simp only [pool, poolI, List.mem_cons, List.not_mem_nil, or_false] at hd
    rcases hd with rfl | rfl | rfl | rfl | rfl | rfl | rfl | rfl | rfl | rfl
    · exact .inl rfl
    all_goals exact .inr ⟨_, rfl, by decide, by decide⟩
  | text =>
    simp only [pool, poolT, List.mem_cons, List.not_mem_nil, or_false] at hd
    rcases hd with rfl | rfl | rfl | rfl | rfl | rfl | rfl
    · exact .inl rfl
    all_goals exact .inr ⟨_, by simp, rfl⟩
  | bool =>
    simp only [pool, poolB, List.mem_cons, List.not_mem_nil, or_false] at hd
    rcases hd with rfl | rfl | rfl
    · exact .inl rfl
    all_goals exact .inr ⟨_, rfl⟩
theorem vd_va {k : Kd} {d : D} (h : Vd k d) : ∃ v : Va, v.d = d ∧ VaK k v := by
  rcases vd_w h with ⟨rfl, _⟩ | ⟨w, _, rfl, hk⟩
  · exact ⟨none, rfl, trivial⟩
  · exact ⟨some w, rfl, hk⟩
theorem compL_c {G : Type} {bt : MTg G} {me : ME G} {env e1 : Pd.Env} {g g1 g2 g3 : G} {d x : D} {ds xs : List D} (h1 : bt d env g = some (e1, g1)) (h2 : me e1 g1 = some (x, g2)) (h3 : compL bt mYes me env ds g2 = some (xs, g3)) : compL bt mYes me env (d :: ds) g = some (x :: xs, g3) := by
  unfold compL
  rw [h1]
  dsimp only [mYes]
  rw [h2]
  dsimp only
  rw [h3]
def Rr (x0 x1 x2 : D) (_i j : Nat) : D := ([x0, x1, x2] : List D).getD j .none
theorem row_ok {x0 x1 x2 : D} (v0 : Vd .int x0) (v1 : Vd .text x1) (v2 : Vd .bool x2) : RowsOk (.tuple [.tuple [x0, x1, x2]]) (Rr x0 x1 x2) where
  cell := fun i j k h => by
    simp only [cellsL, List.mem_cons, Prod.mk.injEq, List.not_mem_nil, or_false] at h
    rcases h with ⟨rfl, rfl, rfl⟩ | ⟨rfl, rfl, rfl⟩ | ⟨rfl, rfl, rfl⟩
    · exact ⟨_, ixT_nat (j := 0) rfl, ixT_nat (j := 0) rfl⟩
    · exact ⟨_, ixT_nat (j := 0) rfl, ixT_nat (j := 1) rfl⟩
    · exact ⟨_, ixT_nat (j := 0) rfl, ixT_nat (j := 2) rfl⟩
  vd := fun i j k h => by
    simp only [cellsL, List.mem_cons, Prod.mk.injEq, List.not_mem_nil, or_false] at h
    rcases h with ⟨rfl, rfl, rfl⟩ | ⟨rfl, rfl, rfl⟩ | ⟨rfl, rfl, rfl⟩ <;> assumption
theorem row_ix {x0 x1 x2 : D} {i j : Nat} {k : Kd} (h : (i, j, k) ∈ cellsL) : dIx (.tuple [x0, x1, x2]) (.int (j : Int)) = some (Rr x0 x1 x2 i j) := by
  simp only [cellsL, List.mem_cons, Prod.mk.injEq, List.not_mem_nil, or_false] at h
  rcases h with ⟨rfl, rfl, rfl⟩ | ⟨rfl, rfl, rfl⟩ | ⟨rfl, rfl, rfl⟩
  · exact ixT_nat (j := 0) rfl
  · exact ixT_nat (j := 1) rfl
  · exact ixT_nat (j := 2) rfl
section
variable {g : Dc} {c : Addr} {tree turn value side more kept i j kind bv wanted told due row whole part single number : SV}
theorem row_e (hc : g.c = c) : ∃ x0 x1 x2 g', Vd .int x0 ∧ Vd .text x1 ∧ Vd .bool x2 ∧ g'.c = c ∧ compL (bName 18) mYes (mCallG F__law_pick (gConsS 1 (gConsS 0 (gCons (mKdIx 9 (mOp dIx (mVar 18) (mC (.int 2)))) gNil)))) (Pd.Env.wipe (LW c tree turn value side more kept poolsV i j kind bv wanted told due row whole part single number) [18]) (cellsL.map cD) g = .some ([x0, x1, x2], g') := by
  have one : ∀ (g : Dc) (k : Kd) (n m : Nat), g.c = c → ∃ x g', Vd k x ∧ g'.c = c ∧ mCallG F__law_pick (gConsS 1 (gConsS 0 (gCons (mKdIx 9 (mOp dIx (mVar 18) (mC (.int 2)))) gNil))) ((Pd.Env.wipe (LW c tree turn value side more kept poolsV i j kind bv wanted told due row whole part single number) [18]).set 18 (.sh (cD (n, m, k)))) g = .some (x, g') := fun g k n m hc => by
    obtain ⟨x, hx, g1, e1, c1⟩ := picked (env := (Pd.Env.wipe (LW c tree turn value side more kept poolsV i j kind bv wanted told due row whole part single number) [18]).set 18 (.sh (cD (n, m, k)))) (g := g) (i := 1) (k := 0) (me := mKdIx 9 (mOp dIx (mVar 18) (mC (.int 2)))) (xs := pool k) rfl (by rw [hc]; rfl) (pool_e rfl (op_e (x := cD (n, m, k)) rfl rfl rfl)) (by cases k <;> (intro z; cases z)) (by cases k <;> decide)
    exact ⟨x, g1, pool_vd x hx, c1.trans hc, e1⟩
  obtain ⟨x0, g1, v0, c1, e1⟩ := one g .int 0 0 hc
  obtain ⟨x1, g2, v1, c2, e2⟩ := one g1 .text 0 1 c1
  obtain ⟨x2, g3, v2, c3, e3⟩ := one g2 .bool 0 2 c2
  exact ⟨x0, x1, x2, g3, v0, v1, v2, c3, compL_c rfl e1 (compL_c rfl e2 (compL_c rfl e3 rfl))⟩
theorem turnR_e {kc : Kd} {p : Pl} (hp : (p.1, p.2, kc) ∈ cellsL) {n : Nat} {e : Ex} (hw : WT .bool n e) (hn : n ≤ 4) (h9 : e.h < 9) {wn : Bool} (hc : g.c = c) : ∃ row' g', g'.c = c ∧ lb_law_3 (LW c (.sh e.d) turn value side more kept poolsV (.sh (.int (p.1 : Int))) (.sh (.int (p.2 : Int))) kind bv (.sh (.bool wn)) (.sh (bm p e wn).d) due row whole part single number) g = .some (.nx, LW c (.sh e.d) turn value side more kept poolsV (.sh (.int (p.1 : Int))) (.sh (.int (p.2 : Int))) kind bv (.sh (.bool wn)) (.sh (bm p e wn).d) due row' whole part single number, g') := by
  obtain ⟨x0, x1, x2, g1, v0, v1, v2, c1, e1⟩ := row_e (g := g) (c := c) (tree := .sh e.d) (turn := turn) (value := value) (side := side) (more := more) (kept := kept) (i := .sh (.int (p.1 : Int))) (j := .sh (.int (p.2 : Int))) (kind := kind) (bv := bv) (wanted := .sh (.bool wn)) (told := .sh (bm p e wn).d) (due := due) (row := row) (whole := whole) (part := part) (single := single) (number := number) hc
  have ok := row_ok v0 v1 v2
  obtain ⟨v, hv, hk⟩ := vd_va (ok.vd _ _ _ hp)
  have hval := value_e (fD := .tuple []) ok hw 9 h9 hn
  have b3 : B3 (e.v (Rr x0 x1 x2)) := val_vb ok hw hn
  have hl := lin_e (bm_k hp hw rfl wn) hk
  rw [hv] at hl
  refine ⟨.sh (.tuple [x0, x1, x2]), g1, c1, seq_nx (set_e (d := .tuple [x0, x1, x2]) (call_e (xs := [.list [x0, x1, x2]]) (cons_e (L_e (comp_e (itL_e rfl) rfl e1)) nil_e) rfl)) (if_no ?_)⟩
  have hdq : dEq (e.v (Rr x0 x1 x2)) (.bool wn) = .some (.bool (isBd wn (e.v (Rr x0 x1 x2)))) := eq_b3 b3 wn
  have t := opT_e (f := dEq) (ma := mCall (F_value_of 9) (mCons (mVar 3) (mCons (mTup (mCons (mVar 17) mNil)) (mCons (mTup mNil) mNil)))) (mb := mVar 14) (env := LW c (.sh e.d) turn value side more kept poolsV (.sh (.int (p.1 : Int))) (.sh (.int (p.2 : Int))) kind bv (.sh (.bool wn)) (.sh (bm p e wn).d) due (.sh (.tuple [x0, x1, x2])) whole part single number) (g := g1) (call_e (xs := [e.d, .tuple [.tuple [x0, x1, x2]], .tuple []]) (cons_e rfl (cons_e (tup_e (cons_e rfl nil_e)) (cons_e (tup_e nil_e) nil_e))) hval) rfl hdq
  cases hb : isBd wn (e.v (Rr x0 x1 x2)) with
  | false => rw [hb] at t; exact and_f t
  | true =>
    rw [hb] at t
    have hvv : e.v (Rr x0 x1 x2) = .bool wn := by
      rcases b3 with h | ⟨b, h⟩
      · rw [h] at hb; cases hb
      · rw [h] at hb ⊢; cases b <;> cases wn <;> first | rfl | cases hb
    have hin := sound hp hv.symm hk hw rfl wn hvv
    rw [hin] at hl
    refine and_t t ((not_e (tru_e (x := .bool true) (b := true) (call_e (xs := [(bm p e wn).d, Rr x0 x1 x2 p.1 p.2]) (cons_e rfl (cons_e (op_e (x := .tuple [x0, x1, x2]) (y := .int (p.2 : Int)) rfl rfl (row_ix hp)) nil_e)) hl) rfl)).trans rfl)
theorem want_e {kc : Kd} {p : Pl} (hp : (p.1, p.2, kc) ∈ cellsL) {n : Nat} {e : Ex} (hw : WT .bool n e) (hn : n ≤ 4) (h9 : e.h < 9) {wn : Bool} {bs : List D} (hb : bs.length ≤ 5) (hc : g.c = c) : ∃ turn' value' row' g', g'.c = c ∧ lb_law_4 (LW c (.sh e.d) turn value side more kept poolsV (.sh (.int (p.1 : Int))) (.sh (.int (p.2 : Int))) (.sh (.str kc.s)) (.ow bs) (.sh (.bool wn)) told due row whole part single number) g = .some (.nx, LW c (.sh e.d) turn' value' side more kept poolsV (.sh (.int (p.1 : Int))) (.sh (.int (p.2 : Int))) (.sh (.str kc.s)) (.ow (bs ++ [(bm p e wn).d])) (.sh (.bool wn)) (.sh (bm p e wn).d) (.sh (bm p e wn).d) row' whole part single number, g') := by
  have kb := bm_k hp hw rfl wn
  have hr := repr_bd (bm_s p hw rfl wn)
  let EA := fun (turn value row : SV) => LW c (.sh e.d) turn value side more kept poolsV (.sh (.int (p.1 : Int))) (.sh (.int (p.2 : Int))) (.sh (.str kc.s)) (.ow (bs ++ [(bm p e wn).d])) (.sh (.bool wn)) (.sh (bm p e wn).d) (.sh (bm p e wn).d) row whole part single number
  obtain ⟨e2, g2, h2, ⟨value2, rfl⟩, c2⟩ := loop_inv (bt := bName 5) (mb := lb_law_2) (fun env g' => (∃ value', env = EA turn value' row) ∧ g'.c = c) (ds := pool kc) (env := EA turn value row) (g := g) ⟨⟨_, rfl⟩, hc⟩ (by
    rintro d hd env g' ⟨⟨v', rfl⟩, hc'⟩
    obtain ⟨v, rfl, hk⟩ := vd_va (pool_vd d hd)
    refine ⟨_, rfl, EA turn (.sh v.d) row, g', .inl (if_no (opT_e (call_e (xs := [(bm p e wn).d, v.d]) (cons_e rfl (cons_e rfl nil_e)) (within_e kb hk)) (call_e (xs := [(bm p e wn).d, v.d]) (cons_e rfl (cons_e rfl nil_e)) (lin_e kb hk)) ((ne_bb _ _).trans (by simp)))), ⟨_, rfl⟩, hc'⟩)
  obtain ⟨e3, g3, h3, ⟨turn3', row3, rfl⟩, c3⟩ := loop_inv (bt := bName 4) (mb := lb_law_3) (fun env g' => (∃ turn' row', env = EA turn' value2 row') ∧ g'.c = c) (ds := rng 0 8) (env := EA turn value2 row) (g := g2) ⟨⟨_, _, rfl⟩, c2⟩ (by
    rintro d hd env g' ⟨⟨t', r', rfl⟩, hc'⟩
    obtain ⟨row', g4, c4, h4⟩ := turnR_e (g := g') (c := c) (turn := .sh d) (value := value2) (side := side) (more := more) (kept := kept) (kind := .sh (.str kc.s)) (bv := .ow (bs ++ [(bm p e wn).d])) (due := .sh (bm p e wn).d) (row := r') (whole := whole) (part := part) (single := single) (number := number) hp hw hn h9 (wn := wn) hc'
    exact ⟨_, rfl, EA (.sh d) value2 row', g4, .inl h4, ⟨_, _, rfl⟩, c4⟩)
  have hbe := bounds_e hp hw rfl 9 wn h9 h9 hn
  have hlb := lbounds_e hp hw rfl 9 wn h9 h9 hn
  have z := z2000
  refine ⟨turn3', value2, row3, g3, c3, seq_nx (set_e (d := (bm p e wn).d) (g1 := g) (call_e (xs := [e.d, pD p, .bool wn]) (cons_e rfl (cons_e (tup_e (cons_e rfl (cons_e rfl nil_e))) (cons_e rfl nil_e))) ?b1)) (seq_nx (set_e (d := (bm p e wn).d) (g1 := g) (call_e (xs := [e.d, pD p, .bool wn]) (cons_e rfl (cons_e (tup_e (cons_e rfl (cons_e rfl nil_e))) (cons_e rfl nil_e))) ?b2)) (seq_nx (g1 := g) (if_no (opT_e (call_e (xs := [(bm p e wn).d]) (cons_e rfl nil_e) hr) (call_e (xs := [(bm p e wn).d]) (cons_e rfl nil_e) hr) (str_ne _))) (seq_nx (e1 := EA turn value row) (g1 := g) (app_e (ds := bs) (d := (bm p e wn).d) rfl rfl (by omega)) (seq_nx (for_e (itL_e (pool_e rfl rfl)) h2) (for_e (rng1_e (j := 8) (cons_e rfl nil_e) (by decide)) h3)))))⟩
  case b1 => exact hbe
  case b2 => exact hlb
end
end K32

namespace K32
open PySem Pd
theorem sg_ni (x : Bd) : Ni 64 (sgM x) := by
  have h0 : Ni 64 .none := (ni_scal rfl).mono (by decide)
  cases x with
  | rng lo hi =>
    rcases lo with _ | ⟨x, a⟩
    · exact h0
    · rcases hi with _ | ⟨y, b⟩
      · exact h0
      · show Ni 64 (if _ then _ else _)
        split
        · exact (ni_tup (n := 1) fun z hz => by rw [List.mem_singleton.mp hz]; exact ni_scal (w_scal x)).mono (by decide)
        · exact h0
  | _ => exact h0
section
variable {g : Dc} {c : Addr} {tree turn value side more kept i j kind bv wanted told due row whole part single number : SV}
theorem sgl_e {k : Kd} {x : Bd} (h : BdK k x) : (mIfS (mAnd (mOpT dEq (mOp dIx (mVar 19) (mC (.int 0))) (mC (.str "range"))) (mAnd (mOpT dIsNot (mOp dIx (mVar 19) (mC (.int 1))) (mC .none)) (mOpT dEq (mOp dIx (mVar 19) (mC (.int 1))) (mOp dIx (mVar 19) (mC (.int 2))))))
    (mSet 21 (mTup (mCons (mOp dIx (mOp dIx (mVar 19) (mC (.int 1))) (mC (.int 0))) mNil)))
    mSkip) (LW c tree turn value side more kept poolsV i j kind bv wanted told due row (.sh x.d) part (.sh .none) number) g = .some (.nx, LW c tree turn value side more kept poolsV i j kind bv wanted told due row (.sh x.d) part (.sh (sgM x)) number, g) := by
  cases x with
  | rng lo hi =>
    rcases lo with _ | ⟨w, a⟩
    · exact if_no (and_t (opT_e (op_e rfl rfl rfl) rfl rfl) (and_f (opT_e (op_e rfl rfl rfl) rfl rfl)))
    · have he := end_eq (a := a) h.1 h.2
      have t : mAnd (mOpT dEq (mOp dIx (mVar 19) (mC (.int 0))) (mC (.str "range"))) (mAnd (mOpT dIsNot (mOp dIx (mVar 19) (mC (.int 1))) (mC .none)) (mOpT dEq (mOp dIx (mVar 19) (mC (.int 1))) (mOp dIx (mVar 19) (mC (.int 2))))) (LW c tree turn value side more kept poolsV i j kind bv wanted told due row (.sh (Bd.rng (.some (w, a)) hi).d) part (.sh .none) number) g = .some (enB w a hi, g) := and_t (opT_e (op_e rfl rfl rfl) rfl rfl) (and_t (opT_e (op_e rfl rfl rfl) rfl rfl) (opT_e (op_e rfl rfl rfl) (op_e rfl rfl rfl) he))
      rcases hi with _ | ⟨y, b⟩
      · exact if_no t
      · cases hb : (decide (w.r = y.r) && (a == b)) with
        | true =>
          rw [show enB w a (.some (y, b)) = true from hb] at t
          rw [show sgM (.rng (.some (w, a)) (.some (y, b))) = .tuple [w.d] from if_pos hb]
          exact if_t t (set_e (tup_e (cons_e (op_e (op_e rfl rfl rfl) rfl rfl) nil_e)))
        | false =>
          rw [show enB w a (.some (y, b)) = false from hb] at t
          rw [show sgM (.rng (.some (w, a)) (.some (y, b))) = .none from if_neg (by rw [hb]; simp)]
          exact if_no t
  | _ => exact if_no (and_f (opT_e (op_e rfl rfl rfl) rfl rfl))
theorem whole_loop {kc : Kd} {p : Pl} (hp : (p.1, p.2, kc) ∈ cellsL) {n : Nat} (hn : n ≤ 4) : ∀ {l : List Ex} {acc : Bd} {part : SV}, (∀ x ∈ l, WT .bool n x ∧ x.h < 9) → BdK kc acc → ∃ part', loopL (bName 20) lb_law_6 (l.map Ex.d) (LW c tree turn value side more kept poolsV (.sh (.int (p.1 : Int))) (.sh (.int (p.2 : Int))) kind bv wanted told due row (.sh acc.d) part single number) g = .some (.nx, LW c tree turn value side more kept poolsV (.sh (.int (p.1 : Int))) (.sh (.int (p.2 : Int))) kind bv wanted told due row (.sh (whF p acc l).d) part' single number, g)
  | [], acc, part, _, _ => ⟨part, rfl⟩
  | x :: l, acc, part, hl, hk => by
    obtain ⟨hx, h9⟩ := hl x (List.mem_cons_self ..)
    have kx := bm_k hp hx rfl true
    obtain ⟨p', ih⟩ := whole_loop hp hn (l := l) (acc := meetM acc (bm p x true)) (part := .sh x.d) (fun y hy => hl y (List.mem_cons_of_mem _ hy)) (meet_k hk kx)
    exact ⟨p', loop_nx (e1 := LW c tree turn value side more kept poolsV (.sh (.int (p.1 : Int))) (.sh (.int (p.2 : Int))) kind bv wanted told due row (.sh acc.d) (.sh x.d) single number) rfl (set_e (call_e (xs := [acc.d, (bm p x true).d]) (cons_e rfl (cons_e (call_e (xs := [x.d, pD p, .bool true]) (cons_e rfl (cons_e (tup_e (cons_e rfl (cons_e rfl nil_e))) (cons_e rfl nil_e))) (lbounds_e hp hx rfl 9 true h9 h9 hn)) nil_e)) (lmeet_e hk kx))) ih⟩
theorem cell_e {kc : Kd} {p : Pl} (hp : (p.1, p.2, kc) ∈ cellsL) {n : Nat} {e : Ex} (hw : WT .bool n e) (hn : n ≤ 4) (h9 : e.h < 9) (hc : g.c = c) : ∃ turn' value' bv' wanted' told' due' row' whole' part' single' g', g'.c = c ∧ lb_law_7 (LW c (.sh e.d) turn value side more kept poolsV (.sh (.int (p.1 : Int))) (.sh (.int (p.2 : Int))) (.sh (.str kc.s)) bv wanted told due row whole part single number) g = .some (.nx, LW c (.sh e.d) turn' value' side more kept poolsV (.sh (.int (p.1 : Int))) (.sh (.int (p.2 : Int))) (.sh (.str kc.s)) bv' wanted' told' due' row' whole' part' single' number, g') := by
  obtain ⟨turn1, value1, row1, g1, c1, h1⟩ := want_e (g := g) (c := c) (turn := turn) (value := value) (side := side) (more := more) (kept := kept) (told := told) (due := due) (row := row) (whole := whole) (part := part) (single := single) (number := number) hp hw hn h9 (wn := true) (bs := []) (by decide) hc
  obtain ⟨turn2, value2, row2, g2, c2, h2⟩ := want_e (g := g1) (c := c) (turn := turn1) (value := value1) (side := side) (more := more) (kept := kept) (told := .sh (bm p e true).d) (due := .sh (bm p e true).d) (row := row1) (whole := whole) (part := part) (single := single) (number := number) hp hw hn h9 (wn := false) (bs := [(bm p e true).d]) (by show 1 ≤ 5; decide) c1
  let m1 := bm p e true
  let m2 := bm p e false
  have k1 : BdK kc m1 := bm_k hp hw rfl true
  have k2 : BdK kc m2 := bm_k hp hw rfl false
  have s1 : BdS m1 := bm_s p hw rfl true
  have s2 : BdS m2 := bm_s p hw rfl false
  let EB := fun (value whole part single : SV) => LW c (.sh e.d) turn2 value side more kept poolsV (.sh (.int (p.1 : Int))) (.sh (.int (p.2 : Int))) (.sh (.str kc.s)) (.ow [m1.d, m2.d]) (.sh (.bool false)) (.sh m2.d) (.sh m2.d) row2 whole part single number
  have ix0 : ∀ {a b d s : SV}, mIxOw 13 (mC (.int 0)) (EB a b d s) g2 = .some (m1.d, g2) := ixOw_e (i := 0) (ds := [m1.d, m2.d]) rfl rfl rfl
  have ix1 : ∀ {a b d s : SV}, mIxOw 13 (mC (.int 1)) (EB a b d s) g2 = .some (m2.d, g2) := ixOw_e (i := 1) (ds := [m1.d, m2.d]) rfl rfl rfl
  have cm : ∀ {a b d s : SV}, mCall F_meet (mCons (mIxOw 13 (mC (.int 0))) (mCons (mIxOw 13 (mC (.int 1))) mNil)) (EB a b d s) g2 = .some ((meetM m1 m2).d, g2) := call_e (xs := [m1.d, m2.d]) (cons_e ix0 (cons_e ix1 nil_e)) (meet_e k1 k2)
  have cl : ∀ {a b d s : SV}, mCall F__law_meet (mCons (mIxOw 13 (mC (.int 0))) (mCons (mIxOw 13 (mC (.int 1))) mNil)) (EB a b d s) g2 = .some ((meetM m1 m2).d, g2) := call_e (xs := [m1.d, m2.d]) (cons_e ix0 (cons_e ix1 nil_e)) (lmeet_e k1 k2)
  have cj : ∀ {a b d s : SV}, mCall F_join (mCons (mIxOw 13 (mC (.int 0))) (mCons (mIxOw 13 (mC (.int 1))) mNil)) (EB a b d s) g2 = .some ((joinM m1 m2).d, g2) := call_e (xs := [m1.d, m2.d]) (cons_e ix0 (cons_e ix1 nil_e)) (join_e k1 k2)
  have ck : ∀ {a b d s : SV}, mCall F__law_join (mCons (mIxOw 13 (mC (.int 0))) (mCons (mIxOw 13 (mC (.int 1))) mNil)) (EB a b d s) g2 = .some ((joinM m1 m2).d, g2) := call_e (xs := [m1.d, m2.d]) (cons_e ix0 (cons_e ix1 nil_e)) (ljoin_e k1 k2)
  have rm := repr_bd (meet_s s1 s2)
  have rj := repr_bd (join_s s1 s2)
  have kk : BdK kc (meetM m1 m2) := meet_k k1 k2
  obtain ⟨e3, g3, h3, ⟨value3, rfl⟩, rfl⟩ := loop_inv (bt := bName 5) (mb := lb_law_5) (fun env g' => (∃ value', env = EB value' whole part single) ∧ g' = g2) (ds := pool kc) (env := EB value2 whole part single) (g := g2) ⟨⟨_, rfl⟩, rfl⟩ (by
    rintro d hd env g' ⟨⟨v', rfl⟩, rfl⟩
    obtain ⟨v, rfl, hk⟩ := vd_va (pool_vd d hd)
    refine ⟨_, rfl, EB (.sh v.d) whole part single, g', .inl (if_no (opT_e (g2 := g') (x := .bool (inM (meetM m1 m2) v)) (y := .bool (inM m1 v && inM m2 v)) (call_e (xs := [(meetM m1 m2).d, v.d]) (cons_e cm (cons_e rfl nil_e)) (lin_e kk hk)) (bool_and (call_e (xs := [m1.d, v.d]) (cons_e ix0 (cons_e rfl nil_e)) (lin_e k1 hk)) (call_e (xs := [m2.d, v.d]) (cons_e ix1 (cons_e rfl nil_e)) (lin_e k2 hk))) ((ne_bb _ _).trans ?_))), ⟨_, rfl⟩, rfl⟩
    rw [meet_in k1 k2]
    simp)
  have hcj := conj_e 9 e h9 h9
  have hcw : ∀ x ∈ e.cj, WT .bool n x ∧ x.h < 9 := fun x hx => by obtain ⟨a, b⟩ := cj_wt hw x hx; exact ⟨a, by omega⟩
  obtain ⟨part4, h4⟩ := whole_loop (g := g3) (c := c) (tree := .sh e.d) (turn := turn2) (value := value3) (side := side) (more := more) (kept := kept) (kind := .sh (.str kc.s)) (bv := .ow [m1.d, m2.d]) (wanted := .sh (.bool false)) (told := .sh m2.d) (due := .sh m2.d) (row := row2) (single := single) (number := number) hp hn (l := e.cj) (acc := .all) (part := part) hcw trivial
  let W := whF p .all e.cj
  have kW : BdK kc W := whF_k hp (fun x hx => (hcw x hx).1) trivial
  have sW : BdS W := whF_s (fun x hx => (hcw x hx).1) trivial
  have rW := repr_bd sW
  have hsure := sure_e hp hn hw h9
  have hall := all_e hp hn hcw
  have hnone := sure_none hp
  have hsg := single_e kW
  have hone := single_e (k := .int) (x := .rng (.some (.int 1, true)) (.some (.int 1, true))) ⟨rfl, rfl⟩
  have pr : ∀ {a b d s : SV}, mTup (mCons (mVar 10) (mCons (mVar 11) mNil)) (EB a b d s) g3 = .some (pD p, g3) := tup_e (cons_e rfl (cons_e rfl nil_e))
  refine ⟨turn2, value3, .ow [m1.d, m2.d], .sh (.bool false), .sh m2.d, .sh m2.d, row2, .sh W.d, part4, .sh (sgM W), g3, c2, ?_⟩
  refine seq_nx (setF_e (lst_e nil_e)) (seq_nx (e1 := EB value2 whole part single) (g1 := g3) (for_e (itL_e (L_e (lst_e (cons_e rfl (cons_e rfl nil_e))))) (loop_nx rfl h1 (loop_nx rfl h2 loop_nil))) (seq_nx (g1 := g3) (if_no (or_f (opT_e (call_e (xs := [(meetM m1 m2).d]) (cons_e cm nil_e) rm) (call_e (xs := [(meetM m1 m2).d]) (cons_e cl nil_e) rm) (str_ne _)) (opT_e (call_e (xs := [(joinM m1 m2).d]) (cons_e cj nil_e) rj) (call_e (xs := [(joinM m1 m2).d]) (cons_e ck nil_e) rj) (str_ne _)))) (seq_nx (for_e (itL_e (pool_e rfl rfl)) h3) (seq_nx (e1 := EB value3 (.sh Bd.all.d) part single) (g1 := g3) (set_e (tup_e (cons_e rfl nil_e))) (seq_nx (e1 := EB value3 (.sh W.d) part4 single) (g1 := g3) (for_e (itL_e (call_e (xs := [e.d]) (cons_e rfl nil_e) ?cj)) h4) (seq_nx (g1 := g3) (if_no (or_f (g1 := g3) ?t1 (or_f (g1 := g3) ?t2 ?t3))) (seq_nx (e1 := EB value3 (.sh W.d) part4 (.sh .none)) (g1 := g3) (set_e rfl) (seq_nx (sgl_e kW) (if_no (or_f (g1 := g3) ?t4 ?t5))))))))))
  case cj => exact hcj
  case t1 => exact opT_e (g2 := g3) (call_e (xs := [W.d]) (cons_e (call_e (xs := [e.d, pD p]) (cons_e rfl (cons_e pr nil_e)) hsure) nil_e) rW) (call_e (xs := [W.d]) (cons_e rfl nil_e) rW) (str_ne _)
  case t2 => exact opT_e (g2 := g3) (call_e (xs := [W.d]) (cons_e (call_e (xs := [.list (e.cj.map Ex.d), pD p]) (cons_e (call_e (xs := [e.d]) (cons_e rfl nil_e) hcj) (cons_e pr nil_e)) hall) nil_e) rW) (call_e (xs := [W.d]) (cons_e rfl nil_e) rW) (str_ne _)
  case t3 => exact opT_e (g2 := g3) (call_e (xs := [.none, pD p]) (cons_e rfl (cons_e pr nil_e)) hnone) (tup_e (cons_e rfl nil_e)) rfl
  case t4 => exact opT_e (g2 := g3) (call_e (xs := [W.d]) (cons_e rfl nil_e) hsg) rfl ((sg_ni W).ne (Nat.le_refl _))
  case t5 => exact opT_e (g2 := g3) (call_e (xs := [(Bd.rng (.some (.int 1, true)) (.some (.int 1, true))).d]) (cons_e (tup_e (cons_e rfl (cons_e (tup_e (cons_e rfl (cons_e rfl nil_e))) (cons_e (tup_e (cons_e rfl (cons_e rfl nil_e))) nil_e)))) nil_e) hone) (tup_e (cons_e rfl nil_e)) rfl
end
end K32

namespace K32
open PySem Pd
theorem WT.le {k : Kd} {n m : Nat} {e : Ex} (h : WT k n e) (hm : n ≤ m) : WT k m e := by
  induction hm with
  | refl => exact h
  | step _ ih => exact ih.up
theorem c00 {n : Nat} : WT .int n (.cell 0 0) := .cell (List.mem_cons_self ..)
section
variable {g : Dc} {c : Addr} {turn value side more kept : SV}
abbrev L0 (c : Addr) (tree turn value side more : SV) : Pd.Env := LW c tree turn value side more .un .un .un .un .un .un .un .un .un .un .un .un .un .un
theorem wrap_e {e : Ex} (hw : WT .bool 4 e) (hc : g.c = c) : ∃ e' value' side' more' g', WT .bool 4 e' ∧ e'.h ≤ max e.h 2 + 1 ∧ g'.c = c ∧ lb_law_1 (L0 c (.sh e.d) turn value side more) g = .some (.nx, L0 c (.sh e'.d) turn value' side' more', g') := by
  obtain ⟨j, g1, e1, j0, j1, c1⟩ := drawn (env := L0 c (.sh e.d) turn value side more) (g := g) (i := 1) (k := 0) (me := mC (.int 5)) (m := 5) rfl (by rw [hc]; rfl) rfl (by decide)
  have c1 := c1.trans hc
  let v : Int := j - 1
  let vE : Ex := .val (.int v)
  have wv : WT .int 0 vE := .val (.inr ⟨v, rfl, by omega, by omega⟩)
  let E1 := L0 c (.sh e.d) turn (.sh vE.d) side more
  have cE : ∀ {env : Pd.Env} {g : Dc}, mTup (mCons (mC (.str "cell")) (mCons (mC (.int 0)) (mCons (mC (.int 0)) mNil))) env g = .some ((Ex.cell 0 0).d, g) := tup_e (cons_e rfl (cons_e rfl (cons_e rfl nil_e)))
  obtain ⟨x, hx, g2, e2, c2⟩ := picked (env := E1) (g := g1) (i := 1) (k := 0) (me := mL (mLst (mCons (mTup (mCons (mTup (mCons (mC (.str "cell")) (mCons (mC (.int 0)) (mCons (mC (.int 0)) mNil)))) (mCons (mVar 5) mNil))) (mCons (mTup (mCons (mVar 5) (mCons (mTup (mCons (mC (.str "cell")) (mCons (mC (.int 0)) (mCons (mC (.int 0)) mNil)))) mNil))) mNil)))) (xs := [.tuple [(Ex.cell 0 0).d, vE.d], .tuple [vE.d, (Ex.cell 0 0).d]]) rfl (by rw [c1]; rfl) (L_e (lst_e (cons_e (tup_e (cons_e cE (cons_e rfl nil_e))) (cons_e (tup_e (cons_e rfl (cons_e cE nil_e))) nil_e)))) (by simp) (by show 2 < _; decide)
  have c2 := c2.trans c1
  have hside : ∃ a b : Ex, x = .tuple [a.d, b.d] ∧ WT .int 0 a ∧ WT .int 0 b ∧ a.h = 0 ∧ b.h = 0 := by
    simp only [List.mem_cons, List.not_mem_nil, or_false] at hx
    rcases hx with rfl | rfl
    · exact ⟨_, _, rfl, c00, wv, rfl, rfl⟩
    · exact ⟨_, _, rfl, wv, c00, rfl, rfl⟩
  obtain ⟨a, b, rfl, wa, wb, ha, hb⟩ := hside
  let E2 := L0 c (.sh e.d) turn (.sh vE.d) (.sh (.tuple [a.d, b.d])) more
  obtain ⟨y, hy, g3, e3, c3⟩ := picked (env := E2) (g := g2) (i := 1) (k := 0) (me := mL (mLst (mCons (mC (.str "less")) (mCons (mC (.str "same")) mNil)))) (xs := [.str "less", .str "same"]) rfl (by rw [c2]; rfl) (L_e (lst_e (cons_e rfl (cons_e rfl nil_e)))) (by simp) (by show 2 < _; decide)
  have c3 := c3.trans c2
  have hw2 : ∃ w : W2, y = .str w.s ∧ w.cmp = true := by
    simp only [List.mem_cons, List.not_mem_nil, or_false] at hy
    rcases hy with rfl | rfl
    · exact ⟨.less, rfl, rfl⟩
    · exact ⟨.same, rfl, rfl⟩
  obtain ⟨w, rfl, hwc⟩ := hw2
  let m0 : Ex := .bin w a b
  have w0 : WT .bool 1 m0 := .cmp hwc wa wb
  have h0 : m0.h = 1 := by show max a.h b.h + 1 = 1; rw [ha, hb]; rfl
  let mA : Ex := .am (.cell 0 0) [.int 3, .int 1, .int v]
  have wA : WT .bool 1 mA := .am c00 (fun d hd => by
    simp only [List.mem_cons, List.not_mem_nil, or_false] at hd
    rcases hd with rfl | rfl | rfl
    · exact .inr ⟨_, rfl, by decide, by decide⟩
    · exact .inr ⟨_, rfl, by decide, by decide⟩
    · exact .inr ⟨v, rfl, by omega, by omega⟩) (by show 1 ≤ 3; decide) (by show 3 ≤ 3; decide)
  let E3 := L0 c (.sh e.d) turn (.sh vE.d) (.sh (.tuple [a.d, b.d])) (.sh m0.d)
  obtain ⟨z, hz, g4, e4, c4⟩ := picked (env := E3) (g := g3) (i := 1) (k := 0) (me := mL (mLst (mCons (mVar 7) (mCons (mTup (mCons (mC (.str "not")) (mCons (mVar 7) mNil))) (mCons (mTup (mCons (mC (.str "among")) (mCons (mTup (mCons (mC (.str "cell")) (mCons (mC (.int 0)) (mCons (mC (.int 0)) mNil)))) (mCons (mL (mLst (mCons (mC (.int 3)) (mCons (mC (.int 1)) (mCons (mOp dIx (mVar 5) (mC (.int 1))) mNil))))) mNil)))) mNil))))) (xs := [m0.d, (Ex.nt m0).d, mA.d]) rfl (by rw [c3]; rfl) (L_e (lst_e (cons_e rfl (cons_e (tup_e (cons_e rfl (cons_e rfl nil_e))) (cons_e (tup_e (cons_e rfl (cons_e cE (cons_e (L_e (lst_e (cons_e rfl (cons_e rfl (cons_e (op_e (x := vE.d) rfl rfl rfl) nil_e))))) nil_e)))) nil_e))))) (by simp) (by show 3 < _; decide)
  have c4 := c4.trans c3
  have hm : ∃ m : Ex, z = m.d ∧ WT .bool 4 m ∧ m.h ≤ 2 := by
    simp only [List.mem_cons, List.not_mem_nil, or_false] at hz
    rcases hz with rfl | rfl | rfl
    · exact ⟨m0, rfl, w0.le (by decide), by omega⟩
    · exact ⟨.nt m0, rfl, (WT.nt w0).le (by decide), by show m0.h + 1 ≤ 2; omega⟩
    · exact ⟨mA, rfl, wA.le (by decide), by show 0 + 1 ≤ 2; decide⟩
  obtain ⟨m, rfl, wm, hmh⟩ := hm
  let E4 := L0 c (.sh e.d) turn (.sh vE.d) (.sh (.tuple [a.d, b.d])) (.sh m.d)
  obtain ⟨q, hq, g5, e5, c5⟩ := picked (env := E4) (g := g4) (i := 1) (k := 0) (me := mL (mLst (mCons (mC (.str "and")) (mCons (mC (.str "or")) mNil)))) (xs := [.str "and", .str "or"]) rfl (by rw [c4]; rfl) (L_e (lst_e (cons_e rfl (cons_e rfl nil_e)))) (by simp) (by show 2 < _; decide)
  have c5 := c5.trans c4
  have hw3 : ∃ w : W2, q = .str w.s ∧ w.logic = true := by
    simp only [List.mem_cons, List.not_mem_nil, or_false] at hq
    rcases hq with rfl | rfl
    · exact ⟨.and, rfl, rfl⟩
    · exact ⟨.or, rfl, rfl⟩
  obtain ⟨w3, rfl, hl3⟩ := hw3
  refine ⟨.bin w3 e m, .sh vE.d, .sh (.tuple [a.d, b.d]), .sh m.d, g5, .lg hl3 hw wm, by show max e.h m.h + 1 ≤ _; omega, c5, ?_⟩
  exact seq_nx (e1 := E1) (g1 := g1) (set_e (d := vE.d) (tup_e (cons_e rfl (cons_e (op_e e1 rfl rfl) nil_e)))) (seq_nx (e1 := E2) (g1 := g2) (set_e e2) (seq_nx (e1 := E3) (g1 := g3) (set_e (d := m0.d) (op_e (tup_e (cons_e e3 nil_e)) rfl (tup_add (by show 3 ≤ _; decide)))) (seq_nx (e1 := E4) (g1 := g4) (set_e e4) (set_e (tup_e (cons_e e5 (cons_e rfl (cons_e rfl nil_e))))))))
end
theorem law_true (g : Dc) (hl : g.ns.length ≤ 63) : ∃ e g1, m_law (lawEC n_law.length 1 g.c) g = some (.re (.bool true), e, g1) := by
  show Tr m_law (lawEC n_law.length 1 g.c) g
  refine tr_seq (g1 := g) (set_e (d := .list (cellsL.map cD)) rfl) ?_
  change Tr _ (L0 g.c .un .un .un .un .un) g
  obtain ⟨j, g2, e2, j0, j1, c2⟩ := drawn (env := L0 g.c .un .un .un .un .un) (g := g) (i := 1) (k := 0) (me := mC (.int 4)) (m := 4) rfl rfl rfl (by decide)
  obtain ⟨q, rfl⟩ := Int.eq_ofNat_of_zero_le j0
  obtain ⟨e, g3, e3, ⟨hw, hh⟩, c3⟩ := expr_e 4 (1 + q) .bool g2 (by omega)
  rw [c2] at e3
  have c3 := c3.trans c2
  refine tr_seq (set_e (callG_e (gst2 (c := g.c) rfl rfl (gsh rfl (gsh rfl (gsh (op_e rfl e2 (congrArg (fun z => some (PyData.int z)) (show (1 : Int) + (q : Int) = ((1 + q : Nat) : Int) by omega))) rfl)))) e3)) ?_
  change Tr _ (L0 g.c (.sh e.d) .un .un .un .un) g3
  obtain ⟨r, g4, e4, r0, r1, c4⟩ := drawn (env := L0 g.c (.sh e.d) .un .un .un .un) (g := g3) (i := 1) (k := 0) (me := mC (.int 3)) (m := 3) rfl (by rw [c3]; rfl) rfl (by decide)
  have c4 := c4.trans c3
  obtain ⟨t, rfl⟩ := Int.eq_ofNat_of_zero_le r0
  have hlp := loop_at (bt := bName 4) (mb := lb_law_1) (fun i env g' => ∃ e' turn value side more, env = L0 g.c (.sh (Ex.d e')) turn value side more ∧ WT .bool 4 e' ∧ e'.h ≤ 4 + i ∧ g'.c = g.c) (ds := rng 0 t) (k := 0) (env := L0 g.c (.sh e.d) .un .un .un .un) (g := g4) ⟨e, _, _, _, _, rfl, hw.le (by omega), by omega, c4⟩ (by
    rintro i d hd env g' ⟨e', turn, value, side, more, rfl, hw', hh', hc'⟩
    obtain ⟨e2, value', side', more', g5, h1, h2, h3, h4⟩ := wrap_e (g := g') (c := g.c) (turn := .sh d) (value := value) (side := side) (more := more) hw' hc'
    exact ⟨_, rfl, _, g5, .inl h4, e2, _, _, _, _, rfl, h1, by omega, h3⟩)
  obtain ⟨env5, g5, h5, e5, turn, value, side, more, rfl, hw5, hh5, c5⟩ := hlp
  rw [rng_len] at hh5
  refine tr_seq (for_e (rng1_e (j := (t : Int)) (cons_e e4 nil_e) (by omega)) h5) ?_
  have h9 : e5.h < 9 := by omega
  have hrepr : dRepr [e5.d] = some (.str e5.d.shown) := repr_e hw5.sm (Wt_7 (by omega)) (by omega)
  refine tr_seq (set_e (call_e (xs := [e5.d]) (cons_e rfl nil_e) hrepr)) ?_
  refine tr_seq (e1 := LW g.c (.sh e5.d) turn value side more (.sh (.str e5.d.shown)) poolsV .un .un .un .un .un .un .un .un .un .un .un .un) (g1 := g5) rfl ?_
  have hcells := loop_inv (bt := bTup 3 (bCons (bName 10) (bCons (bName 11) (bCons (bName 12) bNil)))) (mb := lb_law_7) (fun env g' => (∃ turn value i j kind bv wanted told due row whole part single, env = LW g.c (.sh e5.d) turn value side more (.sh (.str e5.d.shown)) poolsV i j kind bv wanted told due row whole part single .un) ∧ g'.c = g.c) (ds := cellsL.map cD) (env := LW g.c (.sh e5.d) turn value side more (.sh (.str e5.d.shown)) poolsV .un .un .un .un .un .un .un .un .un .un .un .un) (g := g5) ⟨⟨_, _, _, _, _, _, _, _, _, _, _, _, _, rfl⟩, c5⟩ (by
    rintro d hd env g' ⟨⟨turn, value, i, j, kind, bv, wanted, told, due, row, whole, part, single, rfl⟩, hc'⟩
    obtain ⟨⟨p1, p2, kc⟩, hp, rfl⟩ := List.mem_map.mp hd
    obtain ⟨turn', value', bv', wanted', told', due', row', whole', part', single', g6, c6, h6⟩ := cell_e (g := g') (c := g.c) (turn := turn) (value := value) (side := side) (more := more) (kept := .sh (.str e5.d.shown)) (bv := bv) (wanted := wanted) (told := told) (due := due) (row := row) (whole := whole) (part := part) (single := single) (number := .un) (p := (p1, p2)) hp hw5 (Nat.le_refl _) h9 hc'
    exact ⟨_, rfl, _, g6, .inl h6, ⟨_, _, _, _, _, _, _, _, _, _, _, _, _, rfl⟩, c6⟩)
  obtain ⟨env6, g6, h6, ⟨turn6, value6, i6, j6, kind6, bv6, wanted6, told6, due6, row6, whole6, part6, single6, rfl⟩, c6⟩ := hcells
  refine tr_seq (for_e (itL_e rfl) h6) ?_
  obtain ⟨nE, g7, e7, ⟨hw7, hh7⟩, c7⟩ := expr_e 4 2 .int g6 (by decide)
  rw [c6] at e7
  refine tr_seq (set_e (callG_e (gst2 (c := g.c) rfl rfl (gsh rfl (gsh rfl (gsh rfl rfl)))) e7)) ?_
  obtain ⟨s1, s2⟩ := strict_e hw7 9 (by omega) (by decide)
  have niS : Ni 64 (.list (nE.st.map pD)) := (ni_list (n := 2) fun x hx => by
    obtain ⟨q, _, rfl⟩ := List.mem_map.mp hx
    exact ni2 (ni_scal rfl) (ni_scal rfl)).mono (by decide)
  refine tr_ret (g1 := g7) (band_t (op_e (call_e (xs := [nE.d]) (cons_e rfl nil_e) s1) (call_e (xs := [nE.d]) (cons_e rfl nil_e) s2) (niS.eq (Nat.le_refl _))) (op_e (call_e (xs := [e5.d]) (cons_e rfl nil_e) ?j2) rfl (str_eq _)))
  case j2 => exact hrepr
end K32

namespace K32
open PySem PySem.Spec L2 Pd
section
variable {P : Program} {wd : World} {K : PySem.W.Frag} {mg : Str → Option Value} {base : Heap}
theorem ok_law {f : Addr} {fd : FuncData} (F : Fun K "law" "law" s_law f fd) (T : Txt K mg) {H : Hp} {s1 : Shared} {a : Addr} {ns : List Int} (hl : ns.length ≤ 63) (hS : SqL K H a (ns.map V.int)) (e0 : Env0 P wd K mg base callerA [] s1 H)
    (hb : ∀ (s : Shared) (v : Value), BindsTo s fd ⟨[v], []⟩ [("script", v)]) : codeAny (model P wd) callerA (.call (.ref f) ⟨[.ref a], []⟩) (CR CX0 [] P wd H s1 (fun v _ => v = .bl true) fun _ _ _ => False) s1 := by
  obtain ⟨oc, od, kV, doc, pm, an, cdv, ct, osl, rfl, lk, hcd⟩ := F.ex
  refine run_at (N := n_law) (ps := ["script"]) (us := [.ref a]) (vs := [.ref a]) (k := 23) lk hcd sc_law ⟨rfl, by decide, by decide⟩ e0 (hb s1 (.ref a)) (.cons rfl .nil) rfl ⟨_, (pss_cons (ps_set (i := 1) sc_law.nd rfl (by first | exact Or.inl rfl | exact Or.inr rfl) (pe_lst (pa_cons pe_int (pa_cons pe_int pa_nil))))
    (body_law T f cdv callerA [] s1 H (fun _ _ _ => False) (Room.deeper (k := 23) ⟨rfl, by decide, by decide⟩ _) rfl)).nox, ?_⟩
  refine ⟨(by show 2 ≤ sizeLine; decide), fun q hq => ?_⟩
  obtain ⟨g, rfl, rfl, rfl, ok⟩ := drC_new hS hq
  exact law_startC (N := n_law.length) (i := 1) rfl rfl rfl ok (law_true g hl) fun H' => rfl
end
theorem all_mk {l : PySem.W.OpenLaw} {w : World} {K : PySem.W.Frag} {h : Heap} {mg : Str → Option Value} {fa : Addr} (X : K.In h) (G : h.Ns mainGlobals mg) (hfa : mg "law" = some (.ref fa))
    {tk0_0 : Tok}
    {ca0 : Addr} {co0 : Option Addr} {cn0 : Nat} {cs0 : Array (Option Value)}
    {tk1_0 : Tok}
    {ca1 : Addr} {co1 : Option Addr} {cn1 : Nat} {cs1 : Array (Option Value)}
    {tk2_0 : Tok}
    {ca2 : Addr} {co2 : Option Addr} {cn2 : Nat} {cs2 : Array (Option Value)}
    {tk3_0 : Tok}
    {ca3 : Addr} {co3 : Option Addr} {cn3 : Nat} {cs3 : Array (Option Value)}
    {f0 : Addr} {od0 an0 : Option Addr} {sl0 : Array (Option Value)} {oc0 kV0 dc0 pm0 cd0 ct0 : Value}
    {f1 : Addr} {od1 an1 : Option Addr} {sl1 : Array (Option Value)} {oc1 kV1 dc1 pm1 cd1 ct1 : Value}
    {f2 : Addr} {od2 an2 : Option Addr} {sl2 : Array (Option Value)} {oc2 kV2 dc2 pm2 cd2 ct2 : Value}
    {f3 : Addr} {od3 an3 : Option Addr} {sl3 : Array (Option Value)} {oc3 kV3 dc3 pm3 cd3 ct3 : Value}
    {f4 : Addr} {od4 an4 : Option Addr} {sl4 : Array (Option Value)} {oc4 kV4 dc4 pm4 cd4 ct4 : Value}
    {f5 : Addr} {od5 an5 : Option Addr} {sl5 : Array (Option Value)} {oc5 kV5 dc5 pm5 cd5 ct5 : Value}
    {f6 : Addr} {od6 an6 : Option Addr} {sl6 : Array (Option Value)} {oc6 kV6 dc6 pm6 cd6 ct6 : Value}
    {f7 : Addr} {od7 an7 : Option Addr} {sl7 : Array (Option Value)} {oc7 kV7 dc7 pm7 cd7 ct7 : Value}
    {f8 : Addr} {od8 an8 : Option Addr} {sl8 : Array (Option Value)} {oc8 kV8 dc8 pm8 cd8 ct8 : Value}
    {f9 : Addr} {od9 an9 : Option Addr} {sl9 : Array (Option Value)} {oc9 kV9 dc9 pm9 cd9 ct9 : Value}
    {f10 : Addr} {od10 an10 : Option Addr} {sl10 : Array (Option Value)} {oc10 kV10 dc10 pm10 cd10 ct10 : Value}
    {f11 : Addr} {od11 an11 : Option Addr} {sl11 : Array (Option Value)} {oc11 kV11 dc11 pm11 cd11 ct11 : Value}
    {f12 : Addr} {od12 an12 : Option Addr} {sl12 : Array (Option Value)} {oc12 kV12 dc12 pm12 cd12 ct12 : Value}
    {f13 : Addr} {od13 an13 : Option Addr} {sl13 : Array (Option Value)} {oc13 kV13 dc13 pm13 cd13 ct13 : Value}
    {f14 : Addr} {od14 an14 : Option Addr} {sl14 : Array (Option Value)} {oc14 kV14 dc14 pm14 cd14 ct14 : Value}
    {f15 : Addr} {od15 an15 : Option Addr} {sl15 : Array (Option Value)} {oc15 kV15 dc15 pm15 cd15 ct15 : Value}
    {f16 : Addr} {od16 an16 : Option Addr} {sl16 : Array (Option Value)} {oc16 kV16 dc16 pm16 cd16 ct16 : Value}
    {f17 : Addr} {od17 an17 : Option Addr} {sl17 : Array (Option Value)} {oc17 kV17 dc17 pm17 cd17 ct17 : Value}
    {f18 : Addr} {od18 an18 : Option Addr} {sl18 : Array (Option Value)} {oc18 kV18 dc18 pm18 cd18 ct18 : Value}
    {f19 : Addr} {od19 an19 : Option Addr} {sl19 : Array (Option Value)} {oc19 kV19 dc19 pm19 cd19 ct19 : Value}
    {f20 : Addr} {od20 an20 : Option Addr} {sl20 : Array (Option Value)} {oc20 kV20 dc20 pm20 cd20 ct20 : Value}
    {f21 : Addr} {od21 an21 : Option Addr} {sl21 : Array (Option Value)} {oc21 kV21 dc21 pm21 cd21 ct21 : Value}
    {f22 : Addr} {od22 an22 : Option Addr} {sl22 : Array (Option Value)} {oc22 kV22 dc22 pm22 cd22 ct22 : Value}
    {f23 : Addr} {od23 an23 : Option Addr} {sl23 : Array (Option Value)} {oc23 kV23 dc23 pm23 cd23 ct23 : Value}
    {f24 : Addr} {od24 an24 : Option Addr} {sl24 : Array (Option Value)} {oc24 kV24 dc24 pm24 cd24 ct24 : Value}
    {f25 : Addr} {od25 an25 : Option Addr} {sl25 : Array (Option Value)} {oc25 kV25 dc25 pm25 cd25 ct25 : Value}
    {f26 : Addr} {od26 an26 : Option Addr} {sl26 : Array (Option Value)} {oc26 kV26 dc26 pm26 cd26 ct26 : Value}
    {f27 : Addr} {od27 an27 : Option Addr} {sl27 : Array (Option Value)} {oc27 kV27 dc27 pm27 cd27 ct27 : Value}
    {f28 : Addr} {od28 an28 : Option Addr} {sl28 : Array (Option Value)} {oc28 kV28 dc28 pm28 cd28 ct28 : Value}
    {f29 : Addr} {od29 an29 : Option Addr} {sl29 : Array (Option Value)} {oc29 kV29 dc29 pm29 cd29 ct29 : Value}
    {f30 : Addr} {od30 an30 : Option Addr} {sl30 : Array (Option Value)} {oc30 kV30 dc30 pm30 cd30 ct30 : Value}
    {f31 : Addr} {od31 an31 : Option Addr} {sl31 : Array (Option Value)} {oc31 kV31 dc31 pm31 cd31 ct31 : Value}
    {f32 : Addr} {od32 an32 : Option Addr} {sl32 : Array (Option Value)} {oc32 kV32 dc32 pm32 cd32 ct32 : Value}
    {f33 : Addr} {od33 an33 : Option Addr} {sl33 : Array (Option Value)} {oc33 kV33 dc33 pm33 cd33 ct33 : Value}
    {f34 : Addr} {od34 an34 : Option Addr} {sl34 : Array (Option Value)} {oc34 kV34 dc34 pm34 cd34 ct34 : Value}
    {f35 : Addr} {od35 an35 : Option Addr} {sl35 : Array (Option Value)} {oc35 kV35 dc35 pm35 cd35 ct35 : Value}
    (e0 : PySem.W.nsIn K mainGlobals "ALL" = some (some (.ref ca0))) (t0 : K.lookup ca0 = some ⟨.type "tuple", co0, .seq #[.str "all" tk0_0] cn0, cs0⟩)
    (e1 : PySem.W.nsIn K mainGlobals "KNOWN" = some (some (.ref ca1))) (t1 : K.lookup ca1 = some ⟨.type "tuple", co1, .seq #[.str "range" tk1_0, .none, .none] cn1, cs1⟩)
    (e2 : PySem.W.nsIn K mainGlobals "NEVER" = some (some (.ref ca2))) (t2 : K.lookup ca2 = some ⟨.type "tuple", co2, .seq #[.str "never" tk2_0] cn2, cs2⟩)
    (e3 : PySem.W.nsIn K mainGlobals "NULL" = some (some (.ref ca3))) (t3 : K.lookup ca3 = some ⟨.type "tuple", co3, .seq #[.str "null" tk3_0] cn3, cs3⟩)
    (a0 : PySem.W.nsIn K mainGlobals "turned" = some (some (.ref f0))) (l0 : K.lookup f0 = some ⟨oc0, od0, .func (PySem.W.fnOf "turned" "turned" (defArgs s_turned) (defBody s_turned) (defScope s_turned) .none kV0 dc0 pm0 an0 cd0 ct0), sl0⟩) (c0 : PySem.W.codeIn K cd0 "turned" = true) (k0 : PySem.W.keepIn K (.ref f0) = true)
    (a1 : PySem.W.nsIn K mainGlobals "both" = some (some (.ref f1))) (l1 : K.lookup f1 = some ⟨oc1, od1, .func (PySem.W.fnOf "both" "both" (defArgs s_both) (defBody s_both) (defScope s_both) .none kV1 dc1 pm1 an1 cd1 ct1), sl1⟩) (c1 : PySem.W.codeIn K cd1 "both" = true) (k1 : PySem.W.keepIn K (.ref f1) = true)
    (a2 : PySem.W.nsIn K mainGlobals "either" = some (some (.ref f2))) (l2 : K.lookup f2 = some ⟨oc2, od2, .func (PySem.W.fnOf "either" "either" (defArgs s_either) (defBody s_either) (defScope s_either) .none kV2 dc2 pm2 an2 cd2 ct2), sl2⟩) (c2 : PySem.W.codeIn K cd2 "either" = true) (k2 : PySem.W.keepIn K (.ref f2) = true)
    (a3 : PySem.W.nsIn K mainGlobals "reckoned" = some (some (.ref f3))) (l3 : K.lookup f3 = some ⟨oc3, od3, .func (PySem.W.fnOf "reckoned" "reckoned" (defArgs s_reckoned) (defBody s_reckoned) (defScope s_reckoned) .none kV3 dc3 pm3 an3 cd3 ct3), sl3⟩) (c3 : PySem.W.codeIn K cd3 "reckoned" = true) (k3 : PySem.W.keepIn K (.ref f3) = true)
    (a4 : PySem.W.nsIn K mainGlobals "among" = some (some (.ref f4))) (l4 : K.lookup f4 = some ⟨oc4, od4, .func (PySem.W.fnOf "among" "among" (defArgs s_among) (defBody s_among) (defScope s_among) .none kV4 dc4 pm4 an4 cd4 ct4), sl4⟩) (c4 : PySem.W.codeIn K cd4 "among" = true) (k4 : PySem.W.keepIn K (.ref f4) = true)
    (a5 : PySem.W.nsIn K mainGlobals "value_of" = some (some (.ref f5))) (l5 : K.lookup f5 = some ⟨oc5, od5, .func (PySem.W.fnOf "value_of" "value_of" (defArgs s_value_of) (defBody s_value_of) (defScope s_value_of) .none kV5 dc5 pm5 an5 cd5 ct5), sl5⟩) (c5 : PySem.W.codeIn K cd5 "value_of" = true) (k5 : PySem.W.keepIn K (.ref f5) = true)
    (a6 : PySem.W.nsIn K mainGlobals "conjuncts" = some (some (.ref f6))) (l6 : K.lookup f6 = some ⟨oc6, od6, .func (PySem.W.fnOf "conjuncts" "conjuncts" (defArgs s_conjuncts) (defBody s_conjuncts) (defScope s_conjuncts) .none kV6 dc6 pm6 an6 cd6 ct6), sl6⟩) (c6 : PySem.W.codeIn K cd6 "conjuncts" = true) (k6 : PySem.W.keepIn K (.ref f6) = true)
    (a7 : PySem.W.nsIn K mainGlobals "strict_cells" = some (some (.ref f7))) (l7 : K.lookup f7 = some ⟨oc7, od7, .func (PySem.W.fnOf "strict_cells" "strict_cells" (defArgs s_strict_cells) (defBody s_strict_cells) (defScope s_strict_cells) .none kV7 dc7 pm7 an7 cd7 ct7), sl7⟩) (c7 : PySem.W.codeIn K cd7 "strict_cells" = true) (k7 : PySem.W.keepIn K (.ref f7) = true)
    (a8 : PySem.W.nsIn K mainGlobals "is_empty" = some (some (.ref f8))) (l8 : K.lookup f8 = some ⟨oc8, od8, .func (PySem.W.fnOf "is_empty" "is_empty" (defArgs s_is_empty) (defBody s_is_empty) (defScope s_is_empty) .none kV8 dc8 pm8 an8 cd8 ct8), sl8⟩) (c8 : PySem.W.codeIn K cd8 "is_empty" = true) (k8 : PySem.W.keepIn K (.ref f8) = true)
    (a9 : PySem.W.nsIn K mainGlobals "higher" = some (some (.ref f9))) (l9 : K.lookup f9 = some ⟨oc9, od9, .func (PySem.W.fnOf "higher" "higher" (defArgs s_higher) (defBody s_higher) (defScope s_higher) .none kV9 dc9 pm9 an9 cd9 ct9), sl9⟩) (c9 : PySem.W.codeIn K cd9 "higher" = true) (k9 : PySem.W.keepIn K (.ref f9) = true)
    (a10 : PySem.W.nsIn K mainGlobals "lower" = some (some (.ref f10))) (l10 : K.lookup f10 = some ⟨oc10, od10, .func (PySem.W.fnOf "lower" "lower" (defArgs s_lower) (defBody s_lower) (defScope s_lower) .none kV10 dc10 pm10 an10 cd10 ct10), sl10⟩) (c10 : PySem.W.codeIn K cd10 "lower" = true) (k10 : PySem.W.keepIn K (.ref f10) = true)
    (a11 : PySem.W.nsIn K mainGlobals "meet" = some (some (.ref f11))) (l11 : K.lookup f11 = some ⟨oc11, od11, .func (PySem.W.fnOf "meet" "meet" (defArgs s_meet) (defBody s_meet) (defScope s_meet) .none kV11 dc11 pm11 an11 cd11 ct11), sl11⟩) (c11 : PySem.W.codeIn K cd11 "meet" = true) (k11 : PySem.W.keepIn K (.ref f11) = true)
    (a12 : PySem.W.nsIn K mainGlobals "wider_low" = some (some (.ref f12))) (l12 : K.lookup f12 = some ⟨oc12, od12, .func (PySem.W.fnOf "wider_low" "wider_low" (defArgs s_wider_low) (defBody s_wider_low) (defScope s_wider_low) .none kV12 dc12 pm12 an12 cd12 ct12), sl12⟩) (c12 : PySem.W.codeIn K cd12 "wider_low" = true) (k12 : PySem.W.keepIn K (.ref f12) = true)
    (a13 : PySem.W.nsIn K mainGlobals "wider_high" = some (some (.ref f13))) (l13 : K.lookup f13 = some ⟨oc13, od13, .func (PySem.W.fnOf "wider_high" "wider_high" (defArgs s_wider_high) (defBody s_wider_high) (defScope s_wider_high) .none kV13 dc13 pm13 an13 cd13 ct13), sl13⟩) (c13 : PySem.W.codeIn K cd13 "wider_high" = true) (k13 : PySem.W.keepIn K (.ref f13) = true)
    (a14 : PySem.W.nsIn K mainGlobals "join" = some (some (.ref f14))) (l14 : K.lookup f14 = some ⟨oc14, od14, .func (PySem.W.fnOf "join" "join" (defArgs s_join) (defBody s_join) (defScope s_join) .none kV14 dc14 pm14 an14 cd14 ct14), sl14⟩) (c14 : PySem.W.codeIn K cd14 "join" = true) (k14 : PySem.W.keepIn K (.ref f14) = true)
    (a15 : PySem.W.nsIn K mainGlobals "of_values" = some (some (.ref f15))) (l15 : K.lookup f15 = some ⟨oc15, od15, .func (PySem.W.fnOf "of_values" "of_values" (defArgs s_of_values) (defBody s_of_values) (defScope s_of_values) .none kV15 dc15 pm15 an15 cd15 ct15), sl15⟩) (c15 : PySem.W.codeIn K cd15 "of_values" = true) (k15 : PySem.W.keepIn K (.ref f15) = true)
    (a16 : PySem.W.nsIn K mainGlobals "compared" = some (some (.ref f16))) (l16 : K.lookup f16 = some ⟨oc16, od16, .func (PySem.W.fnOf "compared" "compared" (defArgs s_compared) (defBody s_compared) (defScope s_compared) .none kV16 dc16 pm16 an16 cd16 ct16), sl16⟩) (c16 : PySem.W.codeIn K cd16 "compared" = true) (k16 : PySem.W.keepIn K (.ref f16) = true)
    (a17 : PySem.W.nsIn K mainGlobals "beside" = some (some (.ref f17))) (l17 : K.lookup f17 = some ⟨oc17, od17, .func (PySem.W.fnOf "beside" "beside" (defArgs s_beside) (defBody s_beside) (defScope s_beside) .none kV17 dc17 pm17 an17 cd17 ct17), sl17⟩) (c17 : PySem.W.codeIn K cd17 "beside" = true) (k17 : PySem.W.keepIn K (.ref f17) = true)
    (a18 : PySem.W.nsIn K mainGlobals "bounds_of" = some (some (.ref f18))) (l18 : K.lookup f18 = some ⟨oc18, od18, .func (PySem.W.fnOf "bounds_of" "bounds_of" (defArgs s_bounds_of) (defBody s_bounds_of) (defScope s_bounds_of) .none kV18 dc18 pm18 an18 cd18 ct18), sl18⟩) (c18 : PySem.W.codeIn K cd18 "bounds_of" = true) (k18 : PySem.W.keepIn K (.ref f18) = true)
    (a19 : PySem.W.nsIn K mainGlobals "listed" = some (some (.ref f19))) (l19 : K.lookup f19 = some ⟨oc19, od19, .func (PySem.W.fnOf "listed" "listed" (defArgs s_listed) (defBody s_listed) (defScope s_listed) .none kV19 dc19 pm19 an19 cd19 ct19), sl19⟩) (c19 : PySem.W.codeIn K cd19 "listed" = true) (k19 : PySem.W.keepIn K (.ref f19) = true)
    (a20 : PySem.W.nsIn K mainGlobals "is_within" = some (some (.ref f20))) (l20 : K.lookup f20 = some ⟨oc20, od20, .func (PySem.W.fnOf "is_within" "is_within" (defArgs s_is_within) (defBody s_is_within) (defScope s_is_within) .none kV20 dc20 pm20 an20 cd20 ct20), sl20⟩) (c20 : PySem.W.codeIn K cd20 "is_within" = true) (k20 : PySem.W.keepIn K (.ref f20) = true)
    (a21 : PySem.W.nsIn K mainGlobals "bounds_of_all" = some (some (.ref f21))) (l21 : K.lookup f21 = some ⟨oc21, od21, .func (PySem.W.fnOf "bounds_of_all" "bounds_of_all" (defArgs s_bounds_of_all) (defBody s_bounds_of_all) (defScope s_bounds_of_all) .none kV21 dc21 pm21 an21 cd21 ct21), sl21⟩) (c21 : PySem.W.codeIn K cd21 "bounds_of_all" = true) (k21 : PySem.W.keepIn K (.ref f21) = true)
    (a22 : PySem.W.nsIn K mainGlobals "sure_bounds" = some (some (.ref f22))) (l22 : K.lookup f22 = some ⟨oc22, od22, .func (PySem.W.fnOf "sure_bounds" "sure_bounds" (defArgs s_sure_bounds) (defBody s_sure_bounds) (defScope s_sure_bounds) .none kV22 dc22 pm22 an22 cd22 ct22), sl22⟩) (c22 : PySem.W.codeIn K cd22 "sure_bounds" = true) (k22 : PySem.W.keepIn K (.ref f22) = true)
    (a23 : PySem.W.nsIn K mainGlobals "single_value" = some (some (.ref f23))) (l23 : K.lookup f23 = some ⟨oc23, od23, .func (PySem.W.fnOf "single_value" "single_value" (defArgs s_single_value) (defBody s_single_value) (defScope s_single_value) .none kV23 dc23 pm23 an23 cd23 ct23), sl23⟩) (c23 : PySem.W.codeIn K cd23 "single_value" = true) (k23 : PySem.W.keepIn K (.ref f23) = true)
    (a24 : PySem.W.nsIn K mainGlobals "_law_draw" = some (some (.ref f24))) (l24 : K.lookup f24 = some ⟨oc24, od24, .func (PySem.W.fnOf "_law_draw" "_law_draw" (defArgs s__law_draw) (defBody s__law_draw) (defScope s__law_draw) .none kV24 dc24 pm24 an24 cd24 ct24), sl24⟩) (c24 : PySem.W.codeIn K cd24 "_law_draw" = true) (k24 : PySem.W.keepIn K (.ref f24) = true)
    (a25 : PySem.W.nsIn K mainGlobals "_law_pick" = some (some (.ref f25))) (l25 : K.lookup f25 = some ⟨oc25, od25, .func (PySem.W.fnOf "_law_pick" "_law_pick" (defArgs s__law_pick) (defBody s__law_pick) (defScope s__law_pick) .none kV25 dc25 pm25 an25 cd25 ct25), sl25⟩) (c25 : PySem.W.codeIn K cd25 "_law_pick" = true) (k25 : PySem.W.keepIn K (.ref f25) = true)
    (a26 : PySem.W.nsIn K mainGlobals "_law_some" = some (some (.ref f26))) (l26 : K.lookup f26 = some ⟨oc26, od26, .func (PySem.W.fnOf "_law_some" "_law_some" (defArgs s__law_some) (defBody s__law_some) (defScope s__law_some) .none kV26 dc26 pm26 an26 cd26 ct26), sl26⟩) (c26 : PySem.W.codeIn K cd26 "_law_some" = true) (k26 : PySem.W.keepIn K (.ref f26) = true)
    (a27 : PySem.W.nsIn K mainGlobals "_law_leaf" = some (some (.ref f27))) (l27 : K.lookup f27 = some ⟨oc27, od27, .func (PySem.W.fnOf "_law_leaf" "_law_leaf" (defArgs s__law_leaf) (defBody s__law_leaf) (defScope s__law_leaf) .none kV27 dc27 pm27 an27 cd27 ct27), sl27⟩) (c27 : PySem.W.codeIn K cd27 "_law_leaf" = true) (k27 : PySem.W.keepIn K (.ref f27) = true)
    (a28 : PySem.W.nsIn K mainGlobals "_law_expr" = some (some (.ref f28))) (l28 : K.lookup f28 = some ⟨oc28, od28, .func (PySem.W.fnOf "_law_expr" "_law_expr" (defArgs s__law_expr) (defBody s__law_expr) (defScope s__law_expr) .none kV28 dc28 pm28 an28 cd28 ct28), sl28⟩) (c28 : PySem.W.codeIn K cd28 "_law_expr" = true) (k28 : PySem.W.keepIn K (.ref f28) = true)
    (a29 : PySem.W.nsIn K mainGlobals "_law_strict" = some (some (.ref f29))) (l29 : K.lookup f29 = some ⟨oc29, od29, .func (PySem.W.fnOf "_law_strict" "_law_strict" (defArgs s__law_strict) (defBody s__law_strict) (defScope s__law_strict) .none kV29 dc29 pm29 an29 cd29 ct29), sl29⟩) (c29 : PySem.W.codeIn K cd29 "_law_strict" = true) (k29 : PySem.W.keepIn K (.ref f29) = true)
    (a30 : PySem.W.nsIn K mainGlobals "_law_in" = some (some (.ref f30))) (l30 : K.lookup f30 = some ⟨oc30, od30, .func (PySem.W.fnOf "_law_in" "_law_in" (defArgs s__law_in) (defBody s__law_in) (defScope s__law_in) .none kV30 dc30 pm30 an30 cd30 ct30), sl30⟩) (c30 : PySem.W.codeIn K cd30 "_law_in" = true) (k30 : PySem.W.keepIn K (.ref f30) = true)
    (a31 : PySem.W.nsIn K mainGlobals "_law_ends" = some (some (.ref f31))) (l31 : K.lookup f31 = some ⟨oc31, od31, .func (PySem.W.fnOf "_law_ends" "_law_ends" (defArgs s__law_ends) (defBody s__law_ends) (defScope s__law_ends) .none kV31 dc31 pm31 an31 cd31 ct31), sl31⟩) (c31 : PySem.W.codeIn K cd31 "_law_ends" = true) (k31 : PySem.W.keepIn K (.ref f31) = true)
    (a32 : PySem.W.nsIn K mainGlobals "_law_meet" = some (some (.ref f32))) (l32 : K.lookup f32 = some ⟨oc32, od32, .func (PySem.W.fnOf "_law_meet" "_law_meet" (defArgs s__law_meet) (defBody s__law_meet) (defScope s__law_meet) .none kV32 dc32 pm32 an32 cd32 ct32), sl32⟩) (c32 : PySem.W.codeIn K cd32 "_law_meet" = true) (k32 : PySem.W.keepIn K (.ref f32) = true)
    (a33 : PySem.W.nsIn K mainGlobals "_law_join" = some (some (.ref f33))) (l33 : K.lookup f33 = some ⟨oc33, od33, .func (PySem.W.fnOf "_law_join" "_law_join" (defArgs s__law_join) (defBody s__law_join) (defScope s__law_join) .none kV33 dc33 pm33 an33 cd33 ct33), sl33⟩) (c33 : PySem.W.codeIn K cd33 "_law_join" = true) (k33 : PySem.W.keepIn K (.ref f33) = true)
    (a34 : PySem.W.nsIn K mainGlobals "_law_bounds" = some (some (.ref f34))) (l34 : K.lookup f34 = some ⟨oc34, od34, .func (PySem.W.fnOf "_law_bounds" "_law_bounds" (defArgs s__law_bounds) (defBody s__law_bounds) (defScope s__law_bounds) .none kV34 dc34 pm34 an34 cd34 ct34), sl34⟩) (c34 : PySem.W.codeIn K cd34 "_law_bounds" = true) (k34 : PySem.W.keepIn K (.ref f34) = true)
    (a35 : PySem.W.nsIn K mainGlobals "law" = some (some (.ref f35))) (l35 : K.lookup f35 = some ⟨oc35, od35, .func (PySem.W.fnOf "law" "law" (defArgs s_law) (defBody s_law) (defScope s_law) .none kV35 dc35 pm35 an35 cd35 ct35), sl35⟩) (c35 : PySem.W.codeIn K cd35 "law" = true) (k35 : PySem.W.keepIn K (.ref f35) = true)
    (z0 : PySem.W.nsIn K mainGlobals "int" = some none)
    (z1 : PySem.W.nsIn K mainGlobals "len" = some none)
    (z2 : PySem.W.nsIn K mainGlobals "range" = some none)
    (z3 : PySem.W.nsIn K mainGlobals "repr" = some none)
    (z4 : PySem.W.nsIn K mainGlobals "sorted" = some none)
    (z5 : PySem.W.nsIn K mainGlobals "tuple" = some none) :
    ∃ fd : FuncData, (∀ (s : Shared) (v : Value), BindsTo s fd ⟨[v], []⟩ [("script", v)]) ∧ ∀ (base : Heap) (H : Hp) (s1 : Shared) (a : Addr) (ns : List Int), ns.length ≤ 63 → SqL K H a (ns.map V.int) → Env0 l.prog w K mg base callerA [] s1 H → codeAny (model l.prog w) callerA (.call (.ref fa) ⟨[.ref a], []⟩) (CR CX0 [] l.prog w H s1 (fun v _ => v = .bl true) fun _ _ _ => False) s1 := by
  have e := hfa.symm.trans (PySem.W.mg_of X G a35)
  cases e
  have F0 := fun_mk (st := s_turned) l0 c0 k0
  have F1 := fun_mk (st := s_both) l1 c1 k1
  have F2 := fun_mk (st := s_either) l2 c2 k2
  have F3 := fun_mk (st := s_reckoned) l3 c3 k3
  have F4 := fun_mk (st := s_among) l4 c4 k4
  have F5 := fun_mk (st := s_value_of) l5 c5 k5
  have F6 := fun_mk (st := s_conjuncts) l6 c6 k6
  have F7 := fun_mk (st := s_strict_cells) l7 c7 k7
  have F8 := fun_mk (st := s_is_empty) l8 c8 k8
  have F9 := fun_mk (st := s_higher) l9 c9 k9
  have F10 := fun_mk (st := s_lower) l10 c10 k10
  have F11 := fun_mk (st := s_meet) l11 c11 k11
  have F12 := fun_mk (st := s_wider_low) l12 c12 k12
  have F13 := fun_mk (st := s_wider_high) l13 c13 k13
  have F14 := fun_mk (st := s_join) l14 c14 k14
  have F15 := fun_mk (st := s_of_values) l15 c15 k15
  have F16 := fun_mk (st := s_compared) l16 c16 k16
  have F17 := fun_mk (st := s_beside) l17 c17 k17
  have F18 := fun_mk (st := s_bounds_of) l18 c18 k18
  have F19 := fun_mk (st := s_listed) l19 c19 k19
  have F20 := fun_mk (st := s_is_within) l20 c20 k20
  have F21 := fun_mk (st := s_bounds_of_all) l21 c21 k21
  have F22 := fun_mk (st := s_sure_bounds) l22 c22 k22
  have F23 := fun_mk (st := s_single_value) l23 c23 k23
  have F24 := fun_mk (st := s__law_draw) l24 c24 k24
  have F25 := fun_mk (st := s__law_pick) l25 c25 k25
  have F26 := fun_mk (st := s__law_some) l26 c26 k26
  have F27 := fun_mk (st := s__law_leaf) l27 c27 k27
  have F28 := fun_mk (st := s__law_expr) l28 c28 k28
  have F29 := fun_mk (st := s__law_strict) l29 c29 k29
  have F30 := fun_mk (st := s__law_in) l30 c30 k30
  have F31 := fun_mk (st := s__law_ends) l31 c31 k31
  have F32 := fun_mk (st := s__law_meet) l32 c32 k32
  have F33 := fun_mk (st := s__law_join) l33 c33 k33
  have F34 := fun_mk (st := s__law_bounds) l34 c34 k34
  have T : Txt K mg := ⟨⟨⟨f0, _, F0, PySem.W.mg_of X G a0, F0.binds (ps := ["value"]) fun _ _ _ _ _ _ us hl => match us, hl with | [_], _ => rfl⟩⟩,
    ⟨⟨f1, _, F1, PySem.W.mg_of X G a1, F1.binds (ps := ["one", "other"]) fun _ _ _ _ _ _ us hl => match us, hl with | [_, _], _ => rfl⟩⟩,
    ⟨⟨f2, _, F2, PySem.W.mg_of X G a2, F2.binds (ps := ["one", "other"]) fun _ _ _ _ _ _ us hl => match us, hl with | [_, _], _ => rfl⟩⟩,
    ⟨⟨f3, _, F3, PySem.W.mg_of X G a3, F3.binds (ps := ["word", "one", "other"]) fun _ _ _ _ _ _ us hl => match us, hl with | [_, _, _], _ => rfl⟩⟩,
    ⟨⟨f4, _, F4, PySem.W.mg_of X G a4, F4.binds (ps := ["value", "values"]) fun _ _ _ _ _ _ us hl => match us, hl with | [_, _], _ => rfl⟩⟩,
    ⟨⟨f5, _, F5, PySem.W.mg_of X G a5, F5.binds (ps := ["tree", "rows", "fields"]) fun _ _ _ _ _ _ us hl => match us, hl with | [_, _, _], _ => rfl⟩⟩,
    ⟨⟨f6, _, F6, PySem.W.mg_of X G a6, F6.binds (ps := ["tree"]) fun _ _ _ _ _ _ us hl => match us, hl with | [_], _ => rfl⟩⟩,
    ⟨⟨f7, _, F7, PySem.W.mg_of X G a7, F7.binds (ps := ["tree"]) fun _ _ _ _ _ _ us hl => match us, hl with | [_], _ => rfl⟩⟩,
    ⟨⟨f8, _, F8, PySem.W.mg_of X G a8, F8.binds (ps := ["low", "high"]) fun _ _ _ _ _ _ us hl => match us, hl with | [_, _], _ => rfl⟩⟩,
    ⟨⟨f9, _, F9, PySem.W.mg_of X G a9, F9.binds (ps := ["one", "other"]) fun _ _ _ _ _ _ us hl => match us, hl with | [_, _], _ => rfl⟩⟩,
    ⟨⟨f10, _, F10, PySem.W.mg_of X G a10, F10.binds (ps := ["one", "other"]) fun _ _ _ _ _ _ us hl => match us, hl with | [_, _], _ => rfl⟩⟩,
    ⟨⟨f11, _, F11, PySem.W.mg_of X G a11, F11.binds (ps := ["one", "other"]) fun _ _ _ _ _ _ us hl => match us, hl with | [_, _], _ => rfl⟩⟩,
    ⟨⟨f12, _, F12, PySem.W.mg_of X G a12, F12.binds (ps := ["one", "other"]) fun _ _ _ _ _ _ us hl => match us, hl with | [_, _], _ => rfl⟩⟩,
    ⟨⟨f13, _, F13, PySem.W.mg_of X G a13, F13.binds (ps := ["one", "other"]) fun _ _ _ _ _ _ us hl => match us, hl with | [_, _], _ => rfl⟩⟩,
    ⟨⟨f14, _, F14, PySem.W.mg_of X G a14, F14.binds (ps := ["one", "other"]) fun _ _ _ _ _ _ us hl => match us, hl with | [_, _], _ => rfl⟩⟩,
    ⟨⟨f15, _, F15, PySem.W.mg_of X G a15, F15.binds (ps := ["values"]) fun _ _ _ _ _ _ us hl => match us, hl with | [_], _ => rfl⟩⟩,
    ⟨⟨f16, _, F16, PySem.W.mg_of X G a16, F16.binds (ps := ["tree", "cell", "wanted"]) fun _ _ _ _ _ _ us hl => match us, hl with | [_, _, _], _ => rfl⟩⟩,
    ⟨⟨f17, _, F17, PySem.W.mg_of X G a17, F17.binds (ps := ["word", "value", "wanted", "is_first"]) fun _ _ _ _ _ _ us hl => match us, hl with | [_, _, _, _], _ => rfl⟩⟩,
    ⟨⟨f18, _, F18, PySem.W.mg_of X G a18, F18.binds (ps := ["tree", "cell", "wanted"]) fun _ _ _ _ _ _ us hl => match us, hl with | [_, _, _], _ => rfl⟩⟩,
    ⟨⟨f19, _, F19, PySem.W.mg_of X G a19, F19.binds (ps := ["tree", "cell", "wanted"]) fun _ _ _ _ _ _ us hl => match us, hl with | [_, _, _], _ => rfl⟩⟩,
    ⟨⟨f20, _, F20, PySem.W.mg_of X G a20, F20.binds (ps := ["bounds", "value"]) fun _ _ _ _ _ _ us hl => match us, hl with | [_, _], _ => rfl⟩⟩,
    ⟨⟨f21, _, F21, PySem.W.mg_of X G a21, F21.binds (ps := ["parts", "cell"]) fun _ _ _ _ _ _ us hl => match us, hl with | [_, _], _ => rfl⟩⟩,
    ⟨⟨f22, _, F22, PySem.W.mg_of X G a22, F22.binds (ps := ["condition", "cell"]) fun _ _ _ _ _ _ us hl => match us, hl with | [_, _], _ => rfl⟩⟩,
    ⟨⟨f23, _, F23, PySem.W.mg_of X G a23, F23.binds (ps := ["bounds"]) fun _ _ _ _ _ _ us hl => match us, hl with | [_], _ => rfl⟩⟩,
    ⟨⟨f24, _, F24, PySem.W.mg_of X G a24, F24.binds (ps := ["state", "script", "size"]) fun _ _ _ _ _ _ us hl => match us, hl with | [_, _, _], _ => rfl⟩⟩,
    ⟨⟨f25, _, F25, PySem.W.mg_of X G a25, F25.binds (ps := ["state", "script", "items"]) fun _ _ _ _ _ _ us hl => match us, hl with | [_, _, _], _ => rfl⟩⟩,
    ⟨⟨f26, _, F26, PySem.W.mg_of X G a26, F26.binds (ps := ["state", "script", "kind"]) fun _ _ _ _ _ _ us hl => match us, hl with | [_, _, _], _ => rfl⟩⟩,
    ⟨⟨f27, _, F27, PySem.W.mg_of X G a27, F27.binds (ps := ["state", "script", "kind", "cells"]) fun _ _ _ _ _ _ us hl => match us, hl with | [_, _, _, _], _ => rfl⟩⟩,
    ⟨⟨f28, _, F28, PySem.W.mg_of X G a28, F28.binds (ps := ["state", "script", "kind", "cells", "fuel"]) fun _ _ _ _ _ _ us hl => match us, hl with | [_, _, _, _, _], _ => rfl⟩⟩,
    ⟨⟨f29, _, F29, PySem.W.mg_of X G a29, F29.binds (ps := ["tree"]) fun _ _ _ _ _ _ us hl => match us, hl with | [_], _ => rfl⟩⟩,
    ⟨⟨f30, _, F30, PySem.W.mg_of X G a30, F30.binds (ps := ["bounds", "value"]) fun _ _ _ _ _ _ us hl => match us, hl with | [_, _], _ => rfl⟩⟩,
    ⟨⟨f31, _, F31, PySem.W.mg_of X G a31, F31.binds (ps := ["one", "other", "tight", "is_low"]) fun _ _ _ _ _ _ us hl => match us, hl with | [_, _, _, _], _ => rfl⟩⟩,
    ⟨⟨f32, _, F32, PySem.W.mg_of X G a32, F32.binds (ps := ["one", "other"]) fun _ _ _ _ _ _ us hl => match us, hl with | [_, _], _ => rfl⟩⟩,
    ⟨⟨f33, _, F33, PySem.W.mg_of X G a33, F33.binds (ps := ["one", "other"]) fun _ _ _ _ _ _ us hl => match us, hl with | [_, _], _ => rfl⟩⟩,
    ⟨⟨f34, _, F34, PySem.W.mg_of X G a34, F34.binds (ps := ["tree", "cell", "wanted"]) fun _ _ _ _ _ _ us hl => match us, hl with | [_, _, _], _ => rfl⟩⟩,
    Cst.tup (vs := [.str "all"]) (PySem.W.mg_of X G e0) t0 (.cons ⟨_, rfl⟩ .nil) fun _ => (.cons (.str ⟨by decide +kernel, by decide +kernel⟩) .nil),
    Cst.tup (vs := [.str "range", .non, .non]) (PySem.W.mg_of X G e1) t1 (.cons ⟨_, rfl⟩ (.cons rfl (.cons rfl .nil))) fun _ => (.cons (.str ⟨by decide +kernel, by decide +kernel⟩) (.cons .non (.cons .non .nil))),
    Cst.tup (vs := [.str "never"]) (PySem.W.mg_of X G e2) t2 (.cons ⟨_, rfl⟩ .nil) fun _ => (.cons (.str ⟨by decide +kernel, by decide +kernel⟩) .nil),
    Cst.tup (vs := [.str "null"]) (PySem.W.mg_of X G e3) t3 (.cons ⟨_, rfl⟩ .nil) fun _ => (.cons (.str ⟨by decide +kernel, by decide +kernel⟩) .nil),
    PySem.W.mg_none_of X G z0,
    PySem.W.mg_none_of X G z1,
    PySem.W.mg_none_of X G z2,
    PySem.W.mg_none_of X G z3,
    PySem.W.mg_none_of X G z4,
    PySem.W.mg_none_of X G z5⟩
  have FL := fun_mk (st := s_law) l35 c35 k35
  exact ⟨PySem.W.fnOf "law" "law" (defArgs s_law) (defBody s_law) (defScope s_law) .none kV35 dc35 pm35 an35 cd35 ct35, fun s v => .of_eq rfl, fun base H s1 a ns hl hS e0 => ok_law FL T hl hS e0 fun s v => .of_eq rfl⟩
theorem walk {l : PySem.W.OpenLaw} {q : Program} {loose : List Str} {XP : (Str → Option Value) → Heap → Prop} {YP : World → Heap → Prop} {d : DefRec} {K : Params → PySem.W.Frag} (hn : l.most = some 63) (hdf : d.params.defaults = [])
    (hY : ∀ (w : World) (h : Heap), YP w h → (K w.params).In h)
    (F : ∀ (w : World) (mg : Str → Option Value) (fa : Addr) (h : Heap), (K w.params).In h → h.Ns mainGlobals mg → mg d.name = some (.ref fa) →
      ∃ fd : FuncData, (∀ (s : Shared) (u : Value), BindsTo s fd ⟨[u], []⟩ [("script", u)]) ∧ ∀ (base : Heap) (H : Hp) (s1 : Shared) (a : Addr) (ns : List Int), ns.length ≤ 63 → SqL (K w.params) H a (ns.map V.int) → Env0 l.prog w (K w.params) mg base callerA [] s1 H → codeAny (model l.prog w) callerA (.call (.ref fa) ⟨[.ref a], []⟩) (CR CX0 [] l.prog w H s1 (fun v _ => v = .bl true) fun _ _ _ => False) s1) :
    PySem.W.WalkO q loose XP YP l.row.toRowW d [] (fun f vs => PySem.call f vs) :=
  walk_at (n := 63) hn (by decide) hdf hY fun w mg fa h KX G hm => (F w mg fa h KX G hm).choose_spec.2
end K32
open PySem PySem.W PyProof.Rows
set_option maxRecDepth 100000 in
set_option maxHeartbeats 0 in
theorem PySem.Challenge.cw_plainserial_k32_whole_bounds_holds : PySem.Challenge.rw_plainserial_k32_whole_bounds.Holds := by
  w_on; o_law; k_head; (case hw => w_witness2)
  k_fill
  refine K32.walk (l := PySem.Challenge.rw_plainserial_k32_whole_bounds) rfl rfl (fun w h Y => PySem.W.kIn_of Y) ?F
  case F =>
    intro w mg fa h KX G hmg
    refine' K32.all_mk KX G hmg ?e0 ?t0 ?e1 ?t1 ?e2 ?t2 ?e3 ?t3 ?a0 ?l0 ?c0 ?k0 ?a1 ?l1 ?c1 ?k1 ?a2 ?l2 ?c2 ?k2 ?a3 ?l3 ?c3 ?k3 ?a4 ?l4 ?c4 ?k4 ?a5 ?l5 ?c5 ?k5 ?a6 ?l6 ?c6 ?k6 ?a7 ?l7 ?c7 ?k7 ?a8 ?l8 ?c8 ?k8 ?a9 ?l9 ?c9 ?k9 ?a10 ?l10 ?c10 ?k10 ?a11 ?l11 ?c11 ?k11 ?a12 ?l12 ?c12 ?k12 ?a13 ?l13 ?c13 ?k13 ?a14 ?l14 ?c14 ?k14 ?a15 ?l15 ?c15 ?k15 ?a16 ?l16 ?c16 ?k16 ?a17 ?l17 ?c17 ?k17 ?a18 ?l18 ?c18 ?k18 ?a19 ?l19 ?c19 ?k19 ?a20 ?l20 ?c20 ?k20 ?a21 ?l21 ?c21 ?k21 ?a22 ?l22 ?c22 ?k22 ?a23 ?l23 ?c23 ?k23 ?a24 ?l24 ?c24 ?k24 ?a25 ?l25 ?c25 ?k25 ?a26 ?l26 ?c26 ?k26 ?a27 ?l27 ?c27 ?k27 ?a28 ?l28 ?c28 ?k28 ?a29 ?l29 ?c29 ?k29 ?a30 ?l30 ?c30 ?k30 ?a31 ?l31 ?c31 ?k31 ?a32 ?l32 ?c32 ?k32 ?a33 ?l33 ?c33 ?k33 ?a34 ?l34 ?c34 ?k34 ?a35 ?l35 ?c35 ?k35 ?z0 ?z1 ?z2 ?z3 ?z4 ?z5
    (case e0 => k_is); (case t0 => k_is); (case e1 => k_is); (case t1 => k_is); (case e2 => k_is); (case t2 => k_is); (case e3 => k_is); (case t3 => k_is)
    (case a0 => k_is); (case l0 => k_is); (case c0 => k_is); (case k0 => k_is); (case a1 => k_is); (case l1 => k_is); (case c1 => k_is); (case k1 => k_is)
    (case a2 => k_is); (case l2 => k_is); (case c2 => k_is); (case k2 => k_is); (case a3 => k_is); (case l3 => k_is); (case c3 => k_is); (case k3 => k_is)
    (case a4 => k_is); (case l4 => k_is); (case c4 => k_is); (case k4 => k_is); (case a5 => k_is); (case l5 => k_is); (case c5 => k_is); (case k5 => k_is)
    (case a6 => k_is); (case l6 => k_is); (case c6 => k_is); (case k6 => k_is); (case a7 => k_is); (case l7 => k_is); (case c7 => k_is); (case k7 => k_is)
    (case a8 => k_is); (case l8 => k_is); (case c8 => k_is); (case k8 => k_is); (case a9 => k_is); (case l9 => k_is); (case c9 => k_is); (case k9 => k_is)
    (case a10 => k_is); (case l10 => k_is); (case c10 => k_is); (case k10 => k_is); (case a11 => k_is); (case l11 => k_is); (case c11 => k_is); (case k11 => k_is)
    (case a12 => k_is); (case l12 => k_is); (case c12 => k_is); (case k12 => k_is); (case a13 => k_is); (case l13 => k_is); (case c13 => k_is); (case k13 => k_is)
    (case a14 => k_is); (case l14 => k_is); (case c14 => k_is); (case k14 => k_is); (case a15 => k_is); (case l15 => k_is); (case c15 => k_is); (case k15 => k_is)
    (case a16 => k_is); (case l16 => k_is); (case c16 => k_is); (case k16 => k_is); (case a17 => k_is); (case l17 => k_is); (case c17 => k_is); (case k17 => k_is)
    (case a18 => k_is); (case l18 => k_is); (case c18 => k_is); (case k18 => k_is); (case a19 => k_is); (case l19 => k_is); (case c19 => k_is); (case k19 => k_is)
    (case a20 => k_is); (case l20 => k_is); (case c20 => k_is); (case k20 => k_is); (case a21 => k_is); (case l21 => k_is); (case c21 => k_is); (case k21 => k_is)
    (case a22 => k_is); (case l22 => k_is); (case c22 => k_is); (case k22 => k_is); (case a23 => k_is); (case l23 => k_is); (case c23 => k_is); (case k23 => k_is)
    (case a24 => k_is); (case l24 => k_is); (case c24 => k_is); (case k24 => k_is); (case a25 => k_is); (case l25 => k_is); (case c25 => k_is); (case k25 => k_is)
    (case a26 => k_is); (case l26 => k_is); (case c26 => k_is); (case k26 => k_is); (case a27 => k_is); (case l27 => k_is); (case c27 => k_is); (case k27 => k_is)
    (case a28 => k_is); (case l28 => k_is); (case c28 => k_is); (case k28 => k_is); (case a29 => k_is); (case l29 => k_is); (case c29 => k_is); (case k29 => k_is)
    (case a30 => k_is); (case l30 => k_is); (case c30 => k_is); (case k30 => k_is); (case a31 => k_is); (case l31 => k_is); (case c31 => k_is); (case k31 => k_is)
    (case a32 => k_is); (case l32 => k_is); (case c32 => k_is); (case k32 => k_is); (case a33 => k_is); (case l33 => k_is); (case c33 => k_is); (case k33 => k_is)
    (case a34 => k_is); (case l34 => k_is); (case c34 => k_is); (case k34 => k_is); (case a35 => k_is); (case l35 => k_is); (case c35 => k_is); (case k35 => k_is)
    (case z0 => k_is); (case z1 => k_is); (case z2 => k_is); (case z3 => k_is); (case z4 => k_is); (case z5 => k_is)
