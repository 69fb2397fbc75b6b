import PyProof.Rows.All
import Wide.All
import OpenK.AllK
import Wide.FinOn
import HandS.ForMost
import HandS.Evl
import HandS.IsInst
import HandS.Flow
import HandS.Style
import HandS.TupAny
import HandS.Deep
import KE.SortData
import KE.LtSeq
import KE.LtData
import HandS.TupLe
import PyProof.ReprRoads
import PyProof.ReprLen
import PyProof.ReprText
import HandS.TupSets
import HandS.SetFor
import HandS.Strs
import HandS.Dict
import HandS.Iter
import HandS.More
import HandS.DictTup
import HandS.ListItems
import PyProof.Transfer
import PySem.Challenge.RW_plainserial_k52_whole_pages
set_option Elab.async false
set_option linter.all false
set_option maxRecDepth 100000
set_option maxHeartbeats 4000000
/-! Pd: pure data over the hand layer: values that stand for PyData, local owned lists, a ghost state. -/
namespace Pd
open PySem PySem.Spec L2

abbrev D := PyData
/-- a text that may be compared, measured -/
def SOk (x : Str) : Prop := x.length ≤ sizeLine ∧ PyData.canLay0 (.str x) = true

/-! ### values that stand for data; what stands never changes -/
mutual
inductive Rp (K : PySem.W.Frag) (H : Hp) : V → D → Prop
  | non : Rp K H .non .none
  | bl (b : Bool) : Rp K H (.bl b) (.bool b)
  | int (i : Int) : Rp K H (.int i) (.int i)
  | str {x : Str} : SOk x → Rp K H (.str x) (.str x)
  | lst {a : Addr} {xs : List V} {ds : List D} : H a = some (.lst xs) → RpA K H xs ds → ds.length ≤ sizeLine → Rp K H (.ref a) (.list ds)
  | tup {a : Addr} {xs : List V} {ds : List D} : SqT K H a xs → RpA K H xs ds → ds.length ≤ sizeLine → Rp K H (.ref a) (.tuple ds)
inductive RpA (K : PySem.W.Frag) (H : Hp) : List V → List D → Prop
  | nil : RpA K H [] []
  | cons {v : V} {vs : List V} {d : D} {ds : List D} : Rp K H v d → RpA K H vs ds → RpA K H (v :: vs) (d :: ds)
end
section
variable {K : PySem.W.Frag} {H H' : Hp}
theorem same_t {a : Addr} {xs : List V} (e : Same H H') (h : SqT K H a xs) : SqT K H' a xs := Evl.ex_t e h
mutual
theorem Rp.mono (e : Same H H') : ∀ {d : D} {v : V}, Rp K H v d → Rp K H' v d
  | .none, _, h => by cases h; exact .non
  | .bool _, _, h => by cases h; exact .bl _
  | .int _, _, h => by cases h; exact .int _
  | .str _, _, h => by cases h with | str h => exact .str h
  | .list ds, _, h => by cases h with | lst a b c => exact .lst (e _ _ a) (RpA.mono e b) c
  | .tuple ds, _, h => by cases h with | tup a b c => exact .tup (same_t e a) (RpA.mono e b) c
  | .dict _, _, h => by cases h
theorem RpA.mono (e : Same H H') : ∀ {ds : List D} {vs : List V}, RpA K H vs ds → RpA K H' vs ds
  | [], _, h => by cases h; exact .nil
  | _ :: _, _, h => by cases h with | cons a b => exact .cons (Rp.mono e a) (RpA.mono e b)
end
mutual
theorem Rp.dp : ∀ {d : D} {v : V}, Rp K H v d → Dp K H v d
  | .none, _, h => by cases h; exact .non
  | .bool _, _, h => by cases h; exact .bl _
  | .int _, _, h => by cases h; exact .int _
  | .str _, _, h => by cases h with | str h => exact .str _
  | .list ds, _, h => by cases h with | lst a b c => exact .lst (SqL.of a) (RpA.dp b)
  | .tuple ds, _, h => by cases h with | tup a b c => exact .tup a (RpA.dp b)
  | .dict _, _, h => by cases h
theorem RpA.dp : ∀ {ds : List D} {vs : List V}, RpA K H vs ds → DpAll K H vs ds
  | [], _, h => by cases h; exact .nil
  | _ :: _, _, h => by cases h with | cons a b => exact .cons (Rp.dp a) (RpA.dp b)
end
mutual
theorem Rp.lay : ∀ {d : D} {v : V}, Rp K H v d → d.canLay0 = true
  | .none, _, h => by simp only [PyData.canLay0]
  | .bool _, _, h => by simp only [PyData.canLay0]
  | .int _, _, h => by simp only [PyData.canLay0]
  | .str _, _, h => by cases h with | str h => exact h.2
  | .list ds, _, h => by cases h with | lst a b c => simp only [PyData.canLay0]; exact RpA.lay b
  | .tuple ds, _, h => by cases h with | tup a b c => simp only [PyData.canLay0]; exact RpA.lay b
  | .dict _, _, h => by cases h
theorem RpA.lay : ∀ {ds : List D} {vs : List V}, RpA K H vs ds → PyData.canLayAll0 ds = true
  | [], _, h => by simp only [PyData.canLayAll0]
  | _ :: _, _, h => by cases h with | cons a b => simp only [PyData.canLayAll0, Rp.lay a, RpA.lay b, Bool.and_self]
end
theorem RpA.len : ∀ {vs : List V} {ds : List D}, RpA K H vs ds → vs.length = ds.length
  | _, _, .nil => rfl
  | _, _, .cons _ b => by rw [List.length_cons, List.length_cons, RpA.len b]
theorem RpA.get : ∀ {vs : List V} {ds : List D} {i : Nat} {d : D}, RpA K H vs ds → ds[i]? = some d → ∃ v, vs[i]? = some v ∧ Rp K H v d
  | _, _, _, _, .nil, e => by simp at e
  | _, _, 0, _, .cons a _, e => by simp at e; subst e; exact ⟨_, rfl, a⟩
  | _, _, i + 1, d, .cons _ b, e => by
    obtain ⟨v, h1, h2⟩ := RpA.get (i := i) (d := d) b (by simpa using e)
    exact ⟨v, by simpa using h1, h2⟩
theorem RpA.getV : ∀ {vs : List V} {ds : List D} {i : Nat} {v : V}, RpA K H vs ds → vs[i]? = some v → ∃ d, ds[i]? = some d ∧ Rp K H v d
  | _, _, _, _, .nil, e => by simp at e
  | _, _, 0, _, .cons a _, e => by simp at e; subst e; exact ⟨_, rfl, a⟩
  | _, _, i + 1, v, .cons _ b, e => by
    obtain ⟨d, h1, h2⟩ := RpA.getV (i := i) (v := v) b (by simpa using e)
    exact ⟨d, by simpa using h1, h2⟩
theorem RpA.append : ∀ {vs us : List V} {ds es : List D}, RpA K H vs ds → RpA K H us es → RpA K H (vs ++ us) (ds ++ es)
  | _, _, _, _, .nil, h => h
  | _, _, _, _, .cons a b, h => .cons a (RpA.append b h)
theorem RpA.one {v : V} {d : D} (h : Rp K H v d) : RpA K H [v] [d] := .cons h .nil
theorem RpA.set {v : V} {d : D} (h : Rp K H v d) : ∀ {vs : List V} {ds : List D} (i : Nat), RpA K H vs ds → RpA K H (vs.set i v) (ds.set i d)
  | _, _, _, .nil => .nil
  | _, _, 0, .cons _ b => .cons h b
  | _, _, i + 1, .cons a b => .cons a (RpA.set h i b)
theorem RpA.take : ∀ {vs : List V} {ds : List D} (n : Nat), RpA K H vs ds → RpA K H (vs.take n) (ds.take n)
  | _, _, 0, _ => .nil
  | _, _, _ + 1, .nil => .nil
  | _, _, n + 1, .cons a b => .cons a (RpA.take n b)
theorem RpA.drop : ∀ {vs : List V} {ds : List D} (n : Nat), RpA K H vs ds → RpA K H (vs.drop n) (ds.drop n)
  | _, _, 0, h => h
  | _, _, _ + 1, .nil => .nil
  | _, _, n + 1, .cons _ b => RpA.drop n b
theorem RpA.reverse : ∀ {vs : List V} {ds : List D}, RpA K H vs ds → RpA K H vs.reverse ds.reverse
  | _, _, .nil => .nil
  | _, _, .cons a b => by rw [List.reverse_cons, List.reverse_cons]; exact (RpA.reverse b).append (.one a)
theorem RpA.flatRep {vs : List V} {ds : List D} (h : RpA K H vs ds) : ∀ n : Nat, RpA K H (List.replicate n vs).flatten (List.replicate n ds).flatten
  | 0 => .nil
  | n + 1 => by rw [List.replicate_succ, List.replicate_succ, List.flatten_cons, List.flatten_cons]; exact h.append (RpA.flatRep h n)
theorem RpA.ints : ∀ {vs : List V} {ns : List Int}, RpA K H vs (ns.map .int) → vs = ns.map V.int
  | _, [], h => by cases h; rfl
  | _, n :: ns, h => by
    cases h with
    | cons a b => cases a; rw [List.map_cons, ← RpA.ints b]
theorem RpA.of_ints : ∀ (ns : List Int), RpA K H (ns.map V.int) (ns.map .int)
  | [] => .nil
  | n :: ns => .cons (.int n) (RpA.of_ints ns)
end

/-! ### a pure step: I what is known to stand, H the heap -/
structure Pst (I H I' H' : Hp) : Prop where
  eI : Same I I'
  eH : Same H H'
  sub : Same I' H'
  ag : ∀ a, H a ≠ none → I' a = I a
section
variable {I H I1 H1 I2 H2 : Hp}
theorem Pst.refl (h : Same I H) : Pst I H I H := ⟨Same.refl _, Same.refl _, h, fun _ _ => rfl⟩
theorem Pst.trans (a : Pst I H I1 H1) (b : Pst I1 H1 I2 H2) : Pst I H I2 H2 := ⟨a.eI.trans b.eI, a.eH.trans b.eH, b.sub, fun x hx => by
  have h1 : H1 x ≠ none := fun z => hx (a.eH.free z)
  rw [b.ag x h1, a.ag x hx]⟩
theorem same_new {H : Hp} {p : Addr} {o : HO} (h : H p = none) : Same H (upd H p o) := Evl.Ex.new h
theorem same_upd {I H : Hp} {p : Addr} {o : HO} (e : Same I H) (h : H p = none) : Same (upd I p o) (upd H p o) := fun b u q => by
  by_cases z : b = p
  · subst z; rw [upd_same] at q ⊢; exact q
  · rw [upd_ne z] at q ⊢; exact e b u q
theorem Pst.new {p : Addr} {o : HO} (e : Same I H) (h : H p = none) : Pst I H (upd I p o) (upd H p o) :=
  ⟨same_new (e.free h), same_new h, same_upd e h, fun a ha => upd_ne fun z => ha (z ▸ h)⟩
end

/-! ### the ghost state -/
structure Gs (G : Type) where
  fp : G → Addr → Prop
  ok : G → Hp → Prop
  root : G → V
  loc : ∀ {g H H'}, (∀ a, fp g a → H' a = H a) → ok g H → ok g H'
  dom : ∀ {g H a}, ok g H → fp g a → H a ≠ none
/-- none -/
def G0 : Gs Unit := ⟨fun _ _ => False, fun _ _ => True, fun _ => .non, fun _ _ => trivial, fun _ h => h.elim⟩

/-! ### containers of one's own: a list or a dict of data that stands; a list of such -/
inductive T1 where
  | lf (d : D) | ls (xs : List D) | dc (kvs : List (Key × D)) | lk (kvs : List (Key × D))
def T1.own : T1 → Bool
  | .lf _ => false
  | _ => true
inductive T2 where
  | one (t : T1) | ls (ts : List T1)
section
variable (K : PySem.W.Frag) (I H : Hp)
def T1Ok (v : V) : T1 → Prop
  | .lf d => Rp K I v d
  | .ls xs => ∃ p vs, v = .ref p ∧ H p = some (.lst vs) ∧ RpA K I vs xs ∧ xs.length ≤ sizeLine
  | .dc kvs => ∃ p vs, v = .ref p ∧ H p = some (.dK vs) ∧ vs.map (·.1) = kvs.map (·.1) ∧ RpA K I (vs.map (·.2)) (kvs.map (·.2)) ∧ kvs.length ≤ sizeLine
  | .lk kvs => ∃ p vs o, v = .ref p ∧ H p = some (.frz o (.dK vs)) ∧ vs.map (·.1) = kvs.map (·.1) ∧ RpA K I (vs.map (·.2)) (kvs.map (·.2)) ∧ kvs.length ≤ sizeLine
def T1.fp (t : T1) (v : V) (a : Addr) : Prop := t.own = true ∧ v = .ref a
def T2.fp (H : Hp) (v : V) : T2 → Addr → Prop
  | .one t, a => t.fp v a
  | .ls ts, a => v = .ref a ∨ ∃ (p : Addr) (vs : List V) (k : Nat) (u : V) (t : T1), v = .ref p ∧ H p = some (.lst vs) ∧ vs[k]? = some u ∧ ts[k]? = some t ∧ t.fp u a
def T2Ok (v : V) : T2 → Prop
  | .one t => T1Ok K I H v t
  | .ls ts => ∃ (p : Addr) (vs : List V), v = .ref p ∧ H p = some (.lst vs) ∧ vs.length = ts.length ∧ ts.length ≤ sizeLine ∧
      (∀ (k : Nat) (u : V) (t : T1), vs[k]? = some u → ts[k]? = some t → T1Ok K I H u t ∧ ¬ t.fp u p) ∧
      (∀ (k l : Nat) (u u' : V) (t t' : T1) (a : Addr), k ≠ l → vs[k]? = some u → vs[l]? = some u' → ts[k]? = some t → ts[l]? = some t' → t.fp u a → ¬ t'.fp u' a)
end
section
variable {K : PySem.W.Frag} {I I' H H' : Hp} {v : V}
theorem T1Ok.mono {t : T1} (e : Same I I') (h : T1Ok K I H v t) (hk : ∀ a, t.fp v a → H' a = H a) : T1Ok K I' H' v t := by
  cases t with
  | lf d => exact Rp.mono e h
  | ls xs => obtain ⟨p, vs, rfl, hp, r, z⟩ := h; exact ⟨p, vs, rfl, (hk p ⟨rfl, rfl⟩).trans hp, r.mono e, z⟩
  | dc kvs => obtain ⟨p, vs, rfl, hp, hs, r, z⟩ := h; exact ⟨p, vs, rfl, (hk p ⟨rfl, rfl⟩).trans hp, hs, r.mono e, z⟩
  | lk kvs => obtain ⟨p, vs, o, rfl, hp, hs, r, z⟩ := h; exact ⟨p, vs, o, rfl, (hk p ⟨rfl, rfl⟩).trans hp, hs, r.mono e, z⟩
theorem T1Ok.dom {t : T1} {a : Addr} (h : T1Ok K I H v t) (f : t.fp v a) : H a ≠ none := by
  obtain ⟨f1, rfl⟩ := f
  cases t with
  | lf d => cases f1
  | ls xs => obtain ⟨p, vs, e, hp, _⟩ := h; cases e; rw [hp]; simp
  | dc kvs => obtain ⟨p, vs, e, hp, _⟩ := h; cases e; rw [hp]; simp
  | lk kvs => obtain ⟨p, vs, o, e, hp, _⟩ := h; cases e; rw [hp]; simp
theorem T2Ok.dom {t : T2} {a : Addr} (h : T2Ok K I H v t) (f : t.fp H v a) : H a ≠ none := by
  cases t with
  | one t => exact T1Ok.dom h f
  | ls ts =>
    obtain ⟨p, vs, rfl, hp, hl, hz, h1, h2⟩ := h
    rcases f with f | ⟨q, us, k, u, t, e, hq, hu, ht, f⟩
    · cases f; rw [hp]; simp
    · cases e
      rw [hp] at hq; cases hq
      exact (h1 k u t hu ht).1.dom f
theorem T2Ok.mono {t : T2} (e : Same I I') (h : T2Ok K I H v t) (hk : ∀ a, t.fp H v a → H' a = H a) : T2Ok K I' H' v t ∧ ∀ a, t.fp H' v a ↔ t.fp H v a := by
  cases t with
  | one t => exact ⟨T1Ok.mono e h hk, fun _ => Iff.rfl⟩
  | ls ts =>
    obtain ⟨p, vs, rfl, hp, hl, hz, h1, h2⟩ := h
    have hp' : H' p = some (.lst vs) := (hk p (.inl rfl)).trans hp
    refine ⟨⟨p, vs, rfl, hp', hl, hz, fun k u t hu ht => ⟨(h1 k u t hu ht).1.mono e fun a f => hk a (.inr ⟨p, vs, k, u, t, rfl, hp, hu, ht, f⟩), (h1 k u t hu ht).2⟩, h2⟩, fun a => ?_⟩
    constructor
    · rintro (f | ⟨q, us, k, u, t, e, hq, hu, ht, f⟩)
      · exact .inl f
      · cases e
        rw [hp'] at hq; cases hq
        exact .inr ⟨p, vs, k, u, t, rfl, hp, hu, ht, f⟩
    · rintro (f | ⟨q, us, k, u, t, e, hq, hu, ht, f⟩)
      · exact .inl f
      · cases e
        rw [hp] at hq; cases hq
        exact .inr ⟨p, vs, k, u, t, rfl, hp', hu, ht, f⟩
end
/-- what a slot holds: nothing that is known, data that stands, a list of one's own, the ghost state's root, a value as it is, a container of one's own -/
inductive SV where
  | un | sh (d : D) | ow (ds : List D) | st | raw (v : V) | kd (kvs : List (Str × D)) | tr (t : T2) | fz (kvs : List (Key × D)) | fl (kss : List (List (Key × D)))
abbrev Env := List SV
abbrev Env.at (env : Env) (i : Nat) : SV := env.getD i .un
/-- the world: what is to be kept, what was known at the entry, what is known to stand, the ghost's places, its root -/
structure Wd where
  H0 : Hp
  I0 : Hp
  I : Hp
  fp : Addr → Prop
  rt : V
abbrev Wd.im (w : Wd) (I : Hp) : Wd := { w with I := I }

/-- a dict of texts that stands: its keys in order, its values' data -/
def KdOk (K : PySem.W.Frag) (I : Hp) (v : V) (kvs : List (Str × D)) : Prop := ∃ a vs, v = .ref a ∧ I a = some (.dK vs) ∧ vs.map (·.1) = kvs.map (fun p => Sum.inr p.1) ∧ RpA K I (vs.map (·.2)) (kvs.map (·.2))
theorem KdOk.mono {K : PySem.W.Frag} {I I' : Hp} (e : Same I I') {v : V} {kvs : List (Str × D)} (h : KdOk K I v kvs) : KdOk K I' v kvs := by
  obtain ⟨a, vs, e1, e2, e3, r⟩ := h
  exact ⟨a, vs, e1, e _ _ e2, e3, r.mono e⟩
/-- a dict that is locked; a list of such, that stands -/
def FzOk (K : PySem.W.Frag) (I : Hp) (v : V) (kvs : List (Key × D)) : Prop := ∃ a vs o, v = .ref a ∧ I a = some (.frz o (.dK vs)) ∧ vs.map (·.1) = kvs.map (·.1) ∧ RpA K I (vs.map (·.2)) (kvs.map (·.2)) ∧ kvs.length ≤ sizeLine
theorem FzOk.mono {K : PySem.W.Frag} {I I' : Hp} (e : Same I I') {v : V} {kvs : List (Key × D)} (h : FzOk K I v kvs) : FzOk K I' v kvs := by
  obtain ⟨a, vs, o, e1, e2, e3, r, z⟩ := h
  exact ⟨a, vs, o, e1, e _ _ e2, e3, r.mono e, z⟩
def FlOk (K : PySem.W.Frag) (I : Hp) (v : V) (kss : List (List (Key × D))) : Prop := ∃ a us, v = .ref a ∧ I a = some (.lst us) ∧ us.length = kss.length ∧ kss.length ≤ sizeLine ∧ ∀ (k : Nat) (u : V) (kvs : List (Key × D)), us[k]? = some u → kss[k]? = some kvs → FzOk K I u kvs
theorem FlOk.mono {K : PySem.W.Frag} {I I' : Hp} (e : Same I I') {v : V} {kss : List (List (Key × D))} (h : FlOk K I v kss) : FlOk K I' v kss := by
  obtain ⟨a, us, e1, e2, e3, z, r⟩ := h
  exact ⟨a, us, e1, e _ _ e2, e3, z, fun k u kvs h1 h2 => (r k u kvs h1 h2).mono e⟩
def SlotOk (K : PySem.W.Frag) (w : Wd) (σ : St) (H : Hp) (i : Nat) : SV → Prop
  | .un => True
  | .sh d => ∃ v, σ[i]? = some (some v) ∧ Rp K w.I v d
  | .kd kvs => ∃ v, σ[i]? = some (some v) ∧ KdOk K w.I v kvs
  | .fz kvs => ∃ v, σ[i]? = some (some v) ∧ FzOk K w.I v kvs
  | .fl kss => ∃ v, σ[i]? = some (some v) ∧ FlOk K w.I v kss
  | .st => σ[i]? = some (some w.rt)
  | .raw v => σ[i]? = some (some v)
  | .ow ds => ∃ p vs, σ[i]? = some (some (.ref p)) ∧ H p = some (.lst vs) ∧ w.I p = none ∧ w.H0 p = none ∧ ¬ w.fp p ∧ RpA K w.I vs ds ∧ ds.length ≤ sizeLine
  | .tr t => ∃ v, σ[i]? = some (some v) ∧ T2Ok K w.I H v t ∧ ∀ a, t.fp H v a → w.I a = none ∧ w.H0 a = none ∧ ¬ w.fp a
/-- the places that a slot owns -/
def fpt (H : Hp) (σ : St) (i : Nat) : SV → Addr → Prop
  | .ow _, a => σ[i]? = some (some (.ref a))
  | .tr t, a => ∃ v, σ[i]? = some (some v) ∧ t.fp H v a
  | _, _ => False

structure Rel {G : Type} (K : PySem.W.Frag) (S : Gs G) (w : Wd) (env : Env) (g : G) (σ : St) (H : Hp) : Prop where
  e0 : Same w.H0 H
  eI : Same w.I H
  ag : ∀ a o, w.H0 a = some o → w.I a = w.I0 a
  ge : Same w.I0 w.I
  gfp : ∀ a, S.fp g a ↔ w.fp a
  grt : S.root g = w.rt
  gok : S.ok g H
  fI : ∀ a, w.fp a → w.I a = none
  f0 : ∀ a, w.fp a → w.H0 a = none
  len : σ.length = env.length
  slot : ∀ i, SlotOk K w σ H i (env.at i)
  dis : ∀ i j a, i ≠ j → fpt H σ i (env.at i) a → ¬ fpt H σ j (env.at j) a
/-- what a slot owns is nobody else's -/
theorem SlotOk.fr {K : PySem.W.Frag} {w : Wd} {σ : St} {H : Hp} {i : Nat} {sv : SV} {a : Addr} (h : SlotOk K w σ H i sv) (f : fpt H σ i sv a) : w.I a = none ∧ w.H0 a = none ∧ ¬ w.fp a ∧ H a ≠ none := by
  cases sv with
  | ow ds =>
    obtain ⟨p, vs, e, hp, hi, h0, hf, _⟩ := h
    have f : σ[i]? = some (some (.ref a)) := f
    rw [e] at f; cases f
    exact ⟨hi, h0, hf, by rw [hp]; simp⟩
  | tr t =>
    obtain ⟨v, e, ok, k⟩ := h
    obtain ⟨u, f1, f2⟩ := f
    rw [e] at f1; cases f1
    obtain ⟨a1, a2, a3⟩ := k a f2
    exact ⟨a1, a2, a3, ok.dom f2⟩
  | _ => exact f.elim
/-- a slot stays -/
theorem SlotOk.keep {K : PySem.W.Frag} {w w' : Wd} {σ σ' : St} {H H' : Hp} {i : Nat} {sv : SV} (h : SlotOk K w σ H i sv) (hs : σ'[i]? = σ[i]?) (eI : Same w.I w'.I) (rt : w'.rt = w.rt) (k : ∀ a, fpt H σ i sv a → H' a = H a ∧ w'.I a = none ∧ w'.H0 a = none ∧ ¬ w'.fp a) : SlotOk K w' σ' H' i sv ∧ ∀ a, fpt H' σ' i sv a ↔ fpt H σ i sv a := by
  cases sv with
  | un => exact ⟨trivial, fun _ => Iff.rfl⟩
  | sh d => obtain ⟨v, e, r⟩ := h; exact ⟨⟨v, hs.trans e, r.mono eI⟩, fun _ => Iff.rfl⟩
  | kd d => obtain ⟨v, e, r⟩ := h; exact ⟨⟨v, hs.trans e, r.mono eI⟩, fun _ => Iff.rfl⟩
  | fz d => obtain ⟨v, e, r⟩ := h; exact ⟨⟨v, hs.trans e, r.mono eI⟩, fun _ => Iff.rfl⟩
  | fl d => obtain ⟨v, e, r⟩ := h; exact ⟨⟨v, hs.trans e, r.mono eI⟩, fun _ => Iff.rfl⟩
  | st => exact ⟨hs.trans (Eq.trans h (by rw [rt])), fun _ => Iff.rfl⟩
  | raw v => exact ⟨hs.trans h, fun _ => Iff.rfl⟩
  | ow ds =>
    obtain ⟨p, vs, e, hp, hi, h0, hf, r, z⟩ := h
    obtain ⟨k1, k2, k3, k4⟩ := k p e
    exact ⟨⟨p, vs, hs.trans e, k1.trans hp, k2, k3, k4, r.mono eI, z⟩, fun a => by show σ'[i]? = _ ↔ σ[i]? = _; rw [hs]⟩
  | tr t =>
    obtain ⟨v, e, ok, q⟩ := h
    obtain ⟨m1, m2⟩ := ok.mono eI (H' := H') fun a f => (k a ⟨v, e, f⟩).1
    refine ⟨⟨v, hs.trans e, m1, fun a f => (k a ⟨v, e, (m2 a).mp f⟩).2⟩, fun a => ?_⟩
    constructor
    · rintro ⟨u, e1, f⟩
      rw [hs, e] at e1; cases e1
      exact ⟨v, e, (m2 a).mp f⟩
    · rintro ⟨u, e1, f⟩
      rw [e] at e1; cases e1
      exact ⟨v, hs.trans e, (m2 a).mpr f⟩
section
variable {G : Type} {K : PySem.W.Frag} {S : Gs G} {w : Wd} {env : Env} {g g' : G} {σ : St} {H H' I' : Hp}
/-- all slots stay -/
theorem Rel.keepS {w' : Wd} (R : Rel K S w env g σ H) (eI : Same w.I w'.I) (rt : w'.rt = w.rt) (k : ∀ i a, fpt H σ i (env.at i) a → H' a = H a ∧ w'.I a = none ∧ w'.H0 a = none ∧ ¬ w'.fp a) :
    (∀ i, SlotOk K w' σ H' i (env.at i)) ∧ ∀ i j a, i ≠ j → fpt H' σ i (env.at i) a → ¬ fpt H' σ j (env.at j) a := by
  have q := fun i => (R.slot i).keep (σ' := σ) (w' := w') (H' := H') rfl eI rt (k i)
  exact ⟨fun i => (q i).1, fun i j a n f1 f2 => R.dis i j a n (((q i).2 a).mp f1) (((q j).2 a).mp f2)⟩
theorem Pst.keep (p : Pst w.I H I' H') {a : Addr} (h : H a ≠ none) : H' a = H a := by
  cases e : H a with
  | none => exact absurd e h
  | some o => exact p.eH a o e
theorem Rel.pst (R : Rel K S w env g σ H) (p : Pst w.I H I' H') : Rel K S (w.im I') env g σ H' := by
  obtain ⟨s1, s2⟩ := R.keepS (w' := w.im I') (H' := H') p.eI rfl fun i a f => by
    obtain ⟨a1, a2, a3, a4⟩ := (R.slot i).fr f
    exact ⟨p.keep a4, (p.ag a a4).trans a1, a2, a3⟩
  exact {
    e0 := R.e0.trans p.eH
    eI := p.sub
    ag := fun a o e => (p.ag a (by rw [R.e0 a o e]; simp)).trans (R.ag a o e)
    ge := R.ge.trans p.eI
    gfp := R.gfp
    grt := R.grt
    gok := S.loc (fun a ha => by
      cases q : H a with
      | none => exact absurd q (S.dom R.gok ha)
      | some o => exact p.eH a o q) R.gok
    fI := fun a ha => (p.ag a (S.dom R.gok ((R.gfp a).mpr ha))).trans (R.fI a ha)
    f0 := R.f0
    len := R.len
    slot := s1
    dis := s2 }
/-- a new object comes, that nothing knows of -/
theorem Rel.alloc {p : Addr} {o : HO} (R : Rel K S w env g σ H) (h : H p = none) : Rel K S w env g σ (upd H p o) :=
  R.pst (I' := w.I) ⟨Same.refl _, same_new h, R.eI.trans (same_new h), fun _ _ => rfl⟩
/-- p is nobody's -/
structure Nob (w : Wd) (env : Env) (σ : St) (H : Hp) (p : Addr) : Prop where
  i : w.I p = none
  h0 : w.H0 p = none
  f : ¬ w.fp p
  o : ∀ i, ¬ fpt H σ i (env.at i) p
theorem Rel.nob0 {p : Addr} (R : Rel K S w env g σ H) (h : H p = none) : Nob w env σ H p where
  i := R.eI.free h
  h0 := R.e0.free h
  f := fun z => S.dom R.gok ((R.gfp p).mpr z) h
  o := fun i f => ((R.slot i).fr f).2.2.2 h
/-- .. in a heap that knows more -/
theorem Nob.pst {p : Addr} (R : Rel K S w env g σ H) (n : Nob w env σ H p) (q : Pst w.I H I' H') (hi : I' p = none) : Nob (w.im I') env σ H' p where
  i := hi
  h0 := n.h0
  f := n.f
  o := fun i f => n.o i (((R.slot i).keep (σ' := σ) (w' := w.im I') (H' := H') rfl q.eI rfl (fun a f => by
    obtain ⟨a1, a2, a3, a4⟩ := (R.slot i).fr f
    exact ⟨q.keep a4, (q.ag a a4).trans a1, a2, a3⟩)).2 p |>.mp f)
theorem Rel.nobP {p : Addr} (R : Rel K S w env g σ H) (h : H p = none) (q : Pst w.I H I' H') (hi : I' p = none) : Nob (w.im I') env σ H' p := Nob.pst R (R.nob0 h) q hi
theorem Rel.nobS {p : Addr} (R : Rel K S w env g σ H) (h : H p = none) (s : Same H H') : Nob w env σ H' p := Nob.pst (I' := w.I) R (R.nob0 h) ⟨Same.refl _, s, R.eI.trans s, fun _ _ => rfl⟩ (R.eI.free h)
theorem Rel.nob {p : Addr} {o : HO} (R : Rel K S w env g σ H) (h : H p = none) : Nob w env σ (upd H p o) p :=
  Nob.pst (I' := w.I) R (R.nob0 h) ⟨Same.refl _, same_new h, R.eI.trans (same_new h), fun _ _ => rfl⟩ (R.eI.free h)
/-- nobody's object is from now on one that stands -/
theorem Rel.freeze {p : Addr} {o : HO} (R : Rel K S w env g σ H) (n : Nob w env σ H p) (h : H p = some o) : Rel K S (w.im (upd w.I p o)) env g σ H := by
  obtain ⟨s1, s2⟩ := R.keepS (w' := w.im (upd w.I p o)) (H' := H) (same_new n.i) rfl fun i a f => by
    obtain ⟨a1, a2, a3, a4⟩ := (R.slot i).fr f
    have ne : a ≠ p := fun z => n.o i (z ▸ f)
    exact ⟨rfl, (upd_ne ne).trans a1, a2, a3⟩
  exact {
    e0 := R.e0
    eI := fun b u q => by
      have q : upd w.I p o b = some u := q
      by_cases z : b = p
      · subst z; rw [upd_same] at q; rw [h]; exact q
      · rw [upd_ne z] at q; exact R.eI b u q
    ag := fun a u e => by
      have z : a ≠ p := fun z => by rw [z, n.h0] at e; cases e
      exact (upd_ne z).trans (R.ag a u e)
    ge := R.ge.trans (same_new n.i)
    gfp := R.gfp
    grt := R.grt
    gok := R.gok
    fI := fun a ha => by
      have z : a ≠ p := fun z => n.f (z ▸ ha)
      exact (upd_ne z).trans (R.fI a ha)
    f0 := R.f0
    len := R.len
    slot := s1
    dis := s2 }
end
end Pd

/-! Pd: expressions and tests. -/
namespace Pd
open PySem PySem.Spec L2

/-! ### readings by data -/
abbrev ME (G : Type) := Env → G → Option (D × G)
abbrev ML (G : Type) := Env → G → Option (List D × G)
abbrev MT (G : Type) := Env → G → Option (Bool × G)

def tE {G : Type} (K : PySem.W.Frag) (S : Gs G) (m : ME G) : TE := fun σ H Q => ∃ w env g d g', Rel K S w env g σ H ∧ m env g = some (d, g') ∧
  ∀ v I' H', Same w.I I' → Rel K S (w.im I') env g' σ H' → Rp K I' v d → Q v H'
/-- a new list, that nothing knows of -/
def tF {G : Type} (K : PySem.W.Frag) (S : Gs G) (m : ML G) : TE := fun σ H Q => ∃ w env g ds g', Rel K S w env g σ H ∧ m env g = some (ds, g') ∧
  ∀ p vs I' H', Same w.I I' → Rel K S (w.im I') env g' σ H' → Nob (w.im I') env σ H' p → H' p = some (.lst vs) → RpA K I' vs ds → ds.length ≤ sizeLine → Q (.ref p) H'
def tT {G : Type} (K : PySem.W.Frag) (S : Gs G) (m : MT G) : TT := fun σ H Q => ∃ w env g b g', Rel K S w env g σ H ∧ m env g = some (b, g') ∧
  ∀ I' H', Same w.I I' → Rel K S (w.im I') env g' σ H' → Q b H'
def tA {G : Type} (K : PySem.W.Frag) (S : Gs G) (m : ML G) : TA := fun σ H Q => ∃ w env g ds g', Rel K S w env g σ H ∧ m env g = some (ds, g') ∧
  ∀ vs I' H', Same w.I I' → Rel K S (w.im I') env g' σ H' → RpA K I' vs ds → Q vs H'

abbrev DE {G : Type} (X : Cx) (S : Gs G) (e : Expr) (m : ME G) : Prop := PE X e (tE X.K S m)
abbrev DF {G : Type} (X : Cx) (S : Gs G) (e : Expr) (m : ML G) : Prop := PE X e (tF X.K S m)
abbrev DT {G : Type} (X : Cx) (S : Gs G) (e : Expr) (m : MT G) : Prop := PT X e (tT X.K S m)
abbrev DW {G : Type} (X : Cx) (S : Gs G) (e : Expr) (m : MT G) : Prop := PW X e (tT X.K S m)
abbrev DA {G : Type} (X : Cx) (S : Gs G) (es : List Expr) (m : ML G) : Prop := PA X es (tA X.K S m)

theorem PE.imp {X : Cx} {e : Expr} {t t' : TE} (h : PE X e t) (i : ∀ σ H Q, t' σ H Q → t σ H Q) : PE X e t' := ⟨fun pins s σ H Q I q => h.run pins s σ H Q I (i _ _ _ q)⟩
theorem PT.imp {X : Cx} {e : Expr} {t t' : TT} (h : PT X e t) (i : ∀ σ H Q, t' σ H Q → t σ H Q) : PT X e t' := ⟨fun pins s σ H Q I q => h.run pins s σ H Q I (i _ _ _ q)⟩
theorem PW.imp {X : Cx} {e : Expr} {t t' : TT} (h : PW X e t) (i : ∀ σ H Q, t' σ H Q → t σ H Q) : PW X e t' := ⟨fun wh pins s σ H Q I q => h.run wh pins s σ H Q I (i _ _ _ q)⟩
theorem PA.imp {X : Cx} {e : List Expr} {t t' : TA} (h : PA X e t) (i : ∀ σ H Q, t' σ H Q → t σ H Q) : PA X e t' := ⟨fun pos pins s σ H Q I q => h.run pos pins s σ H Q I (i _ _ _ q)⟩
theorem PS.imp {X : Cx} {e : Stmt} {t t' : TS} (h : PS X e t) (i : ∀ D σ H, t' D σ H → t D σ H) : PS X e t' := ⟨fun pins s σ H D I q => h.run pins s σ H D I (i _ _ _ q)⟩
theorem PSs.imp {X : Cx} {e : List Stmt} {t t' : TS} (h : PSs X e t) (i : ∀ D σ H, t' D σ H → t D σ H) : PSs X e t' := ⟨fun pins s σ H D I q => h.run pins s σ H D I (i _ _ _ q)⟩

section
variable {G : Type} {X : Cx} {S : Gs G} {a b c e : Expr} {es : List Expr} {pos : Pos} {ma mb mc : ME G} {mt mu : MT G} {ml : ML G}

/-! ### bind, in the order of reading -/
@[reducible] def bD {α β G : Type} (x : Option (α × G)) (f : α → G → Option β) : Option β := match x with
  | some (a, g) => f a g
  | none => none
theorem bD_some {α β : Type} {x : Option (α × G)} {f : α → G → Option β} {y : β} (h : bD x f = some y) : ∃ a g, x = some (a, g) ∧ f a g = some y := by
  cases x with
  | none => cases h
  | some p => obtain ⟨a, g⟩ := p; exact ⟨a, g, rfl, h⟩

/-! ### names, constants -/
def mVar (i : Nat) : ME G := fun env g => match env.at i with
  | .sh d => some (d, g)
  | _ => none
def mC (d : D) : ME G := fun _ g => some (d, g)
theorem te_var {i : Nat} {σ : St} {H : Hp} {Q : VK} (h : tE X.K S (mVar i) σ H Q) : tVar i σ H Q := by
  obtain ⟨w, env, g, d, g', R, e, k⟩ := h
  have q := R.slot i
  unfold mVar at e
  cases z : env.at i with
  | sh d' =>
    rw [z] at e q
    obtain ⟨v, e1, r⟩ := q
    cases e
    exact ⟨v, e1, k v w.I H (Same.refl _) R r⟩
  | _ => rw [z] at e; cases e
theorem de_var (i : Nat) {x : Str} (hN : X.N[i]? = some x := by rfl) (hv : Vis X.env.scope x := by first | exact Or.inl rfl | exact Or.inr (Or.inl rfl) | exact Or.inr (Or.inr rfl)) (hd : (x == ("__debug__" : Str)) = false := by decide)
    (hcd : (x == ("__classdict__" : Str)) = false := by decide) : DE X S (.Name x pos) (mVar i) := PE.imp (pe_var hN hv hd hcd) fun _ _ _ h => te_var h
theorem te_c {v : V} {d : D} (r : ∀ H, Rp X.K H v d) {σ : St} {H : Hp} {Q : VK} (h : tE X.K S (mC d) σ H Q) : tC v σ H Q := by
  obtain ⟨w, env, g, d, g', R, e, k⟩ := h
  cases e
  exact k v w.I H (Same.refl _) R (r _)
theorem de_int {i : Int} {j} : DE X S (.Constant (.int i) j pos) (mC (.int i)) := PE.imp pe_int fun _ _ _ h => te_c (fun _ => .int i) h
theorem de_bl {i : Bool} {j} : DE X S (.Constant (.bool i) j pos) (mC (.bool i)) := PE.imp pe_bl fun _ _ _ h => te_c (fun _ => .bl i) h
theorem de_non {j} : DE X S (.Constant .none j pos) (mC .none) := PE.imp pe_non fun _ _ _ h => te_c (fun _ => .non) h
theorem de_str {x : Str} {j} (h : SOk x := by exact ⟨by decide +kernel, by decide +kernel⟩) : DE X S (.Constant (.str x) j pos) (mC (.str x)) := PE.imp pe_str fun _ _ _ q => te_c (fun _ => .str h) q
/-- a module's constant -/
theorem de_glob {x : Str} {v : V} {u : Value} {d : D} (hg : Gl X x) (hm : X.mg x = some u) (r : RelV v u) (hd : ∀ H, Rp X.K H v d) (hdb : (x == ("__debug__" : Str)) = false := by decide) : DE X S (.Name x pos) (mC d) :=
  PE.imp (pe_glob hg hm r hdb) fun _ _ _ h => te_c hd h

/-! ### operations by values -/
def OpD (K : PySem.W.Frag) (r : R2) (f : D → D → Option D) : Prop := ∀ {I H : Hp} {x y : V} {d e z : D}, Same I H → Rp K I x d → Rp K I y e → f d e = some z →
  ∀ {Q : VK}, (∀ v I' H', Pst I H I' H' → Rp K I' v z → Q v H') → r x y H Q
def UnD (K : PySem.W.Frag) (r : V → Hp → VK → Prop) (f : D → Option D) : Prop := ∀ {I H : Hp} {x : V} {d z : D}, Same I H → Rp K I x d → f d = some z →
  ∀ {Q : VK}, (∀ v I' H', Pst I H I' H' → Rp K I' v z → Q v H') → r x H Q
def CallD (K : PySem.W.Frag) (r : List V → Hp → VK → Prop) (f : List D → Option D) : Prop := ∀ {I H : Hp} {xs : List V} {ds : List D} {z : D}, Same I H → RpA K I xs ds → f ds = some z →
  ∀ {Q : VK}, (∀ v I' H', Pst I H I' H' → Rp K I' v z → Q v H') → r xs H Q
/-- .. a new list -/
def CallF (K : PySem.W.Frag) (r : List V → Hp → VK → Prop) (f : List D → Option (List D)) : Prop := ∀ {I H : Hp} {xs : List V} {ds zs : List D}, Same I H → RpA K I xs ds → f ds = some zs →
  ∀ {Q : VK}, (∀ p vs H', H p = none → Same H H' → H' p = some (.lst vs) → RpA K I vs zs → zs.length ≤ sizeLine → Q (.ref p) H') → r xs H Q
theorem OpD.or {K : PySem.W.Frag} {r r' : R2} {f f' : D → D → Option D} (h : OpD K r f) (h' : OpD K r' f') : OpD K (fun x y H Q => r x y H Q ∨ r' x y H Q) (fun d e => (f d e).orElse fun _ => f' d e) := by
  intro I H x y d e z s p q hz Q k
  have hz : ((f d e).orElse fun _ => f' d e) = some z := hz
  cases hf : f d e with
  | some u => rw [hf] at hz; cases hz; exact .inl (h s p q hf k)
  | none => rw [hf] at hz; exact .inr (h' s p q hz k)
theorem CallD.or {K : PySem.W.Frag} {r r' : List V → Hp → VK → Prop} {f f' : List D → Option D} (h : CallD K r f) (h' : CallD K r' f') : CallD K (fun x H Q => r x H Q ∨ r' x H Q) (fun d => (f d).orElse fun _ => f' d) := by
  intro I H x d z s p hz Q k
  have hz : ((f d).orElse fun _ => f' d) = some z := hz
  cases hf : f d with
  | some u => rw [hf] at hz; cases hz; exact .inl (h s p hf k)
  | none => rw [hf] at hz; exact .inr (h' s p hz k)

def mOp (f : D → D → Option D) (ma mb : ME G) : ME G := fun env g => bD (ma env g) fun x g1 => bD (mb env g1) fun y g2 => (f x y).map (·, g2)
def mUn (f : D → Option D) (ma : ME G) : ME G := fun env g => bD (ma env g) fun x g1 => (f x).map (·, g1)
def mCall (f : List D → Option D) (ml : ML G) : ME G := fun env g => bD (ml env g) fun xs g1 => (f xs).map (·, g1)
def mCallF (f : List D → Option (List D)) (ml : ML G) : ML G := fun env g => bD (ml env g) fun xs g1 => (f xs).map (·, g1)
theorem map_some {α β : Type} {x : Option α} {g g' : β} {z : α} (h : x.map (·, g) = some (z, g')) : x = some z ∧ g' = g := by
  cases x with
  | none => cases h
  | some y => cases h; exact ⟨rfl, rfl⟩
theorem te_op {r : R2} {f : D → D → Option D} (hf : OpD X.K r f) {σ : St} {H : Hp} {Q : VK} (h : tE X.K S (mOp f ma mb) σ H Q) : tOp r (tE X.K S ma) (tE X.K S mb) σ H Q := by
  obtain ⟨w, env, g, d, g', R, e, k⟩ := h
  obtain ⟨x, g1, e1, e⟩ := bD_some e
  obtain ⟨y, g2, e2, e⟩ := bD_some e
  obtain ⟨e3, rfl⟩ := map_some e
  refine ⟨w, env, g, x, g1, R, e1, fun v I1 H1 s1 R1 p1 => ⟨w.im I1, env, g1, y, g', R1, e2, fun u I2 H2 s2 R2 p2 => ?_⟩⟩
  exact hf R2.eI (p1.mono s2) p2 e3 fun v3 I3 H3 ps p3 => k v3 I3 H3 (s1.trans (s2.trans ps.eI)) (R2.pst ps) p3
theorem de_op {op : Operator} {r : R2} {f : D → D → Option D} (ho : OpR X (binaryOp op) r) (hf : OpD X.K r f) (ha : DE X S a ma) (hb : DE X S b mb) : DE X S (.BinOp a op b pos) (mOp f ma mb) :=
  PE.imp (pe_op ho ha hb) fun _ _ _ h => te_op hf h
theorem de_cmp {op : CmpOp} {r : R2} {f : D → D → Option D} (ho : OpR X (compareOp op) r) (hf : OpD X.K r f) (ha : DE X S a ma) (hb : DE X S b mb) (hm : behindInMarks op b = false) : DE X S (.Compare a [op] [b] pos) (mOp f ma mb) :=
  PE.imp (pe_cmpR ho ha hb hm) fun _ _ _ h => te_op hf h
theorem te_un {r : V → Hp → VK → Prop} {f : D → Option D} (hf : UnD X.K r f) {σ : St} {H : Hp} {Q : VK} (h : tE X.K S (mUn f ma) σ H Q) : tUn r (tE X.K S ma) σ H Q := by
  obtain ⟨w, env, g, d, g', R, e, k⟩ := h
  obtain ⟨x, g1, e1, e⟩ := bD_some e
  obtain ⟨e3, rfl⟩ := map_some e
  exact ⟨w, env, g, x, g', R, e1, fun v I1 H1 s1 R1 p1 => hf R1.eI p1 e3 fun v3 I3 H3 ps p3 => k v3 I3 H3 (s1.trans ps.eI) (R1.pst ps) p3⟩
theorem de_un {op : UnaryOp} {r : V → Hp → VK → Prop} {f : D → Option D} (ho : UnR X (unaryOp op) r) (hf : UnD X.K r f) (ha : DE X S a ma) : DE X S (.UnaryOp op a pos) (mUn f ma) :=
  PE.imp (pe_un ho ha) fun _ _ _ h => te_un hf h

/-! ### arguments -/
def mNil : ML G := fun _ g => some ([], g)
def mCons (ma : ME G) (ml : ML G) : ML G := fun env g => bD (ma env g) fun x g1 => bD (ml env g1) fun xs g2 => some (x :: xs, g2)
theorem da_nil : DA X S [] mNil := PA.imp pa_nil fun _ H _ ⟨w, _, _, _, _, R, e, k⟩ => by cases e; exact k [] w.I H (Same.refl _) R .nil
theorem da_cons (ha : DE X S e ma) (hr : DA X S es ml) (hs : starEach (e :: es) X.env = (false, eval e X.env) :: starEach es X.env := by rfl) : DA X S (e :: es) (mCons ma ml) := PA.imp (pa_cons ha hr hs) fun σ H Q h => by
  obtain ⟨w, env, g, d, g', R, e, k⟩ := h
  obtain ⟨x, g1, e1, e⟩ := bD_some e
  obtain ⟨y, g2, e2, e⟩ := bD_some e
  cases e
  exact ⟨w, env, g, x, g1, R, e1, fun v I1 H1 s1 R1 p1 => ⟨w.im I1, env, g1, y, g', R1, e2, fun vs I2 H2 s2 R2 p2 => k (v :: vs) I2 H2 (s1.trans s2) R2 (.cons (p1.mono s2) p2)⟩⟩
theorem te_call {r : List V → Hp → VK → Prop} {f : List D → Option D} (hf : CallD X.K r f) {σ : St} {H : Hp} {Q : VK} (h : tE X.K S (mCall f ml) σ H Q) : tCB r (tA X.K S ml) σ H Q := by
  obtain ⟨w, env, g, d, g', R, e, k⟩ := h
  obtain ⟨x, g1, e1, e⟩ := bD_some e
  obtain ⟨e3, rfl⟩ := map_some e
  exact ⟨w, env, g, x, g', R, e1, fun vs I1 H1 s1 R1 p1 => hf R1.eI p1 e3 fun v3 I3 H3 ps p3 => k v3 I3 H3 (s1.trans ps.eI) (R1.pst ps) p3⟩
theorem de_callB {x : Str} {id : String} {r : List V → Hp → VK → Prop} {f : List D → Option D} {p : Pos} (hc : CallR X (.builtin id) r) (hf : CallD X.K r f) (hg : Gl X x) (hm : X.mg x = none) (hv : bootBuiltins x = some (.builtin id)) (ha : DA X S (e :: es) ml)
    (hn : x ≠ "__name__" := by decide) (hdb : (x == ("__debug__" : Str)) = false := by decide)
    (he : starEach (e :: es) X.env = (false, eval e X.env) :: starEach es X.env := by rfl) (hpl : (backTo pos (starEach es X.env)).any (·.1) = false := by rfl) : DE X S (.Call (.Name x p) (e :: es) [] pos) (mCall f ml) :=
  PE.imp (pe_callB hc hg hm hv ha hn hdb he hpl) fun _ _ _ h => te_call hf h
theorem de_callTy {x : Str} {T : String} {r : List V → Hp → VK → Prop} {f : List D → Option D} {p : Pos} (hc : CallR X (.type T) r) (hf : CallD X.K r f) (hg : Gl X x) (hm : X.mg x = none) (hv : bootBuiltins x = some (.type T)) (ha : DA X S (e :: es) ml)
    (hn : x ≠ "__name__" := by decide) (hdb : (x == ("__debug__" : Str)) = false := by decide)
    (he : starEach (e :: es) X.env = (false, eval e X.env) :: starEach es X.env := by rfl) (hpl : (backTo pos (starEach es X.env)).any (·.1) = false := by rfl) : DE X S (.Call (.Name x p) (e :: es) [] pos) (mCall f ml) :=
  PE.imp (pe_callTy hc hg hm hv ha hn hdb he hpl) fun _ _ _ h => te_call hf h
/-- behind a fresh address nothing that is known has changed -/
theorem Rel.fresh {K : PySem.W.Frag} {w : Wd} {env : Env} {g : G} {σ : St} {H H' : Hp} {p : Addr} (R : Rel K S w env g σ H) (s : Same H H') : Rel K S w env g σ H' :=
  R.pst (I' := w.I) ⟨Same.refl _, s, R.eI.trans s, fun _ _ => rfl⟩
theorem tf_call {r : List V → Hp → VK → Prop} {f : List D → Option (List D)} (hf : CallF X.K r f) {σ : St} {H : Hp} {Q : VK} (h : tF X.K S (mCallF f ml) σ H Q) : tCB r (tA X.K S ml) σ H Q := by
  obtain ⟨w, env, g, d, g', R, e, k⟩ := h
  obtain ⟨x, g1, e1, e⟩ := bD_some e
  obtain ⟨e3, rfl⟩ := map_some e
  exact ⟨w, env, g, x, g', R, e1, fun vs I1 H1 s1 R1 p1 => hf R1.eI p1 e3 fun p us H3 h0 sm hp ra z => k p us I1 H3 s1 (Rel.fresh (p := p) R1 sm) (R1.nobS h0 sm) hp ra z⟩
theorem df_callB {x : Str} {id : String} {r : List V → Hp → VK → Prop} {f : List D → Option (List D)} {p : Pos} (hc : CallR X (.builtin id) r) (hf : CallF X.K r f) (hg : Gl X x) (hm : X.mg x = none) (hv : bootBuiltins x = some (.builtin id)) (ha : DA X S (e :: es) ml)
    (hn : x ≠ "__name__" := by decide) (hdb : (x == ("__debug__" : Str)) = false := by decide)
    (he : starEach (e :: es) X.env = (false, eval e X.env) :: starEach es X.env := by rfl) (hpl : (backTo pos (starEach es X.env)).any (·.1) = false := by rfl) : DF X S (.Call (.Name x p) (e :: es) [] pos) (mCallF f ml) :=
  PE.imp (pe_callB hc hg hm hv ha hn hdb he hpl) fun _ _ _ h => tf_call hf h
theorem df_callTy {x : Str} {T : String} {r : List V → Hp → VK → Prop} {f : List D → Option (List D)} {p : Pos} (hc : CallR X (.type T) r) (hf : CallF X.K r f) (hg : Gl X x) (hm : X.mg x = none) (hv : bootBuiltins x = some (.type T)) (ha : DA X S (e :: es) ml)
    (hn : x ≠ "__name__" := by decide) (hdb : (x == ("__debug__" : Str)) = false := by decide)
    (he : starEach (e :: es) X.env = (false, eval e X.env) :: starEach es X.env := by rfl) (hpl : (backTo pos (starEach es X.env)).any (·.1) = false := by rfl) : DF X S (.Call (.Name x p) (e :: es) [] pos) (mCallF f ml) :=
  PE.imp (pe_callTy hc hg hm hv ha hn hdb he hpl) fun _ _ _ h => tf_call hf h

/-! ### a new list as data -/
def mL (ml : ML G) : ME G := fun env g => bD (ml env g) fun ds g1 => some (.list ds, g1)
theorem te_fresh {σ : St} {H : Hp} {Q : VK} (h : tE X.K S (mL ml) σ H Q) : tF X.K S ml σ H Q := by
  obtain ⟨w, env, g, d, g', R, e, k⟩ := h
  obtain ⟨ds, g1, e1, e⟩ := bD_some e
  cases e
  exact ⟨w, env, g, ds, g', R, e1, fun p vs I' H' s' R' n hp ra z => k (.ref p) _ H' (s'.trans (same_new n.i)) (R'.freeze n hp) (.lst upd_same (ra.mono (same_new n.i)) z)⟩
theorem de_fresh (h : DF X S e ml) : DE X S e (mL ml) := PE.imp h fun _ _ _ q => te_fresh q

/-! ### displays -/
def mTup (ml : ML G) : ME G := fun env g => bD (ml env g) fun ds g1 => if ds.length ≤ sizeLine then some (.tuple ds, g1) else none
def mLst (ml : ML G) : ML G := fun env g => bD (ml env g) fun ds g1 => if ds.length ≤ sizeLine then some (ds, g1) else none
theorem de_tup {x1} (h : DA X S es ml) : DE X S (.Tuple es x1 pos) (mTup ml) := PE.imp (pe_tup h) fun σ H Q q => by
  obtain ⟨w, env, g, d, g', R, e, k⟩ := q
  obtain ⟨ds, g1, e1, e⟩ := bD_some e
  split at e
  · rename_i hz
    cases e
    refine ⟨w, env, g, ds, g', R, e1, fun vs I' H' s' R' ra => ⟨by rw [ra.len]; exact hz, fun p hp => ?_⟩⟩
    have ps := Pst.new (p := p) (o := .tup vs) R'.eI hp
    exact k (.ref p) _ _ (s'.trans ps.eI) (R'.pst ps) (.tup (SqT.of upd_same) (ra.mono ps.eI) hz)
  · cases e
theorem df_lst (h : DA X S es ml) : DF X S (.List es pos) (mLst ml) := PE.imp (pe_lst h) fun σ H Q q => by
  obtain ⟨w, env, g, d, g', R, e, k⟩ := q
  obtain ⟨ds, g1, e1, e⟩ := bD_some e
  split at e
  · rename_i hz
    cases e
    refine ⟨w, env, g, d, g', R, e1, fun vs I' H' s' R' ra => ⟨by rw [ra.len]; exact hz, fun p hp => ?_⟩⟩
    exact k p vs I' _ s' (R'.alloc hp) (R'.nob hp) upd_same ra hz
  · cases e

/-! ### subscripts, slices -/
def dIx : D → D → Option D
  | .list ds, .int i => atI ds i
  | .tuple ds, .int i => atI ds i
  | .str x, .int i => (atI x.cps.toList i).map fun c => .str ⟨#[c]⟩
  | _, _ => none
theorem atI_rp {K : PySem.W.Frag} {I : Hp} {vs : List V} {ds : List D} {i : Int} {d : D} (ra : RpA K I vs ds) (h : atI ds i = some d) : ∃ v, atI vs i = some v ∧ Rp K I v d := by
  unfold atI at h ⊢
  rw [ra.len]
  cases e : ixN ds.length i with
  | none => rw [e] at h; cases h
  | some j => rw [e] at h; exact ra.get h
theorem sok_char {x : Str} (h : SOk x) {c : Nat} (hc : c ∈ x.cps.toList) : SOk ⟨#[c]⟩ := by
  refine ⟨by show 1 ≤ sizeLine; decide, ?_⟩
  have h2 := h.2
  simp only [PyData.canLay0] at h2 ⊢
  unfold PyData.strOk at h2 ⊢
  rw [Array.all_eq_true_iff_forall_mem] at h2 ⊢
  intro b hb
  have e : b = c := by simpa using hb
  rw [e]
  exact h2 c (by simpa using hc)
theorem atI_mem {α : Type} {xs : List α} {i : Int} {v : α} (h : atI xs i = some v) : v ∈ xs := by
  unfold atI at h
  cases e : ixN xs.length i with
  | none => rw [e] at h; cases h
  | some j => rw [e] at h; exact List.mem_of_getElem? h
theorem od_ix {K : PySem.W.Frag} : OpD K (rIx K) dIx := by
  intro I H x y d e z s p q hz Q k
  cases p with
  | lst hp ra hl =>
    cases q with
    | int i =>
      obtain ⟨v, e1, r⟩ := atI_rp ra hz
      exact .inl ⟨_, _, i, v, rfl, rfl, SqL.of (s _ _ hp), e1, k v I H (Pst.refl s) r⟩
    | _ => cases hz
  | tup hp ra hl =>
    cases q with
    | int i =>
      obtain ⟨v, e1, r⟩ := atI_rp ra hz
      exact .inr (.inl ⟨_, _, i, v, rfl, rfl, same_t s hp, e1, k v I H (Pst.refl s) r⟩)
    | _ => cases hz
  | str hx =>
    cases q with
    | int i =>
      have hz : (atI _ i).map _ = some z := hz
      obtain ⟨c, e1, rfl⟩ := Option.map_eq_some_iff.mp hz
      exact .inr (.inr ⟨_, i, c, rfl, rfl, hx.1, e1, k _ I H (Pst.refl s) (.str (sok_char hx (atI_mem e1)))⟩)
    | _ => cases hz
  | _ => cases hz
theorem de_ix (ha : DE X S a ma) (hb : DE X S b mb) (hs : PlainIx b := by exact fun _ _ => rfl) : DE X S (.Subscript a b pos) (mOp dIx ma mb) := PE.imp (pe_ix ix_seq ha hb hs) fun _ _ _ h => te_op od_ix h

abbrev MO (G : Type) := Env → G → Option (Option Int × G)
def tO {G : Type} (K : PySem.W.Frag) (S : Gs G) (m : MO G) : TO := fun σ H Q => ∃ w env g b g', Rel K S w env g σ H ∧ m env g = some (b, g') ∧
  ∀ I' H', Same w.I I' → Rel K S (w.im I') env g' σ H' → Q b H'
structure DO {G : Type} (X : Cx) (S : Gs G) (e : Option Expr) (m : MO G) : Prop where
  po : PO X e (tO X.K S m)
def mNo : MO G := fun _ g => some (none, g)
def mPart (ma : ME G) : MO G := fun env g => bD (ma env g) fun x g1 => match x with
  | .int i => some (some i, g1)
  | _ => none
theorem do_none : DO X S none mNo := ⟨⟨fun pins s σ H Q I h => (po_none (X := X)).run pins s σ H Q I (by
  obtain ⟨w, env, g, d, g', R, e, k⟩ := h
  cases e
  exact k w.I H (Same.refl _) R)⟩⟩
theorem do_some (h : DE X S e ma) : DO X S (some e) (mPart ma) := ⟨⟨fun pins s σ H Q I q => (po_some h).run pins s σ H Q I (by
  obtain ⟨w, env, g, d, g', R, e, k⟩ := q
  obtain ⟨x, g1, e1, e⟩ := bD_some e
  cases x with
  | int i =>
    cases e
    exact ⟨w, env, g, _, g', R, e1, fun v I' H' s' R' p => by cases p; exact ⟨i, rfl, k I' H' s' R'⟩⟩
  | _ => cases e)⟩⟩
def cut {α : Type} (xs : List α) (lo hi : Option Int) : List α := (xs.drop (HT.sIx xs.length 0 lo)).take (HT.sIx xs.length xs.length hi - HT.sIx xs.length 0 lo)
theorem cut_rp {K : PySem.W.Frag} {I : Hp} {vs : List V} {ds : List D} (ra : RpA K I vs ds) (lo hi : Option Int) : RpA K I (cutV vs lo hi) (cut ds lo hi) := by
  unfold cutV cut
  rw [ra.len]
  exact (ra.drop _).take _
theorem cut_le {α : Type} (xs : List α) (lo hi : Option Int) : (cut xs lo hi).length ≤ xs.length := by
  unfold cut
  rw [List.length_take, List.length_drop]
  omega
/-- a list's slice -/
def mSlL (ma : ME G) (lo hi : MO G) : ML G := fun env g => bD (ma env g) fun x g1 => bD (lo env g1) fun l g2 => bD (hi env g2) fun h g3 => match x with
  | .list ds => some (cut ds l h, g3)
  | _ => none
theorem df_slice {lo hi : Option Expr} {ml mh : MO G} {p2 : Pos} (ha : DE X S a ma) (hl : DO X S lo ml) (hh : DO X S hi mh) : DF X S (.Subscript a (.Slice lo hi none p2) pos) (mSlL ma ml mh) := PE.imp (pe_slice sl_list ha hl.po hh.po) fun σ H Q q => by
  obtain ⟨w, env, g, d, g', R, e, k⟩ := q
  obtain ⟨x, g1, e1, e⟩ := bD_some e
  obtain ⟨l, g2, e2, e⟩ := bD_some e
  obtain ⟨h, g3, e3, e⟩ := bD_some e
  cases x with
  | list ds =>
    cases e
    refine ⟨w, env, g, _, g1, R, e1, fun v I1 H1 s1 R1 p1 => ⟨w.im I1, env, g1, l, g2, R1, e2, fun I2 H2 s2 R2 => ⟨w.im I2, env, g2, h, g', R2, e3, fun I3 H3 s3 R3 => ?_⟩⟩⟩
    cases p1 with
    | lst hp ra hz =>
      refine ⟨_, _, rfl, SqL.of (R3.eI _ _ (s3 _ _ (s2 _ _ hp))), fun p h0 => ?_⟩
      exact k p _ I3 _ (s1.trans (s2.trans s3)) (R3.alloc h0) (R3.nob h0) upd_same (cut_rp (ra.mono (s2.trans s3)) l h) (Nat.le_trans (cut_le ds l h) hz)
  | _ => cases e
end
end Pd

/-! Pd: tests, calls of defs, statements, loops, comprehensions. -/
namespace Pd
open PySem PySem.Spec L2
section
variable {G : Type} {X : Cx} {S : Gs G} {a b c e : Expr} {es rest : List Expr} {pos : Pos} {ma mb mc : ME G} {mt mu : MT G} {ml : ML G}

/-! ### tests -/
def asB : D → Option Bool
  | .bool b => some b
  | _ => none
def mOpT (f : D → D → Option D) (ma mb : ME G) : MT G := fun env g => bD (ma env g) fun x g1 => bD (mb env g1) fun y g2 => ((f x y).bind asB).map (·, g2)
theorem asB_some {d : Option D} {b : Bool} (h : d.bind asB = some b) : d = some (.bool b) := by
  cases d with
  | none => cases h
  | some x => cases x with
    | bool c => cases h; rfl
    | _ => cases h
theorem dt_cmp {op : CmpOp} {r : R2} {f : D → D → Option D} (ho : OpR X (compareOp op) r) (hf : OpD X.K r f) (ha : DE X S a ma) (hb : DE X S b mb) (hm : behindInMarks op b = false) : DT X S (.Compare a [op] [b] pos) (mOpT f ma mb) :=
  PT.imp (pt_cmpR ho ha hb hm) fun σ H Q h => by
    obtain ⟨w, env, g, d, g', R, e, k⟩ := h
    obtain ⟨x, g1, e1, e⟩ := bD_some e
    obtain ⟨y, g2, e2, e⟩ := bD_some e
    obtain ⟨e3, rfl⟩ := map_some e
    have e4 := asB_some e3
    refine ⟨w, env, g, x, g1, R, e1, fun v I1 H1 s1 R1 p1 => ⟨w.im I1, env, g1, y, g', R1, e2, fun u I2 H2 s2 R2 p2 => ?_⟩⟩
    exact hf R2.eI (p1.mono s2) p2 e4 fun v3 I3 H3 ps p3 => by cases p3; exact ⟨d, rfl, k I3 H3 (s1.trans (s2.trans ps.eI)) (R2.pst ps)⟩
def dTru : D → Option Bool
  | .none => some false
  | .bool b => some b
  | .int i => some (i != 0)
  | .str x => some ((x.length : Int) != 0)
  | .list ds => some (!ds.isEmpty)
  | .tuple ds => some (!ds.isEmpty)
  | .dict _ => none
def mTru (ma : ME G) : MT G := fun env g => bD (ma env g) fun x g1 => (dTru x).map (·, g1)
theorem rpa_empty {K : PySem.W.Frag} {I : Hp} {vs : List V} {ds : List D} (h : RpA K I vs ds) : vs.isEmpty = ds.isEmpty := by cases h <;> rfl
theorem dt_tru (ha : DE X S a ma) (he : ∀ whole, isTrue a X.env whole = (do let v ← whole; standAt a.pos; holding [v] (truthy v)) := by intro _; rfl) : DT X S a (mTru ma) := PT.imp (pt_truth ha he) fun σ H Q h => by
  obtain ⟨w, env, g, d, g', R, e, k⟩ := h
  obtain ⟨x, g1, e1, e⟩ := bD_some e
  obtain ⟨e3, rfl⟩ := map_some e
  refine ⟨w, env, g, x, g', R, e1, fun v I1 H1 s1 R1 p1 => ⟨d, ?_, k I1 H1 s1 R1⟩⟩
  cases p1 with
  | non => cases e3; rfl
  | bl b => cases e3; rfl
  | int i => cases e3; rfl
  | str hx => cases e3; exact ⟨hx.1, rfl⟩
  | lst hp ra hz => cases e3; exact .inl ⟨_, SqL.of (R1.eI _ _ hp), by rw [rpa_empty ra]⟩
  | tup hp ra hz => cases e3; exact .inr (.inl ⟨_, same_t R1.eI hp, by rw [rpa_empty ra]⟩)
def mNot (mt : MT G) : MT G := fun env g => bD (mt env g) fun b g1 => some (!b, g1)
theorem dt_not (h : DT X S a mt) : DT X S (.UnaryOp .Not a pos) (mNot mt) := PT.imp (pt_not h) fun σ H Q q => by
  obtain ⟨w, env, g, d, g', R, e, k⟩ := q
  obtain ⟨x, g1, e1, e⟩ := bD_some e
  cases e
  exact ⟨w, env, g, x, g', R, e1, fun I1 H1 s1 R1 => k I1 H1 s1 R1⟩
def mAnd (mt mu : MT G) : MT G := fun env g => bD (mt env g) fun b g1 => if b = true then mu env g1 else some (false, g1)
def mOr (mt mu : MT G) : MT G := fun env g => bD (mt env g) fun b g1 => if b = true then some (true, g1) else mu env g1
theorem dw_and1 (h : DT X S a mt) : DW X S (.BoolOp .And [a] pos) mt := pw_and1 h
theorem dw_or1 (h : DT X S a mt) : DW X S (.BoolOp .Or [a] pos) mt := pw_or1 h
theorem tt_and {σ : St} {H : Hp} {Q : Bool → Hp → Prop} (q : tT X.K S (mAnd mt mu) σ H Q) : tAnd (tT X.K S mt) (tT X.K S mu) σ H Q := by
  obtain ⟨w, env, g, d, g', R, e, k⟩ := q
  obtain ⟨x, g1, e1, e⟩ := bD_some e
  refine ⟨w, env, g, x, g1, R, e1, fun I1 H1 s1 R1 => ?_⟩
  cases x with
  | true => exact ⟨w.im I1, env, g1, d, g', R1, e, fun I2 H2 s2 R2 => k I2 H2 (s1.trans s2) R2⟩
  | false => cases e; exact k I1 H1 s1 R1
theorem tt_or {σ : St} {H : Hp} {Q : Bool → Hp → Prop} (q : tT X.K S (mOr mt mu) σ H Q) : tOr (tT X.K S mt) (tT X.K S mu) σ H Q := by
  obtain ⟨w, env, g, d, g', R, e, k⟩ := q
  obtain ⟨x, g1, e1, e⟩ := bD_some e
  refine ⟨w, env, g, x, g1, R, e1, fun I1 H1 s1 R1 => ?_⟩
  cases x with
  | false => exact ⟨w.im I1, env, g1, d, g', R1, e, fun I2 H2 s2 R2 => k I2 H2 (s1.trans s2) R2⟩
  | true => cases e; exact k I1 H1 s1 R1
theorem dw_and (ha : DT X S a mt) (hb : DW X S (.BoolOp .And (b :: rest) pos) mu) : DW X S (.BoolOp .And (a :: b :: rest) pos) (mAnd mt mu) := PW.imp (pw_and ha hb) fun _ _ _ => tt_and
theorem dw_or (ha : DT X S a mt) (hb : DW X S (.BoolOp .Or (b :: rest) pos) mu) : DW X S (.BoolOp .Or (a :: b :: rest) pos) (mOr mt mu) := PW.imp (pw_or ha hb) fun _ _ _ => tt_or
/-- .. as values, of bools -/
def mBAnd (ma mb : ME G) : ME G := fun env g => bD (ma env g) fun x g1 => match x with
  | .bool true => mb env g1
  | .bool false => some (.bool false, g1)
  | _ => none
def mBOr (ma mb : ME G) : ME G := fun env g => bD (ma env g) fun x g1 => match x with
  | .bool false => mb env g1
  | .bool true => some (.bool true, g1)
  | _ => none
def mBNot (ma : ME G) : ME G := fun env g => bD (ma env g) fun x g1 => match x with
  | .bool b => some (.bool (!b), g1)
  | _ => none
theorem de_and1 {op} (h : DE X S a ma) : DE X S (.BoolOp op [a] pos) ma := pe_one h
theorem de_and (ha : DE X S a ma) (hb : DE X S (.BoolOp .And (b :: rest) pos) mb) : DE X S (.BoolOp .And (a :: b :: rest) pos) (mBAnd ma mb) := PE.imp (pe_and ha hb) fun σ H Q q => by
  obtain ⟨w, env, g, d, g', R, e, k⟩ := q
  obtain ⟨x, g1, e1, e⟩ := bD_some e
  refine ⟨w, env, g, x, g1, R, e1, fun v I1 H1 s1 R1 p1 => ?_⟩
  cases x with
  | bool x =>
    cases p1
    refine ⟨x, rfl, ?_⟩
    cases x with
    | true => exact ⟨w.im I1, env, g1, d, g', R1, e, fun u I2 H2 s2 R2 p2 => k u I2 H2 (s1.trans s2) R2 p2⟩
    | false => cases e; exact k _ I1 H1 s1 R1 (.bl _)
  | _ => cases e
theorem de_or (ha : DE X S a ma) (hb : DE X S (.BoolOp .Or (b :: rest) pos) mb) : DE X S (.BoolOp .Or (a :: b :: rest) pos) (mBOr ma mb) := PE.imp (pe_or ha hb) fun σ H Q q => by
  obtain ⟨w, env, g, d, g', R, e, k⟩ := q
  obtain ⟨x, g1, e1, e⟩ := bD_some e
  refine ⟨w, env, g, x, g1, R, e1, fun v I1 H1 s1 R1 p1 => ?_⟩
  cases x with
  | bool x =>
    cases p1
    refine ⟨x, rfl, ?_⟩
    cases x with
    | false => exact ⟨w.im I1, env, g1, d, g', R1, e, fun u I2 H2 s2 R2 p2 => k u I2 H2 (s1.trans s2) R2 p2⟩
    | true => cases e; exact k _ I1 H1 s1 R1 (.bl _)
  | _ => cases e
theorem de_not (ha : DE X S a ma) : DE X S (.UnaryOp .Not a pos) (mBNot ma) := PE.imp (pe_not ha) fun σ H Q q => by
  obtain ⟨w, env, g, d, g', R, e, k⟩ := q
  obtain ⟨x, g1, e1, e⟩ := bD_some e
  cases x with
  | bool x =>
    cases e
    exact ⟨w, env, g, _, g', R, e1, fun v I1 H1 s1 R1 p1 => by cases p1; exact ⟨x, rfl, k _ I1 H1 s1 R1 (.bl _)⟩⟩
  | _ => cases e
def mIf {α : Type} (mt : MT G) (ma mb : Env → G → Option (α × G)) : Env → G → Option (α × G) := fun env g => bD (mt env g) fun b g1 => if b = true then ma env g1 else mb env g1
theorem de_if (hc : DT X S c mt) (ha : DE X S a ma) (hb : DE X S b mb) : DE X S (.IfExp c a b pos) (mIf mt ma mb) := PE.imp (pe_ifExp hc ha hb) fun σ H Q q => by
  obtain ⟨w, env, g, d, g', R, e, k⟩ := q
  obtain ⟨x, g1, e1, e⟩ := bD_some e
  refine ⟨w, env, g, x, g1, R, e1, fun I1 H1 s1 R1 => ?_⟩
  cases x with
  | true => exact ⟨w.im I1, env, g1, d, g', R1, e, fun u I2 H2 s2 R2 p2 => k u I2 H2 (s1.trans s2) R2 p2⟩
  | false => exact ⟨w.im I1, env, g1, d, g', R1, e, fun u I2 H2 s2 R2 p2 => k u I2 H2 (s1.trans s2) R2 p2⟩
/-- a < b < c -/
def mChain (f f' : D → D → Option D) (ma mb mc : ME G) : ME G := fun env g => bD (ma env g) fun x g1 => bD (mb env g1) fun y g2 => match f x y with
  | some (.bool true) => bD (mc env g2) fun z g3 => (f' y z).map (·, g3)
  | some (.bool false) => some (.bool false, g2)
  | _ => none
def mChainT (f f' : D → D → Option D) (ma mb mc : ME G) : MT G := fun env g => bD (ma env g) fun x g1 => bD (mb env g1) fun y g2 => match f x y with
  | some (.bool true) => bD (mc env g2) fun z g3 => ((f' y z).bind asB).map (·, g3)
  | some (.bool false) => some (false, g2)
  | _ => none
theorem dt_chain {op op' : CmpOp} {r r' : R2} {f f' : D → D → Option D} (ho : OpR X (compareOp op) r) (hf : OpD X.K r f) (ho' : OpR X (compareOp op') r') (hf' : OpD X.K r' f') (ha : DE X S a ma) (hb : DE X S b mb) (hc : DE X S c mc) (hm : lastMarks [op, op'] [b, c] = false := by rfl) :
    DT X S (.Compare a [op, op'] [b, c] pos) (mChainT f f' ma mb mc) := PT.imp (pt_chain ho ho' ha hb hc hm) fun σ H Q q => by
  obtain ⟨w, env, g, d, g', R, e, k⟩ := q
  obtain ⟨x, g1, e1, e⟩ := bD_some e
  obtain ⟨y, g2, e2, e⟩ := bD_some e
  refine ⟨w, env, g, x, g1, R, e1, fun v I1 H1 s1 R1 p1 => ⟨w.im I1, env, g1, y, g2, R1, e2, fun u I2 H2 s2 R2 p2 => ?_⟩⟩
  cases e3 : f x y with
  | none => rw [e3] at e; cases e
  | some z =>
    rw [e3] at e
    cases z with
    | bool z =>
      refine hf R2.eI (p1.mono s2) p2 e3 fun v3 I3 H3 ps p3 => ?_
      cases p3
      refine ⟨z, rfl, ?_⟩
      cases z with
      | true =>
        obtain ⟨z, g3, e4, e⟩ := bD_some e
        obtain ⟨e5, rfl⟩ := map_some e
        refine ⟨w.im I3, env, g2, z, g', R2.pst ps, e4, fun v4 I4 H4 s4 R4 p4 => ?_⟩
        exact hf' R4.eI ((p2.mono ps.eI).mono s4) p4 (asB_some e5) fun v5 I5 H5 ps5 p5 => by
          cases p5
          exact ⟨d, rfl, k I5 H5 (s1.trans (s2.trans (ps.eI.trans (s4.trans ps5.eI)))) (R4.pst ps5)⟩
      | false => cases e; exact ⟨false, rfl, k I3 H3 (s1.trans (s2.trans ps.eI)) (R2.pst ps)⟩
    | _ => cases e

/-! ### a def of one's own that changes nothing: its promise -/
def spP (K : PySem.W.Frag) (F : List D → Option D) : Sp := fun vs H Q _ => ∃ I ds d, Same I H ∧ RpA K I vs ds ∧ F ds = some d ∧ ∀ v I' H', Pst I H I' H' → Rp K I' v d → Q v H'
theorem de_callP {x : Str} {F : List D → Option D} {p : Pos}
    (run : PE X (.Call (.Name x p) (e :: es) [] pos) (tCall (spP X.K F) [] E0 (tA X.K S ml))) : DE X S (.Call (.Name x p) (e :: es) [] pos) (mCall F ml) := PE.imp run fun σ H Q q => by
  obtain ⟨w, env, g, d, g', R, e, k⟩ := q
  obtain ⟨xs, g1, e1, e⟩ := bD_some e
  obtain ⟨e3, rfl⟩ := map_some e
  refine ⟨w, env, g, xs, g', R, e1, fun vs I1 H1 s1 R1 p1 => ?_⟩
  exact ⟨I1, xs, d, R1.eI, by rw [List.append_nil]; exact p1, e3, fun v I' H' ps r => k v I' H' (s1.trans ps.eI) (R1.pst ps) r⟩
theorem de_callP0 {x : Str} {F : List D → Option D} {p : Pos}
    (run : PE X (.Call (.Name x p) [] [] pos) (tCall (spP X.K F) [] E0 tNil)) : DE X S (.Call (.Name x p) [] [] pos) (mCall F mNil) := PE.imp run fun σ H Q q => by
  obtain ⟨w, env, g, d, g', R, e, k⟩ := q
  have e : (F []).map (·, g) = some (d, g') := e
  obtain ⟨e3, rfl⟩ := map_some e
  exact ⟨w.I, [], d, R.eI, .nil, e3, fun v I' H' ps r => k v I' H' ps.eI (R.pst ps) r⟩
/-- .. whose answer is a new list -/
def spN (K : PySem.W.Frag) (F : List D → Option (List D)) : Sp := fun vs H Q _ => ∃ I ds d, Same I H ∧ RpA K I vs ds ∧ F ds = some d ∧ ∀ p us I' H', Pst I H I' H' → H p = none → I' p = none → H' p = some (.lst us) → RpA K I' us d → d.length ≤ sizeLine → Q (.ref p) H'
theorem df_callN {x : Str} {F : List D → Option (List D)} {p : Pos}
    (run : PE X (.Call (.Name x p) (e :: es) [] pos) (tCall (spN X.K F) [] E0 (tA X.K S ml))) : DF X S (.Call (.Name x p) (e :: es) [] pos) (mCallF F ml) := PE.imp run fun σ H Q q => by
  obtain ⟨w, env, g, d, g', R, e, k⟩ := q
  obtain ⟨xs, g1, e1, e⟩ := bD_some e
  obtain ⟨e3, rfl⟩ := map_some e
  refine ⟨w, env, g, xs, g', R, e1, fun vs I1 H1 s1 R1 p1 => ?_⟩
  exact ⟨I1, xs, d, R1.eI, by rw [List.append_nil]; exact p1, e3, fun p us I' H' ps h0 hi hp ra z => k p us I' H' (s1.trans ps.eI) (R1.pst ps) (R1.nobP h0 ps hi) hp ra z⟩
theorem df_callN0 {x : Str} {F : List D → Option (List D)} {p : Pos}
    (run : PE X (.Call (.Name x p) [] [] pos) (tCall (spN X.K F) [] E0 tNil)) : DF X S (.Call (.Name x p) [] [] pos) (mCallF F mNil) := PE.imp run fun σ H Q q => by
  obtain ⟨w, env, g, d, g', R, e, k⟩ := q
  have e : (F []).map (·, g) = some (d, g') := e
  obtain ⟨e3, rfl⟩ := map_some e
  exact ⟨w.I, [], d, R.eI, .nil, e3, fun p us I' H' ps h0 hi hp ra z => k p us I' H' ps.eI (R.pst ps) (R.nobP h0 ps hi) hp ra z⟩

/-! ### a def that is handed the ghost state -/
structure Gst {G : Type} (S : Gs G) (I H : Hp) (g : G) (I' H' : Hp) (g' : G) : Prop where
  eI : Same I I'
  eH : ∀ a o, H a = some o → ¬ S.fp g a → H' a = some o
  sub : Same I' H'
  ag : ∀ a, H a ≠ none → I' a = I a
  fp' : ∀ a, S.fp g' a ↔ S.fp g a
  rt : S.root g' = S.root g
  ok : S.ok g' H'
theorem Rel.gst {K : PySem.W.Frag} {w : Wd} {env : Env} {g g' : G} {σ : St} {H H' I' : Hp} (R : Rel K S w env g σ H) (p : Gst S w.I H g I' H' g') : Rel K S (w.im I') env g' σ H' := by
  obtain ⟨s1, s2⟩ := R.keepS (w' := w.im I') (H' := H') p.eI rfl fun i a f => by
    obtain ⟨a1, a2, a3, a4⟩ := (R.slot i).fr f
    refine ⟨?_, (p.ag a a4).trans a1, a2, a3⟩
    cases e : H a with
    | none => exact absurd e a4
    | some o => exact p.eH a o e fun z => a3 ((R.gfp a).mp z)
  exact {
    e0 := fun a o e => p.eH a o (R.e0 a o e) fun z => by
      have := R.f0 a ((R.gfp a).mp z)
      rw [e] at this; cases this
    eI := p.sub
    ag := fun a o e => (p.ag a (by rw [R.e0 a o e]; simp)).trans (R.ag a o e)
    ge := R.ge.trans p.eI
    gfp := fun a => (p.fp' a).trans (R.gfp a)
    grt := p.rt.trans R.grt
    gok := p.ok
    fI := fun a ha => (p.ag a (S.dom R.gok ((R.gfp a).mpr ha))).trans (R.fI a ha)
    f0 := R.f0
    len := R.len
    slot := s1
    dis := s2 }
/-- the arguments of such a def -/
def ArgOk (K : PySem.W.Frag) (I : Hp) (rt : V) (v : V) : SV → Prop
  | .sh d => Rp K I v d
  | .kd d => KdOk K I v d
  | .fz d => FzOk K I v d
  | .fl d => FlOk K I v d
  | .st => v = rt
  | .raw u => v = u
  | _ => False
inductive ArgsOk (K : PySem.W.Frag) (I : Hp) (rt : V) : List V → List SV → Prop
  | nil : ArgsOk K I rt [] []
  | cons {v vs a as} : ArgOk K I rt v a → ArgsOk K I rt vs as → ArgsOk K I rt (v :: vs) (a :: as)
theorem ArgOk.mono {K : PySem.W.Frag} {I I' : Hp} {rt v : V} {a : SV} (e : Same I I') (h : ArgOk K I rt v a) : ArgOk K I' rt v a := by
  cases a with
  | sh d => exact Rp.mono e h
  | kd d => exact KdOk.mono e h
  | fz d => exact FzOk.mono e h
  | fl d => exact FlOk.mono e h
  | _ => exact h
theorem ArgsOk.len {K : PySem.W.Frag} {I : Hp} {rt : V} : ∀ {vs : List V} {as : List SV}, ArgsOk K I rt vs as → vs.length = as.length
  | _, _, .nil => rfl
  | _, _, .cons _ t => by rw [List.length_cons, List.length_cons, ArgsOk.len t]
abbrev MG (G : Type) := Env → G → Option (List SV × G)
def tG {G : Type} (K : PySem.W.Frag) (S : Gs G) (m : MG G) : TA := fun σ H Q => ∃ w env g as g', Rel K S w env g σ H ∧ m env g = some (as, g') ∧
  ∀ vs I' H', Same w.I I' → Rel K S (w.im I') env g' σ H' → ArgsOk K I' w.rt vs as → Q vs H'
abbrev DG {G : Type} (X : Cx) (S : Gs G) (es : List Expr) (m : MG G) : Prop := PA X es (tG X.K S m)
def gNil : MG G := fun _ g => some ([], g)
def gCons (ma : ME G) (ml : MG G) : MG G := fun env g => bD (ma env g) fun x g1 => bD (ml env g1) fun xs g2 => some (.sh x :: xs, g2)
def gConsS (i : Nat) (ml : MG G) : MG G := fun env g => match env.at i with
  | .st => bD (ml env g) fun xs g2 => some (.st :: xs, g2)
  | .raw v => bD (ml env g) fun xs g2 => some (.raw v :: xs, g2)
  | _ => none
theorem dg_nil : DG X S [] gNil := PA.imp pa_nil fun _ H _ ⟨w, _, _, _, _, R, e, k⟩ => by cases e; exact k [] w.I H (Same.refl _) R .nil
theorem dg_cons {mg : MG G} (ha : DE X S e ma) (hr : DG X S es mg) (hs : starEach (e :: es) X.env = (false, eval e X.env) :: starEach es X.env := by rfl) : DG X S (e :: es) (gCons ma mg) := PA.imp (pa_cons ha hr hs) fun σ H Q h => by
  obtain ⟨w, env, g, d, g', R, e, k⟩ := h
  obtain ⟨x, g1, e1, e⟩ := bD_some e
  obtain ⟨y, g2, e2, e⟩ := bD_some e
  cases e
  exact ⟨w, env, g, x, g1, R, e1, fun v I1 H1 s1 R1 p1 => ⟨w.im I1, env, g1, y, g', R1, e2, fun vs I2 H2 s2 R2 p2 => k (v :: vs) I2 H2 (s1.trans s2) R2 (.cons (p1.mono s2) p2)⟩⟩
theorem dg_st {mg : MG G} {i : Nat} {x : Str} {pos' : Pos} (hr : DG X S es mg) (hN : X.N[i]? = some x := by rfl) (hv : Vis X.env.scope x := by first | exact Or.inl rfl | exact Or.inr (Or.inl rfl) | exact Or.inr (Or.inr rfl)) (hd : (x == ("__debug__" : Str)) = false := by decide)
    (hcd : (x == ("__classdict__" : Str)) = false := by decide) (hs : starEach (.Name x pos' :: es) X.env = (false, eval (.Name x pos') X.env) :: starEach es X.env := by rfl) : DG X S (.Name x pos' :: es) (gConsS i mg) := PA.imp (pa_cons (pe_var hN hv hd hcd) hr hs) fun σ H Q h => by
  obtain ⟨w, env, g, d, g', R, e, k⟩ := h
  have q := R.slot i
  unfold gConsS at e
  cases z : env.at i with
  | st =>
    rw [z] at e q
    obtain ⟨y, g2, e2, e⟩ := bD_some e
    cases e
    exact ⟨_, q, w, env, g, y, g', R, e2, fun vs I2 H2 s2 R2 p2 => k _ I2 H2 s2 R2 (.cons rfl p2)⟩
  | raw v =>
    rw [z] at e q
    obtain ⟨y, g2, e2, e⟩ := bD_some e
    cases e
    exact ⟨_, q, w, env, g, y, g', R, e2, fun vs I2 H2 s2 R2 p2 => k _ I2 H2 s2 R2 (.cons rfl p2)⟩
  | _ => rw [z] at e; cases e
def spG {G : Type} (K : PySem.W.Frag) (S : Gs G) (F : List SV → G → Option (D × G)) : Sp := fun vs H Q _ => ∃ I g as d g', Same I H ∧ S.ok g H ∧ (∀ a, S.fp g a → I a = none) ∧ ArgsOk K I (S.root g) vs as ∧ F as g = some (d, g') ∧
  ∀ v I' H', Gst S I H g I' H' g' → Rp K I' v d → Q v H'
def mCallG (F : List SV → G → Option (D × G)) (mg : MG G) : ME G := fun env g => bD (mg env g) fun as g1 => F as g1
theorem de_callG {x : Str} {F : List SV → G → Option (D × G)} {p : Pos} {mg : MG G}
    (run : PE X (.Call (.Name x p) (e :: es) [] pos) (tCall (spG X.K S F) [] E0 (tG X.K S mg))) : DE X S (.Call (.Name x p) (e :: es) [] pos) (mCallG F mg) := PE.imp run fun σ H Q q => by
  obtain ⟨w, env, g, d, g', R, e, k⟩ := q
  obtain ⟨as, g1, e1, e⟩ := bD_some e
  refine ⟨w, env, g, as, g1, R, e1, fun vs I1 H1 s1 R1 p1 => ?_⟩
  refine ⟨I1, g1, as, d, g', R1.eI, R1.gok, fun a ha => R1.fI a ((R1.gfp a).mp ha), ?_, e, fun v I' H' ps r => k v I' H' (s1.trans ps.eI) (R1.gst ps) r⟩
  rw [List.append_nil, R1.grt]
  exact p1
end
end Pd

/-! Pd: statements, loops, comprehensions, defs. -/
namespace Pd
open PySem PySem.Spec L2

/-- how a statement ends: goes on, breaks, continues, returns data, returns a new list -/
inductive Ct where
  | nx | br | co | re (d : D) | rl (ds : List D)
abbrev MS (G : Type) := Env → G → Option (Ct × Env × G)
section
variable {G : Type} {X : Cx} {S : Gs G} {a b c e : Expr} {es rest : List Expr} {pos : Pos} {ma mb mc : ME G} {mt mu : MT G} {ml : ML G} {st : Stmt} {sts body : List Stmt} {m m1 m2 : MS G}
variable {K : PySem.W.Frag} {w : Wd} {env env' : Env} {g g' : G} {σ : St} {H H' I' : Hp}

/-! ### stores to slots -/
theorem at_set (env : Env) (i k : Nat) (sv : SV) : Env.at (env.set i sv) k = if k = i ∧ i < env.length then sv else env.at k := by
  show (env.set i sv).getD k .un = if k = i ∧ i < env.length then sv else env.getD k .un
  rw [List.getD_eq_getElem?_getD, List.getD_eq_getElem?_getD]
  by_cases h : k = i
  · subst h
    by_cases z : k < env.length
    · rw [List.getElem?_set_self z, if_pos ⟨rfl, z⟩]; rfl
    · rw [if_neg (fun q => z q.2), List.set_eq_of_length_le (by omega)]
  · rw [List.getElem?_set_ne (Ne.symm h), if_neg (fun q => h q.1)]
theorem get_set {α : Type} (σ : List (Option α)) (i k : Nat) (v : Option α) : (σ.set i v)[k]? = if k = i ∧ i < σ.length then some v else σ[k]? := by
  by_cases h : k = i
  · subst h
    by_cases z : k < σ.length
    · rw [List.getElem?_set_self z, if_pos ⟨rfl, z⟩]
    · rw [if_neg (fun q => z q.2), List.set_eq_of_length_le (by omega)]
  · rw [List.getElem?_set_ne (Ne.symm h), if_neg (fun q => h q.1)]
/-- a slot of another: the same in both -/
theorem SlotOk.of_eq {σ' : St} {i : Nat} {sv : SV} (e : σ'[i]? = σ[i]?) (h : SlotOk K w σ H i sv) : SlotOk K w σ' H i sv := (h.keep (w' := w) (H' := H) e (Same.refl _) rfl fun a f => by
  obtain ⟨a1, a2, a3, _⟩ := h.fr f
  exact ⟨rfl, a1, a2, a3⟩).1
theorem SlotOk.of_eq' {σ' : St} {i k : Nat} {sv : SV} (e : σ'[k]? = σ[i]?) (h : SlotOk K w σ H i sv) : SlotOk K w σ' H k sv := by
  cases sv with
  | un => trivial
  | sh d => obtain ⟨v, e1, r⟩ := h; exact ⟨v, e.trans e1, r⟩
  | kd d => obtain ⟨v, e1, r⟩ := h; exact ⟨v, e.trans e1, r⟩
  | fz d => obtain ⟨v, e1, r⟩ := h; exact ⟨v, e.trans e1, r⟩
  | fl d => obtain ⟨v, e1, r⟩ := h; exact ⟨v, e.trans e1, r⟩
  | st => exact Eq.trans e h
  | raw v => exact Eq.trans e h
  | ow ds => obtain ⟨p, vs, e1, r⟩ := h; exact ⟨p, vs, e.trans e1, r⟩
  | tr t => obtain ⟨v, e1, r⟩ := h; exact ⟨v, e.trans e1, r⟩
theorem fpt_eq {σ' : St} {i k : Nat} {sv : SV} {a : Addr} (e : σ'[k]? = σ[i]?) (h : fpt H σ' k sv a) : fpt H σ i sv a := by
  cases sv with
  | ow ds => exact e.symm.trans h
  | tr t => obtain ⟨v, e1, f⟩ := h; exact ⟨v, e.symm.trans e1, f⟩
  | _ => exact h
theorem Rel.put {i : Nat} {v : V} {sv : SV} (R : Rel K S w env g σ H) (h1 : ∀ k, (σ.set i (some v))[k]? = some (some v) → k = i → SlotOk K w (σ.set i (some v)) H k sv)
    (h2 : ∀ a, fpt H (σ.set i (some v)) i sv a → ∀ j, ¬ fpt H σ j (env.at j) a) : Rel K S w (env.set i sv) g (σ.set i (some v)) H where
  e0 := R.e0
  eI := R.eI
  ag := R.ag
  ge := R.ge
  gfp := R.gfp
  grt := R.grt
  gok := R.gok
  fI := R.fI
  f0 := R.f0
  len := by rw [List.length_set, List.length_set]; exact R.len
  slot := fun k => by
    rw [at_set]
    by_cases h : k = i ∧ i < env.length
    · rw [if_pos h]
      exact h1 k (by rw [get_set, if_pos ⟨h.1, by rw [R.len]; exact h.2⟩]) h.1
    · rw [if_neg h]
      exact (R.slot k).of_eq (by rw [get_set, if_neg (by rw [R.len]; exact h)])
  dis := fun k j a hkj f1 f2 => by
    rw [at_set] at f1 f2
    by_cases hk : k = i ∧ i < env.length
    · have hj : ¬ (j = i ∧ i < env.length) := fun z => hkj (hk.1.trans z.1.symm)
      rw [if_pos hk] at f1
      rw [if_neg hj] at f2
      rw [hk.1] at f1
      exact h2 a f1 j (fpt_eq (σ := σ) (i := j) (by rw [get_set, if_neg (by rw [R.len]; exact hj)]) f2)
    · rw [if_neg hk] at f1
      have f1 := fpt_eq (σ := σ) (i := k) (by rw [get_set, if_neg (by rw [R.len]; exact hk)]) f1
      by_cases hj : j = i ∧ i < env.length
      · rw [if_pos hj] at f2
        rw [hj.1] at f2
        exact h2 a f2 k f1
      · rw [if_neg hj] at f2
        exact R.dis k j a hkj f1 (fpt_eq (σ := σ) (i := j) (by rw [get_set, if_neg (by rw [R.len]; exact hj)]) f2)
theorem Rel.putD {i : Nat} {v : V} {d : D} (R : Rel K S w env g σ H) (r : Rp K w.I v d) : Rel K S w (env.set i (.sh d)) g (σ.set i (some v)) H :=
  R.put (fun k e _ => ⟨v, e, r⟩) fun a z => z.elim
theorem Rel.putRaw {i : Nat} {v : V} (R : Rel K S w env g σ H) : Rel K S w (env.set i (.raw v)) g (σ.set i (some v)) H :=
  R.put (fun k e _ => e) fun a z => z.elim
theorem Rel.putL {i : Nat} {p : Addr} {vs : List V} {ds : List D} (R : Rel K S w env g σ H) (n : Nob w env σ H p) (hp : H p = some (.lst vs)) (ra : RpA K w.I vs ds) (hz : ds.length ≤ sizeLine) : Rel K S w (env.set i (.ow ds)) g (σ.set i (some (.ref p))) H :=
  R.put (fun k e _ => ⟨p, vs, e, hp, n.i, n.h0, n.f, ra, hz⟩) fun a f j => by
    have f : (σ.set i (some (V.ref p)))[i]? = some (some (.ref a)) := f
    rw [get_set] at f
    split at f
    · cases f; exact n.o j
    · rename_i hi
      have : i < σ.length := Nat.lt_of_not_le fun hle => by rw [List.getElem?_eq_none hle] at f; cases f
      exact absurd ⟨rfl, this⟩ hi
/-- what one slot owns is written: the slot is another -/
theorem Rel.write {j : Nat} {sv : SV} {H' : Hp} (R : Rel K S w env g σ H) (hj : j < env.length) (ch : ∀ a, H' a ≠ H a → H a = none ∨ fpt H σ j (env.at j) a) (e : ∀ a o, H a = some o → H' a ≠ none)
    (ok : SlotOk K w σ H' j sv) (fp : ∀ a, fpt H' σ j sv a → H a = none ∨ fpt H σ j (env.at j) a) : Rel K S w (env.set j sv) g σ H' := by
  have st : ∀ a, H a ≠ none → ¬ fpt H σ j (env.at j) a → H' a = H a := fun a h1 h2 => Classical.byContradiction fun z => (ch a z).elim h1 h2
  have kp : ∀ k, k ≠ j → SlotOk K w σ H' k (env.at k) ∧ ∀ a, fpt H' σ k (env.at k) a ↔ fpt H σ k (env.at k) a := fun k hk => (R.slot k).keep (σ' := σ) (w' := w) (H' := H') rfl (Same.refl _) rfl fun a f => by
    obtain ⟨a1, a2, a3, a4⟩ := (R.slot k).fr f
    exact ⟨st a a4 fun z => R.dis k j a hk f z, a1, a2, a3⟩
  have old : ∀ {X : Hp} (a : Addr) (o : HO), X a = some o → Same X H → (fpt H σ j (env.at j) a → X a = none) → H' a = some o := fun {X} a o q s n => by
    have h : H a = some o := s a o q
    rw [st a (by rw [h]; simp) fun f => by rw [n f] at q; cases q]
    exact h
  exact {
    e0 := fun a o q => old a o q R.e0 fun f => ((R.slot j).fr f).2.1
    eI := fun a o q => old a o q R.eI fun f => ((R.slot j).fr f).1
    ag := R.ag
    ge := R.ge
    gfp := R.gfp
    grt := R.grt
    gok := S.loc (fun a ha => by
      have h := S.dom R.gok ha
      exact st a h fun f => ((R.slot j).fr f).2.2.1 ((R.gfp a).mp ha)) R.gok
    fI := R.fI
    f0 := R.f0
    len := by rw [List.length_set]; exact R.len
    slot := fun k => by
      rw [at_set]
      by_cases h : k = j ∧ j < env.length
      · rw [if_pos h, h.1]; exact ok
      · rw [if_neg h]
        exact (kp k fun z => h ⟨z, hj⟩).1
    dis := fun k l a hkl f1 f2 => by
      rw [at_set] at f1 f2
      by_cases hk : k = j ∧ j < env.length
      · have hl : ¬ (l = j ∧ j < env.length) := fun z => hkl (hk.1.trans z.1.symm)
        have nl : l ≠ j := fun z => hl ⟨z, hj⟩
        rw [if_pos hk, hk.1] at f1
        rw [if_neg hl] at f2
        have f2 := ((kp l nl).2 a).mp f2
        rcases fp a f1 with z | z
        · exact ((R.slot l).fr f2).2.2.2 z
        · exact R.dis l j a nl f2 z
      · have nk : k ≠ j := fun z => hk ⟨z, hj⟩
        rw [if_neg hk] at f1
        have f1 := ((kp k nk).2 a).mp f1
        by_cases hl : l = j ∧ j < env.length
        · rw [if_pos hl, hl.1] at f2
          rcases fp a f2 with z | z
          · exact ((R.slot k).fr f1).2.2.2 z
          · exact R.dis k j a nk f1 z
        · have nl : l ≠ j := fun z => hl ⟨z, hj⟩
          rw [if_neg hl] at f2
          exact R.dis k l a hkl f1 (((kp l nl).2 a).mp f2) }
theorem slot_lt {j : Nat} {v : V} (R : Rel K S w env g σ H) (sj : σ[j]? = some (some v)) : j < env.length := by rw [← R.len]; exact (List.getElem?_eq_some_iff.mp sj).1
/-- a list of one's own is written -/
theorem Rel.setOw {j : Nat} {p : Addr} {vs us : List V} {ds es : List D} (R : Rel K S w env g σ H) (ej : env.at j = .ow ds) (sj : σ[j]? = some (some (.ref p))) (hp : H p = some (.lst vs)) (hi : w.I p = none) (h0 : w.H0 p = none) (hf : ¬ w.fp p)
    (ra : RpA K w.I us es) (hz : es.length ≤ sizeLine) : Rel K S w (env.set j (.ow es)) g σ (upd H p (.lst us)) := by
  have own : fpt H σ j (env.at j) p := by rw [ej]; exact sj
  refine R.write (slot_lt R sj) (fun a z => ?_) (fun a o q z => ?_) ⟨p, us, sj, upd_same, hi, h0, hf, ra, hz⟩ fun a f => ?_
  · by_cases h : a = p
    · exact .inr (h ▸ own)
    · exact absurd (upd_ne h) z
  · by_cases h : a = p
    · rw [h, upd_same] at z; cases z
    · rw [upd_ne h, q] at z; cases z
  · have f : σ[j]? = some (some (.ref a)) := f
    rw [sj] at f; cases f
    exact .inr own
/-- a slot's own list becomes one that stands -/
def Env.frz (env : Env) (j : Nat) : Env := match env.at j with
  | .ow ds => env.set j (.sh (.list ds))
  | _ => env
theorem Rel.forget {i : Nat} (R : Rel K S w env g σ H) : Rel K S w (env.set i .un) g σ H where
  e0 := R.e0
  eI := R.eI
  ag := R.ag
  ge := R.ge
  gfp := R.gfp
  grt := R.grt
  gok := R.gok
  fI := R.fI
  f0 := R.f0
  len := by rw [List.length_set]; exact R.len
  slot := fun k => by
    rw [at_set]
    by_cases h : k = i ∧ i < env.length
    · rw [if_pos h]; trivial
    · rw [if_neg h]; exact R.slot k
  dis := fun k j a hkj f1 f2 => by
    rw [at_set] at f1 f2
    by_cases hk : k = i ∧ i < env.length
    · rw [if_pos hk] at f1; exact f1
    · by_cases hj : j = i ∧ i < env.length
      · rw [if_pos hj] at f2; exact f2
      · rw [if_neg hk] at f1; rw [if_neg hj] at f2
        exact R.dis k j a hkj f1 f2
/-- what a slot owned is nobody's behind it -/
theorem Rel.nobF {j : Nat} {p : Addr} (R : Rel K S w env g σ H) (hj : j < env.length) (f : fpt H σ j (env.at j) p) : Nob w (env.set j .un) σ H p := by
  obtain ⟨a1, a2, a3, _⟩ := (R.slot j).fr f
  refine ⟨a1, a2, a3, fun i q => ?_⟩
  rw [at_set] at q
  by_cases h : i = j ∧ j < env.length
  · rw [if_pos h] at q; exact q
  · rw [if_neg h] at q
    exact R.dis j i p (fun z => h ⟨z.symm, hj⟩) f q
/-- a slot's data is put in where the value stands already -/
theorem Rel.know {j : Nat} {v : V} {sv : SV} (R : Rel K S w env g σ H) (sj : σ[j]? = some (some v)) (ok : SlotOk K w σ H j sv) (nf : ∀ a, ¬ fpt H σ j sv a) : Rel K S w (env.set j sv) g σ H := by
  have e : σ.set j (some v) = σ := by
    apply List.ext_getElem?
    intro k
    rw [get_set]
    split
    · rename_i h; rw [h.1]; exact sj.symm
    · rfl
  have := R.put (i := j) (v := v) (sv := sv) (fun k _ hk => by rw [e, hk]; exact ok) fun a f => by rw [e] at f; exact absurd f (nf a)
  rwa [e] at this
theorem Rel.frz (j : Nat) (R : Rel K S w env g σ H) : ∃ I', Same w.I I' ∧ Rel K S (w.im I') (env.frz j) g σ H := by
  unfold Env.frz
  cases e : env.at j with
  | ow ds =>
    have q := R.slot j
    rw [e] at q
    obtain ⟨p, vs, e1, hp, hi, h0, hf, ra, hz⟩ := q
    have hj := slot_lt R e1
    have n := R.nobF hj (p := p) (by rw [e]; exact e1)
    have R1 := (R.forget (i := j)).freeze n hp
    have R2 := R1.know (j := j) (sv := .sh (.list ds)) e1 ⟨.ref p, e1, .lst upd_same (ra.mono (same_new hi)) hz⟩ fun a f => f
    rw [List.set_set] at R2
    exact ⟨_, same_new hi, R2⟩
  | _ => exact ⟨w.I, Same.refl _, R⟩

/-! ### a statement's reading -/
def Post {G : Type} (K : PySem.W.Frag) (S : Gs G) (w : Wd) (env' : Env) (g' : G) (D : Ends) : Ct → Prop
  | .nx => ∀ σ' I' H', Same w.I I' → Rel K S (w.im I') env' g' σ' H' → D.nx σ' H'
  | .br => ∀ σ' I' H', Same w.I I' → Rel K S (w.im I') env' g' σ' H' → D.bk σ' H'
  | .co => ∀ σ' I' H', Same w.I I' → Rel K S (w.im I') env' g' σ' H' → D.ct σ' H'
  | .re d => ∀ v σ' I' H', Same w.I I' → Rel K S (w.im I') env' g' σ' H' → Rp K I' v d → D.rt v H'
  | .rl ds => ∀ p vs σ' I' H', Same w.I I' → Rel K S (w.im I') env' g' σ' H' → Nob (w.im I') env' σ' H' p → H' p = some (.lst vs) → RpA K I' vs ds → ds.length ≤ sizeLine → D.rt (.ref p) H'
theorem Post.mono {D : Ends} {c : Ct} (s : Same w.I I') (h : Post K S w env' g' D c) : Post K S (w.im I') env' g' D c := by
  cases c with
  | nx => exact fun σ' I2 H2 s2 R => h σ' I2 H2 (s.trans s2) R
  | br => exact fun σ' I2 H2 s2 R => h σ' I2 H2 (s.trans s2) R
  | co => exact fun σ' I2 H2 s2 R => h σ' I2 H2 (s.trans s2) R
  | re d => exact fun v σ' I2 H2 s2 R => h v σ' I2 H2 (s.trans s2) R
  | rl ds => exact fun p vs σ' I2 H2 s2 R => h p vs σ' I2 H2 (s.trans s2) R
def tS {G : Type} (K : PySem.W.Frag) (S : Gs G) (m : MS G) : TS := fun D σ H => ∃ w env g c env' g', Rel K S w env g σ H ∧ m env g = some (c, env', g') ∧ Post K S w env' g' D c
abbrev DS {G : Type} (X : Cx) (S : Gs G) (st : Stmt) (m : MS G) : Prop := PS X st (tS X.K S m)
abbrev DB {G : Type} (X : Cx) (S : Gs G) (st : List Stmt) (m : MS G) : Prop := PSs X st (tS X.K S m)

def mSkip : MS G := fun env g => some (.nx, env, g)
def mSeq (m1 m2 : MS G) : MS G := fun env g => match m1 env g with
  | some (.nx, env1, g1) => m2 env1 g1
  | x => x
theorem db_nil : DB X S [] mSkip := PSs.imp pss_nil fun D σ H ⟨w, env, g, c, env', g', R, e, k⟩ => by
  cases e
  exact k σ w.I H (Same.refl _) R
theorem ts_seq {D : Ends} (h : tS X.K S (mSeq m1 m2) D σ H) : tSeq (tS X.K S m1) (tS X.K S m2) D σ H := by
  obtain ⟨w, env, g, c, env', g', R, e, k⟩ := h
  unfold mSeq at e
  cases e1 : m1 env g with
  | none => rw [e1] at e; cases e
  | some r =>
    obtain ⟨c1, env1, g1⟩ := r
    rw [e1] at e
    refine ⟨w, env, g, c1, env1, g1, R, e1, ?_⟩
    cases c1 with
    | nx => exact fun σ' I' H' s' R' => ⟨w.im I', env1, g1, c, env', g', R', e, k.mono s'⟩
    | _ => cases e; exact k
theorem db_cons (h1 : DS X S st m1) (h2 : DB X S sts m2) : DB X S (st :: sts) (mSeq m1 m2) := PSs.imp (pss_cons h1 h2) fun _ _ _ h => ts_seq h
theorem db_one (h : DS X S st m) : DB X S [st] m := pss_one h
def mBreak : MS G := fun env g => some (.br, env, g)
def mCont : MS G := fun env g => some (.co, env, g)
theorem ds_pass : DS X S (.Pass pos) mSkip := PS.imp ps_pass fun D σ H ⟨w, env, g, c, env', g', R, e, k⟩ => by cases e; exact k σ w.I H (Same.refl _) R
theorem ds_break : DS X S (.Break pos) mBreak := PS.imp ps_break fun D σ H ⟨w, env, g, c, env', g', R, e, k⟩ => by cases e; exact k σ w.I H (Same.refl _) R
theorem ds_continue : DS X S (.Continue pos) mCont := PS.imp ps_continue fun D σ H ⟨w, env, g, c, env', g', R, e, k⟩ => by cases e; exact k σ w.I H (Same.refl _) R
def mDrop (ma : ME G) : MS G := fun env g => bD (ma env g) fun _ g1 => some (.nx, env, g1)
theorem ds_expr (h : DE X S e ma) (hs : swapsWith e none pos.line X.env = pure false := by rfl) : DS X S (.Expr e pos) (mDrop ma) := PS.imp (ps_expr h hs) fun D σ H ⟨w, env, g, c, env', g', R, e, k⟩ => by
  obtain ⟨x, g1, e1, e⟩ := bD_some e
  cases e
  exact ⟨w, env, g, x, g', R, e1, fun v I' H' s' R' _ => k σ I' H' s' R'⟩
def mRet (ma : ME G) : MS G := fun env g => bD (ma env g) fun d g1 => some (.re d, env, g1)
theorem ds_ret (h : DE X S e ma) : DS X S (.Return (some e) pos) (mRet ma) := PS.imp (ps_ret h) fun D σ H ⟨w, env, g, c, env', g', R, e, k⟩ => by
  obtain ⟨x, g1, e1, e⟩ := bD_some e
  cases e
  exact ⟨w, env, g, x, g', R, e1, fun v I' H' s' R' p => k v σ I' H' s' R' p⟩
def mRetN : MS G := fun env g => some (.re .none, env, g)
theorem ds_retN : DS X S (.Return none pos) mRetN := PS.imp ps_retN fun D σ H ⟨w, env, g, c, env', g', R, e, k⟩ => by
  cases e
  exact k .non σ w.I H (Same.refl _) R .non
def mRetF (ml : ML G) : MS G := fun env g => bD (ml env g) fun ds g1 => some (.rl ds, env, g1)
theorem ds_retF (h : DF X S e ml) : DS X S (.Return (some e) pos) (mRetF ml) := PS.imp (ps_ret h) fun D σ H ⟨w, env, g, c, env', g', R, e, k⟩ => by
  obtain ⟨x, g1, e1, e⟩ := bD_some e
  cases e
  exact ⟨w, env, g, x, g', R, e1, fun p vs I' H' s' R' n hp ra hz => k p vs σ I' H' s' R' n hp ra hz⟩
/-- return a list of one's own -/
def mRetOw (j : Nat) : MS G := fun env g => match env.at j with
  | .ow ds => some (.rl ds, env.set j .un, g)
  | .sh d => some (.re d, env, g)
  | _ => none
theorem ds_retOw (j : Nat) {x : Str} {pos' : Pos} (hN : X.N[j]? = some x := by rfl) (hv : Vis X.env.scope x := by first | exact Or.inl rfl | exact Or.inr (Or.inl rfl) | exact Or.inr (Or.inr rfl)) (hd : (x == ("__debug__" : Str)) = false := by decide)
    (hcd : (x == ("__classdict__" : Str)) = false := by decide) : DS X S (.Return (some (.Name x pos')) pos) (mRetOw j) := PS.imp (ps_ret (pe_var hN hv hd hcd)) fun D σ H ⟨w, env, g, c, env', g', R, e, k⟩ => by
  have q := R.slot j
  unfold mRetOw at e
  cases z : env.at j with
  | ow ds =>
    rw [z] at e q
    cases e
    obtain ⟨p, vs, e1, hp, hi, h0, hf, ra, hz⟩ := q
    exact ⟨_, e1, k p vs σ w.I H (Same.refl _) R.forget (R.nobF (slot_lt R e1) (by rw [z]; exact e1)) hp ra hz⟩
  | sh d =>
    rw [z] at e q
    cases e
    obtain ⟨v, e1, r⟩ := q
    exact ⟨v, e1, k v σ w.I H (Same.refl _) R r⟩
  | _ => rw [z] at e; cases e
def mIfS (mt : MT G) (m1 m2 : MS G) : MS G := fun env g => bD (mt env g) fun b g1 => if b = true then m1 env g1 else m2 env g1
theorem ds_if {sts2 : List Stmt} (hc : DT X S c mt) (h1 : DB X S sts m1) (h2 : DB X S sts2 m2) : DS X S (.If c sts sts2 pos) (mIfS mt m1 m2) := PS.imp (ps_if hc h1 h2) fun D σ H ⟨w, env, g, c, env', g', R, e, k⟩ => by
  obtain ⟨x, g1, e1, e⟩ := bD_some e
  refine ⟨w, env, g, x, g1, R, e1, fun I' H' s' R' => ?_⟩
  cases x with
  | true => exact ⟨w.im I', env, g1, c, env', g', R', e, k.mono s'⟩
  | false => exact ⟨w.im I', env, g1, c, env', g', R', e, k.mono s'⟩
/-- a list of one's own is handed out from here on -/
def mFrz (j : Nat) (m : MS G) : MS G := fun env g => m (env.frz j) g
theorem ds_frz (j : Nat) (h : DS X S st m) : DS X S st (mFrz j m) := PS.imp h fun D σ H ⟨w, env, g, c, env', g', R, e, k⟩ => by
  obtain ⟨I', s', R'⟩ := R.frz j
  exact ⟨w.im I', env.frz j, g, c, env', g', R', e, k.mono s'⟩

/-! ### x = e -/
def mSet (i : Nat) (ma : ME G) : MS G := fun env g => bD (ma env g) fun d g1 => some (.nx, env.set i (.sh d), g1)
def mSetF (i : Nat) (ml : ML G) : MS G := fun env g => bD (ml env g) fun ds g1 => some (.nx, env.set i (.ow ds), g1)
theorem ts_set {i : Nat} {D : Ends} (h : tS X.K S (mSet i ma) D σ H) : tAsg (tE X.K S ma) (gName i) D σ H := by
  obtain ⟨w, env, g, c, env', g', R, e, k⟩ := h
  obtain ⟨x, g1, e1, e⟩ := bD_some e
  cases e
  exact ⟨w, env, g, x, g', R, e1, fun v I' H' s' R' p => k _ I' H' s' (R'.putD p)⟩
theorem ts_setF {i : Nat} {D : Ends} (h : tS X.K S (mSetF i ml) D σ H) : tAsg (tF X.K S ml) (gName i) D σ H := by
  obtain ⟨w, env, g, c, env', g', R, e, k⟩ := h
  obtain ⟨x, g1, e1, e⟩ := bD_some e
  cases e
  exact ⟨w, env, g, x, g', R, e1, fun p vs I' H' s' R' n hp ra hz => k _ I' H' s' (R'.putL n hp ra hz)⟩
theorem ds_set {i : Nat} {x : Str} {pos' : Pos} (hN : X.N.Nodup) (hi : X.N[i]? = some x) (hx : Loc X.env.scope x) (he : DE X S e ma) (hs : swapsWith e (some (.Name x pos')) pos.line X.env = pure false := by rfl)
    (hf : X.fn x = true ∨ X.env.scope.names.lookup x = some .local := by first | exact .inl rfl | exact .inr rfl | assumption) : DS X S (.Assign [.Name x pos'] e pos) (mSet i ma) := PS.imp (ps_set hN hi hx he hs hf) fun _ _ _ h => ts_set h
theorem ds_setF {i : Nat} {x : Str} {pos' : Pos} (hN : X.N.Nodup) (hi : X.N[i]? = some x) (hx : Loc X.env.scope x) (he : DF X S e ml) (hs : swapsWith e (some (.Name x pos')) pos.line X.env = pure false := by rfl)
    (hf : X.fn x = true ∨ X.env.scope.names.lookup x = some .local := by first | exact .inl rfl | exact .inr rfl | assumption) : DS X S (.Assign [.Name x pos'] e pos) (mSetF i ml) := PS.imp (ps_set hN hi hx he hs hf) fun _ _ _ h => ts_setF h

/-! ### targets -/
abbrev MTg (G : Type) := D → Env → G → Option (Env × G)
def tTg {G : Type} (K : PySem.W.Frag) (S : Gs G) (idx : List Nat) (b : MTg G) : TG := fun v σ H Q => ∃ w env g d env' g', Rel K S w env g σ H ∧ Rp K w.I v d ∧ b d env g = some (env', g') ∧
  ∀ σ' I' H', Same w.I I' → Rel K S (w.im I') env' g' σ' H' → σ'.length = σ.length → (∀ k, k ∉ idx → σ'[k]? = σ[k]?) → Q σ' H'
structure DTg {G : Type} (X : Cx) (S : Gs G) (tg : Expr) (idx : List Nat) (b : MTg G) : Prop where
  pg : PG X tg (tTg X.K S idx b)
  ok : ∀ d env g env' g', b d env g = some (env', g') → env'.length = env.length ∧ ∀ k, k ∉ idx → env'.at k = env.at k
def bName (i : Nat) : MTg G := fun d env g => some (env.set i (.sh d), g)
theorem PG.imp {tg : Expr} {t t' : TG} (h : PG X tg t) (i : ∀ v σ H Q, t' v σ H Q → t v σ H Q) : PG X tg t' := ⟨fun pins s σ H v u Q I r q => h.run pins s σ H v u Q I r (i _ _ _ _ q)⟩
theorem dg_name {i : Nat} {x : Str} (hN : X.N.Nodup) (hi : X.N[i]? = some x) (hx : Loc X.env.scope x) (hf : X.fn x = true ∨ X.env.scope.names.lookup x = some .local := by first | exact .inl rfl | exact .inr rfl | assumption) : DTg X S (.Name x pos) [i] (bName i) where
  pg := PG.imp (pg_name hN hi hx hf) fun v σ H Q ⟨w, env, g, d, env', g', R, p, e, k⟩ => by
    cases e
    exact k _ w.I _ (Same.refl _) (R.putD p) (by rw [List.length_set]) fun j hj => by rw [get_set, if_neg (fun z => hj (by simp [z.1]))]
  ok := fun d env g env' g' e => by
    cases e
    exact ⟨by rw [List.length_set], fun k hk => by rw [at_set, if_neg (fun z => hk (by simp [z.1]))]⟩
abbrev MTgs (G : Type) := List D → Env → G → Option (Env × G)
def tTgs {G : Type} (K : PySem.W.Frag) (S : Gs G) (idx : List Nat) (b : MTgs G) : TGs := fun vs σ H Q => ∃ w env g ds env' g', Rel K S w env g σ H ∧ RpA K w.I vs ds ∧ b ds env g = some (env', g') ∧
  ∀ σ' I' H', Same w.I I' → Rel K S (w.im I') env' g' σ' H' → σ'.length = σ.length → (∀ k, k ∉ idx → σ'[k]? = σ[k]?) → Q σ' H'
structure DTgs {G : Type} (X : Cx) (S : Gs G) (tgs : List Expr) (idx : List Nat) (b : MTgs G) : Prop where
  pg : PGs X tgs (tTgs X.K S idx b)
  ok : ∀ d env g env' g', b d env g = some (env', g') → env'.length = env.length ∧ ∀ k, k ∉ idx → env'.at k = env.at k
theorem PGs.imp {tg : List Expr} {t t' : TGs} (h : PGs X tg t) (i : ∀ v σ H Q, t' v σ H Q → t v σ H Q) : PGs X tg t' := ⟨fun pins s σ H v u Q I r q => h.run pins s σ H v u Q I r (i _ _ _ _ q)⟩
def bNil : MTgs G := fun ds env g => match ds with
  | [] => some (env, g)
  | _ => none
def bCons (b : MTg G) (bs : MTgs G) : MTgs G := fun ds env g => match ds with
  | d :: r => (b d env g).bind fun q => bs r q.1 q.2
  | _ => none
theorem dgs_nil : DTgs X S [] [] bNil where
  pg := PGs.imp pgs_nil fun v σ H Q ⟨w, env, g, d, env', g', R, p, e, k⟩ => by
    cases p with
    | nil => cases e; exact ⟨rfl, k σ w.I H (Same.refl _) R rfl fun _ _ => rfl⟩
    | cons _ _ => cases e
  ok := fun d env g env' g' e => by
    cases d with
    | nil => cases e; exact ⟨rfl, fun _ _ => rfl⟩
    | cons _ _ => cases e
theorem dgs_cons {i1 i2 : List Nat} {b1 : MTg G} {b2 : MTgs G} (h1 : DTg X S e i1 b1) (h2 : DTgs X S es i2 b2) (hs : (assignEach (e :: es) X.env).map (·.2) = assign e X.env :: (assignEach es X.env).map (·.2) := by rfl) : DTgs X S (e :: es) (i1 ++ i2) (bCons b1 b2) where
  pg := PGs.imp (pgs_cons h1.pg h2.pg hs) fun v σ H Q ⟨w, env, g, d, env', g', R, p, e, k⟩ => by
    cases p with
    | nil => cases e
    | cons p ps =>
      obtain ⟨⟨env1, g1⟩, e1, e⟩ := Option.bind_eq_some_iff.mp e
      refine ⟨_, _, rfl, w, env, g, _, env1, g1, R, p, e1, fun σ1 I1 H1 s1 R1 l1 f1 => ⟨w.im I1, env1, g1, _, env', g', R1, ps.mono s1, e, fun σ2 I2 H2 s2 R2 l2 f2 => k σ2 I2 H2 (s1.trans s2) R2 (l2.trans l1) fun j hj => ?_⟩⟩
      rw [List.mem_append] at hj
      exact (f2 j fun z => hj (.inr z)).trans (f1 j fun z => hj (.inl z))
  ok := fun d env g env' g' e => by
    cases d with
    | nil => cases e
    | cons d ds =>
      obtain ⟨⟨env1, g1⟩, e1, e⟩ := Option.bind_eq_some_iff.mp e
      have h3 := h1.ok _ _ _ _ _ e1
      have h4 := h2.ok _ _ _ _ _ e
      refine ⟨h4.1.trans h3.1, fun k hk => ?_⟩
      rw [List.mem_append] at hk
      exact (h4.2 k fun z => hk (.inr z)).trans (h3.2 k fun z => hk (.inl z))
def bTup (n : Nat) (bs : MTgs G) : MTg G := fun d env g => match d with
  | .tuple ds => if ds.length = n then bs ds env g else none
  | _ => none
theorem dg_tup {k n : Nat} {idx : List Nat} {bs : MTgs G} (hc : X.calm = true) (h : DTgs X S es idx bs) (hn : (assignEach es X.env).length = n := by rfl) (hst : (assignEach es X.env).findIdx? (·.1) = none := by rfl) : DTg X S (.Tuple es k pos) idx (bTup n bs) where
  pg := PG.imp (pg_tup hc h.pg hn hst) fun v σ H Q ⟨w, env, g, d, env', g', R, p, e, k⟩ => by
    cases p with
    | tup hp ra hz =>
      have e : (if _ = n then _ else none) = some (env', g') := e
      split at e
      · rename_i hl
        exact ⟨_, _, rfl, same_t R.eI hp, by rw [ra.len]; exact hl, w, env, g, _, env', g', R, ra, e, k⟩
      · cases e
    | _ => cases e
  ok := fun d env g env' g' e => by
    cases d with
    | tuple ds =>
      have e : (if _ = n then _ else none) = some (env', g') := e
      split at e
      · exact h.ok _ _ _ _ _ e
      · cases e
    | _ => cases e
/-- a, b = c, d of plain names -/
def mPar (i j : Nat) (ml : ML G) : MS G := fun env g => bD (ml env g) fun ds g1 => match ds with
  | [x, y] => some (.nx, (env.set i (.sh x)).set j (.sh y), g1)
  | _ => none
theorem ds_par {i j : Nat} {x y : Str} {a b : Expr} {px py pt : Pos} {kt k2 pt2} (hc : X.calm = true) (hN : X.N.Nodup) (hi : X.N[i]? = some x) (hj : X.N[j]? = some y) (hij : i ≠ j)
    (hx : X.env.scope.names.lookup x = some .local) (hy : X.env.scope.names.lookup y = some .local) (ha : DA X S [a, b] ml)
    (hw : swappedStores [.Tuple [.Name x px, .Name y py] kt pt] (.Tuple [a, b] k2 pt2) X.env = pure (some [x, y]))
    (hs : swapsWithSole [.Tuple [.Name x px, .Name y py] kt pt] (.Tuple [a, b] k2 pt2) pos.line X.env = pure false := by rfl) :
    DS X S (.Assign [.Tuple [.Name x px, .Name y py] kt pt] (.Tuple [a, b] k2 pt2) pos) (mPar i j ml) := PS.imp (ps_par hc hN hi hj hij hx hy ha hw hs) fun D σ H ⟨w, env, g, c, env', g', R, e, k⟩ => by
  obtain ⟨ds, g1, e1, e⟩ := bD_some e
  split at e
  · cases e
    refine ⟨w, env, g, _, g', R, e1, fun vs I' H' s' R' ra => ?_⟩
    cases ra with
    | cons r1 ra =>
      cases ra with
      | cons r2 ra =>
        cases ra
        exact ⟨_, _, rfl, k _ I' H' s' ((R'.putD r1).putD r2)⟩
  · cases e
/-- a, b = e -/
def mAsg (b : MTg G) (ma : ME G) : MS G := fun env g => bD (ma env g) fun d g1 => (b d env g1).map fun q => (.nx, q.1, q.2)
theorem ds_asg {tg : Expr} {idx : List Nat} {bt : MTg G} (he : DE X S e ma) (hg : DTg X S tg idx bt) (hs : swapsWithSole [tg] e pos.line X.env = pure false := by rfl) (hw : swappedStores [tg] e X.env = pure none := by rfl)
    (h1 : (assignEach [tg] X.env).map (·.2) = [assign tg X.env] := by rfl) : DS X S (.Assign [tg] e pos) (mAsg bt ma) := PS.imp (ps_asg he hg.pg hs hw h1) fun D σ H ⟨w, env, g, c, env', g', R, e, k⟩ => by
  obtain ⟨x, g1, e1, e⟩ := bD_some e
  obtain ⟨⟨env1, g2⟩, e2, e⟩ := Option.map_eq_some_iff.mp e
  cases e
  exact ⟨w, env, g, x, g1, R, e1, fun v I' H' s' R' p => ⟨w.im I', env, g1, x, env1, g2, R', p, e2, fun σ' I2 H2 s2 R2 _ _ => k σ' I2 H2 (s'.trans s2) R2⟩⟩
end
end Pd

/-! Pd: what is walked, loops, comprehensions. -/
namespace Pd
open PySem PySem.Spec L2
section
variable {G : Type} {X : Cx} {S : Gs G} {a b c e : Expr} {es rest : List Expr} {pos : Pos} {ma mb mc : ME G} {mt mu : MT G} {ml : ML G} {st : Stmt} {sts body : List Stmt} {m m1 m2 : MS G} {tg iter : Expr}
variable {K : PySem.W.Frag} {w : Wd} {env env' : Env} {g g' : G} {σ : St} {H H' I' : Hp}

/-! ### what is walked: it yields data, whatever stands behind -/
structure ItOk (K : PySem.W.Frag) (J : It) (I : Hp) (ds : List D) : Prop where
  go : ∀ i I' H', i < ds.length → Same I I' → Same I' H' → J.go i H'
  yl : ∀ i I' H' x H'' d, ds[i]? = some d → Same I I' → Same I' H' → J.yld i H' x H'' → ∃ I'', Pst I' H' I'' H'' ∧ Rp K I'' x d
  st : ∀ i I' H', ds.length ≤ i → Same I I' → Same I' H' → J.stop i H'
def tI {G : Type} (K : PySem.W.Frag) (S : Gs G) (m : ML G) : TI := fun σ H R => ∃ w env g ds g', Rel K S w env g σ H ∧ m env g = some (ds, g') ∧
  ∀ J I' H', Same w.I I' → Rel K S (w.im I') env g' σ H' → ItOk K J I' ds → ds.length ≤ sizeLine → R J H'
abbrev DI {G : Type} (X : Cx) (S : Gs G) (tg iter : Expr) (m : ML G) : Prop := PI X tg iter (tI X.K S m)
theorem PI.imp {t t' : TI} (h : PI X tg iter t) (i : ∀ σ H R, t' σ H R → t σ H R) : PI X tg iter t' := ⟨fun pins s σ H R I q => h.run pins s σ H R I (i _ _ _ q)⟩
def mItL (ma : ME G) : ML G := fun env g => bD (ma env g) fun x g1 => match x with
  | .list ds => some (ds, g1)
  | _ => none
def mItT (ma : ME G) : ML G := fun env g => bD (ma env g) fun x g1 => match x with
  | .tuple ds => some (ds, g1)
  | _ => none
def mItS (ma : ME G) : ML G := fun env g => bD (ma env g) fun x g1 => match x with
  | .str z => some (z.cps.toList.map fun c => .str ⟨#[c]⟩, g1)
  | _ => none
theorem lst_seq {K : PySem.W.Frag} {H : Hp} {p : Addr} {vs xs : List V} (hp : H p = some (.lst vs)) (h : Rd H p (.lst xs)) : xs = vs := by
  rcases h with h | ⟨o, h⟩
  · rw [hp] at h; cases h; rfl
  · rw [hp] at h; cases h
theorem itl_ok {p : Addr} {vs : List V} {ds : List D} {I : Hp} (hp : I p = some (.lst vs)) (ra : RpA K I vs ds) : ItOk K (Itl K p) I ds where
  go := fun i I' H' hi s1 s2 => by
    have hv : i < vs.length := by rw [ra.len]; exact hi
    exact ⟨vs, vs[i], SqL.of (s2 _ _ (s1 _ _ hp)), by simp [hv]⟩
  yl := fun i I' H' x H'' d hd s1 s2 y => by
    obtain ⟨e, y⟩ := y
    subst e
    have hx := y vs (SqL.of (s2 _ _ (s1 _ _ hp)))
    obtain ⟨d', e1, r⟩ := ra.getV hx
    rw [hd] at e1
    cases e1
    exact ⟨I', Pst.refl s2, r.mono s1⟩
  st := fun i I' H' hi s1 s2 => ⟨vs, SqL.of (s2 _ _ (s1 _ _ hp)), by rw [ra.len]; exact hi⟩
theorem itt_ok {p : Addr} {vs : List V} {ds : List D} {I : Hp} (hp : SqT K I p vs) (ra : RpA K I vs ds) : ItOk K (Itt K p) I ds where
  go := fun i I' H' hi s1 s2 => by
    have hv : i < vs.length := by rw [ra.len]; exact hi
    exact ⟨vs, vs[i], same_t s2 (same_t s1 hp), by simp [hv]⟩
  yl := fun i I' H' x H'' d hd s1 s2 y => by
    obtain ⟨e, y⟩ := y
    subst e
    have hx := y vs (same_t s2 (same_t s1 hp))
    obtain ⟨d', e1, r⟩ := ra.getV hx
    rw [hd] at e1
    cases e1
    exact ⟨I', Pst.refl s2, r.mono s1⟩
  st := fun i I' H' hi s1 s2 => ⟨vs, same_t s2 (same_t s1 hp), by rw [ra.len]; exact hi⟩
theorem di_list (ha : DE X S a ma) : DI X S tg a (mItL ma) := PI.imp (pi_list ha) fun σ H R ⟨w, env, g, ds, g', Re, e, k⟩ => by
  obtain ⟨x, g1, e1, e⟩ := bD_some e
  cases x with
  | list xs =>
    cases e
    refine ⟨w, env, g, _, g', Re, e1, fun v I' H' s' R' p => ?_⟩
    cases p with
    | lst hp ra hz => exact ⟨_, rfl, ⟨_, SqL.of (R'.eI _ _ hp)⟩, k _ I' H' s' R' (itl_ok hp ra) hz⟩
  | _ => cases e
theorem di_tup (ha : DE X S a ma) : DI X S tg a (mItT ma) := PI.imp (pi_tup ha) fun σ H R ⟨w, env, g, ds, g', Re, e, k⟩ => by
  obtain ⟨x, g1, e1, e⟩ := bD_some e
  cases x with
  | tuple xs =>
    cases e
    refine ⟨w, env, g, _, g', Re, e1, fun v I' H' s' R' p => ?_⟩
    cases p with
    | tup hp ra hz => exact ⟨_, rfl, ⟨_, same_t R'.eI hp⟩, k _ I' H' s' R' (itt_ok hp ra) hz⟩
  | _ => cases e
theorem di_str (ha : DE X S a ma) : DI X S tg a (mItS ma) := PI.imp (pi_str ha) fun σ H R ⟨w, env, g, ds, g', Re, e, k⟩ => by
  obtain ⟨x, g1, e1, e⟩ := bD_some e
  cases x with
  | str z =>
    cases e
    refine ⟨w, env, g, _, g', Re, e1, fun v I' H' s' R' p => ?_⟩
    cases p with
    | str hz =>
      have hl : (z.cps.toList.map fun c => (PyData.str ⟨#[c]⟩ : D)).length = z.cps.size := by rw [List.length_map, Array.length_toList]
      refine ⟨z, rfl, k _ I' H' s' R' ⟨fun i I2 H2 hi _ _ => ?_, fun i I2 H2 x H3 d hd _ s2 y => ?_, fun i I2 H2 hi _ _ => ?_⟩ ?_⟩
      · show i < z.cps.size
        rw [hl] at hi; exact hi
      · obtain ⟨e, c, ec, ex⟩ := y
        subst e; subst ex
        rw [List.getElem?_map, Array.getElem?_toList, ec] at hd
        cases hd
        exact ⟨I2, Pst.refl s2, .str (sok_char hz (by rw [← Array.getElem?_toList] at ec; exact List.mem_of_getElem? ec))⟩
      · show z.cps.size ≤ i
        rw [hl] at hi; exact hi
      · rw [hl]; exact hz.1
  | _ => cases e
/-- lo, lo + 1, .. -/
def rng (lo : Int) (n : Nat) : List D := (List.range n).map fun (k : Nat) => .int (lo + (k : Int))
theorem rng_get {lo : Int} {n i : Nat} (h : i < n) : (rng lo n)[i]? = some (.int (lo + (i : Int))) := by
  unfold rng
  rw [List.getElem?_map, List.getElem?_range h]; rfl
theorem rng_len (lo : Int) (n : Nat) : (rng lo n).length = n := by unfold rng; rw [List.length_map, List.length_range]
theorem itr_ok (lo : Int) (n : Nat) (I : Hp) : ItOk K (Itr lo n) I (rng lo n) where
  go := fun i I' H' hi _ _ => by rw [rng_len] at hi; exact hi
  yl := fun i I' H' x H'' d hd s1 s2 y => by
    obtain ⟨e, ex⟩ := y
    subst e; subst ex
    have hi : i < n := by
      have := (List.getElem?_eq_some_iff.mp hd).1
      rw [rng_len] at this; exact this
    rw [rng_get hi] at hd
    cases hd
    exact ⟨I', Pst.refl s2, .int _⟩
  st := fun i I' H' hi _ _ => by rw [rng_len] at hi; exact hi
def mRng1 (ml : ML G) : ML G := fun env g => bD (ml env g) fun xs g1 => match xs with
  | [.int j] => if -16777216 < j ∧ j < 16777216 then some (rng 0 j.toNat, g1) else none
  | _ => none
def mRng2 (ml : ML G) : ML G := fun env g => bD (ml env g) fun xs g1 => match xs with
  | [.int i, .int j] => if (-16777216 < i ∧ i < 16777216) ∧ -16777216 < j ∧ j < 16777216 ∧ j - i < 16777216 then some (rng i (j - i).toNat, g1) else none
  | _ => none
theorem line_val : sizeLine = 16777216 := sizeLine_eq
theorem di_range1 {p : Pos} (hg : Gl X "range") (hm : X.mg "range" = none) (ha : DA X S [a] ml) (hs : starEach [a] X.env = [(false, eval a X.env)] := by rfl) : DI X S tg (.Call (.Name "range" p) [a] [] pos) (mRng1 ml) := PI.imp (pi_range1 hg hm ha hs) fun σ H R ⟨w, env, g, ds, g', Re, e, k⟩ => by
  obtain ⟨x, g1, e1, e⟩ := bD_some e
  split at e
  · rename_i j
    split at e
    · rename_i hj
      cases e
      refine ⟨w, env, g, _, g', Re, e1, fun vs I' H' s' R' p => ?_⟩
      cases p with
      | cons p q =>
        cases p
        cases q
        exact ⟨j, rfl, by omega, by omega, k _ I' H' s' R' (itr_ok 0 j.toNat I') (by rw [rng_len, line_val]; omega)⟩
    · cases e
  · cases e
theorem di_range2 {p : Pos} (hg : Gl X "range") (hm : X.mg "range" = none) (ha : DA X S [a, b] ml) (hs : starEach [a, b] X.env = [(false, eval a X.env), (false, eval b X.env)] := by rfl) (hs2 : starEach [b] X.env = [(false, eval b X.env)] := by rfl) :
    DI X S tg (.Call (.Name "range" p) [a, b] [] pos) (mRng2 ml) := PI.imp (pi_range2 hg hm ha hs hs2) fun σ H R ⟨w, env, g, ds, g', Re, e, k⟩ => by
  obtain ⟨x, g1, e1, e⟩ := bD_some e
  split at e
  · rename_i i j
    split at e
    · rename_i hj
      cases e
      refine ⟨w, env, g, _, g', Re, e1, fun vs I' H' s' R' p => ?_⟩
      cases p with
      | cons p q =>
        cases p
        cases q with
        | cons p q =>
          cases p
          cases q
          exact ⟨i, j, rfl, ⟨by omega, by omega, by omega, by omega⟩, k _ I' H' s' R' (itr_ok i (j - i).toNat I') (by rw [rng_len, line_val]; omega)⟩
    · cases e
  · cases e
/-- pairs of the place and the item -/
def enm : Nat → List D → List D
  | _, [] => []
  | n, d :: ds => .tuple [.int (n : Int), d] :: enm (n + 1) ds
theorem enm_get : ∀ {n : Nat} {ds : List D} {i : Nat} {t : D}, (enm n ds)[i]? = some t → ∃ d, ds[i]? = some d ∧ t = .tuple [.int ((n + i : Nat) : Int), d]
  | _, [], _, _, h => by simp [enm] at h
  | n, d :: ds, 0, t, h => by
    simp only [enm, List.getElem?_cons_zero, Option.some.injEq] at h
    exact ⟨d, rfl, h.symm⟩
  | n, d :: ds, i + 1, t, h => by
    simp only [enm, List.getElem?_cons_succ] at h
    obtain ⟨x, h1, h2⟩ := enm_get h
    exact ⟨x, by simpa using h1, by rw [h2]; congr 3; omega⟩
theorem enm_len : ∀ (n : Nat) (ds : List D), (enm n ds).length = ds.length
  | _, [] => rfl
  | n, d :: ds => by simp only [enm, List.length_cons, enm_len (n + 1) ds]
theorem ite_ok {p : Addr} {vs : List V} {ds : List D} {I : Hp} (hp : I p = some (.lst vs)) (ra : RpA K I vs ds) : ItOk K (Ite K p) I (enm 0 ds) where
  go := fun i I' H' hi s1 s2 => by
    rw [enm_len] at hi
    have hv : i < vs.length := by rw [ra.len]; exact hi
    exact ⟨vs, vs[i], SqL.of (s2 _ _ (s1 _ _ hp)), by simp [hv]⟩
  yl := fun i I' H' x H'' d hd s1 s2 y => by
    obtain ⟨T, u, ex, hT, eH, y⟩ := y
    subst ex; subst eH
    obtain ⟨d0, h1, rfl⟩ := enm_get hd
    have hx := y vs (SqL.of (s2 _ _ (s1 _ _ hp)))
    obtain ⟨d', e1, r⟩ := ra.getV hx
    rw [h1] at e1
    cases e1
    have ps := Pst.new (p := T) (o := .tup [.int (i : Nat), u]) s2 hT
    refine ⟨_, ps, .tup (SqT.of upd_same) ?_ (by show 2 ≤ sizeLine; decide)⟩
    rw [Nat.zero_add]
    exact .cons (.int _) (.cons ((r.mono s1).mono ps.eI) .nil)
  st := fun i I' H' hi s1 s2 => ⟨vs, SqL.of (s2 _ _ (s1 _ _ hp)), by rw [enm_len] at hi; rw [ra.len]; exact hi⟩
def mEnum (ml : ML G) : ML G := fun env g => bD (ml env g) fun xs g1 => match xs with
  | [.list ds] => some (enm 0 ds, g1)
  | _ => none
theorem di_enum {p tpos : Pos} {elts : List Expr} {kk : Nat} (hg : Gl X "enumerate") (hm : X.mg "enumerate" = none) (ha : DA X S [a] ml) (hs : starEach [a] X.env = [(false, eval a X.env)] := by rfl) :
    DI X S (.Tuple elts kk tpos) (.Call (.Name "enumerate" p) [a] [] pos) (mEnum ml) := PI.imp (pi_enum hg hm ha hs) fun σ H R ⟨w, env, g, ds, g', Re, e, k⟩ => by
  obtain ⟨x, g1, e1, e⟩ := bD_some e
  split at e
  · cases e
    refine ⟨w, env, g, _, g', Re, e1, fun vs I' H' s' R' p => ?_⟩
    cases p with
    | cons p q =>
      cases q
      cases p with
      | lst hp ra hz => exact ⟨_, _, rfl, SqL.of (R'.eI _ _ hp), k _ I' H' s' R' (ite_ok hp ra) (by rw [enm_len]; exact hz)⟩
  · cases e
def zipD : List D → List D → List D
  | x :: xs, y :: ys => .tuple [x, y] :: zipD xs ys
  | _, _ => []
theorem zipD_get : ∀ {xs ys : List D} {i : Nat} {t : D}, (zipD xs ys)[i]? = some t → ∃ x y, xs[i]? = some x ∧ ys[i]? = some y ∧ t = .tuple [x, y]
  | [], _, _, _, h => by simp [zipD] at h
  | _ :: _, [], _, _, h => by simp [zipD] at h
  | x :: xs, y :: ys, 0, t, h => by
    simp only [zipD, List.getElem?_cons_zero, Option.some.injEq] at h
    exact ⟨x, y, rfl, rfl, h.symm⟩
  | x :: xs, y :: ys, i + 1, t, h => by
    simp only [zipD, List.getElem?_cons_succ] at h
    obtain ⟨u, v, h1, h2, h3⟩ := zipD_get h
    exact ⟨u, v, by simpa using h1, by simpa using h2, h3⟩
theorem zipD_len : ∀ (xs ys : List D), (zipD xs ys).length = min xs.length ys.length
  | [], _ => by simp [zipD]
  | _ :: _, [] => by simp [zipD]
  | x :: xs, y :: ys => by simp only [zipD, List.length_cons, zipD_len xs ys]; omega
theorem itz_ok {p q : Addr} {vs us : List V} {ds es : List D} {I : Hp} (hp : I p = some (.lst vs)) (hq : I q = some (.lst us)) (ra : RpA K I vs ds) (rb : RpA K I us es) : ItOk K (Itz K p q) I (zipD ds es) where
  go := fun i I' H' hi s1 s2 => by
    rw [zipD_len] at hi
    have hv : i < vs.length := by rw [ra.len]; omega
    have hu : i < us.length := by rw [rb.len]; omega
    exact ⟨vs, us, vs[i], us[i], SqL.of (s2 _ _ (s1 _ _ hp)), SqL.of (s2 _ _ (s1 _ _ hq)), by simp [hv], by simp [hu]⟩
  yl := fun i I' H' x H'' d hd s1 s2 y => by
    obtain ⟨T, u, v, ex, hT, eH, y1, y2⟩ := y
    subst ex; subst eH
    obtain ⟨d0, e0, h1, h2, rfl⟩ := zipD_get hd
    obtain ⟨d', f1, r1⟩ := ra.getV (y1 vs (SqL.of (s2 _ _ (s1 _ _ hp))))
    obtain ⟨e', f2, r2⟩ := rb.getV (y2 us (SqL.of (s2 _ _ (s1 _ _ hq))))
    rw [h1] at f1; cases f1
    rw [h2] at f2; cases f2
    have ps := Pst.new (p := T) (o := .tup [u, v]) s2 hT
    exact ⟨_, ps, .tup (SqT.of upd_same) (.cons ((r1.mono s1).mono ps.eI) (.cons ((r2.mono s1).mono ps.eI) .nil)) (by show 2 ≤ sizeLine; decide)⟩
  st := fun i I' H' hi s1 s2 => ⟨vs, us, SqL.of (s2 _ _ (s1 _ _ hp)), SqL.of (s2 _ _ (s1 _ _ hq)), by
    rw [zipD_len] at hi
    have h1 := ra.len
    have h2 := rb.len
    omega⟩
def mZip (ml : ML G) : ML G := fun env g => bD (ml env g) fun xs g1 => match xs with
  | [.list ds, .list es] => some (zipD ds es, g1)
  | _ => none
theorem di_zip {p tpos : Pos} {elts : List Expr} {kk : Nat} (hg : Gl X "zip") (hm : X.mg "zip" = none) (ha : DA X S [a, b] ml) (hs : starEach [a, b] X.env = (false, eval a X.env) :: starEach [b] X.env := by rfl) (hpl : (backTo pos (starEach [b] X.env)).any (·.1) = false := by rfl) :
    DI X S (.Tuple elts kk tpos) (.Call (.Name "zip" p) [a, b] [] pos) (mZip ml) := PI.imp (pi_zip hg hm ha hs hpl) fun σ H R ⟨w, env, g, ds, g', Re, e, k⟩ => by
  obtain ⟨x, g1, e1, e⟩ := bD_some e
  split at e
  · cases e
    refine ⟨w, env, g, _, g', Re, e1, fun vs I' H' s' R' p => ?_⟩
    cases p with
    | cons p q =>
      cases q with
      | cons q r =>
        cases r
        cases p with
        | lst hp ra hz =>
          cases q with
          | lst hq rb hy => exact ⟨_, _, _, _, rfl, SqL.of (R'.eI _ _ hp), SqL.of (R'.eI _ _ hq), k _ I' H' s' R' (itz_ok hp hq ra rb) (by rw [zipD_len]; omega)⟩
  · cases e

/-! ### for -/
def loopL (b : MTg G) (mb : MS G) : List D → Env → G → Option (Ct × Env × G)
  | [], env, g => some (.nx, env, g)
  | d :: ds, env, g => match b d env g with
    | none => none
    | some (env1, g1) => match mb env1 g1 with
      | none => none
      | some (.nx, e, g2) => loopL b mb ds e g2
      | some (.co, e, g2) => loopL b mb ds e g2
      | some (.br, e, g2) => some (.nx, e, g2)
      | some (.re d, e, g2) => some (.re d, e, g2)
      | some (.rl d, e, g2) => some (.rl d, e, g2)
def mFor (ml : ML G) (b : MTg G) (mb : MS G) : MS G := fun env g => bD (ml env g) fun ds g1 => loopL b mb ds env g1
theorem ts_for {idx : List Nat} {bt : MTg G} {mb : MS G} {D : Ends} (h : tS X.K S (mFor ml bt mb) D σ H) : tFor (tI X.K S ml) (tTg X.K S idx bt) (tS X.K S mb) D σ H := by
  obtain ⟨w, env, g, c, env', g', R, e, k⟩ := h
  obtain ⟨ds, g1, e1, e⟩ := bD_some e
  refine ⟨w, env, g, ds, g1, R, e1, fun J I1 H1 s1 R1 ok hz => ?_⟩
  refine ⟨fun i m σ2 H2 => m = ds.length - i ∧ i ≤ ds.length ∧ ∃ I2 env2 g2, Same I1 I2 ∧ Rel X.K S (w.im I2) env2 g2 σ2 H2 ∧ loopL bt mb (ds.drop i) env2 g2 = some (c, env', g'), ⟨ds.length, by omega, Nat.zero_le _, I1, env, g1, Same.refl _, R1, e⟩, ?_⟩
  rintro i m σ2 H2 ⟨rfl, hi, I2, env2, g2, s2, R2, e2⟩
  by_cases hlt : i < ds.length
  · refine .inr ⟨ok.go i I2 H2 hlt s2 R2.eI, fun σ' H' => i + 1 ≤ ds.length ∧ ∃ I2 env2 g2, Same I1 I2 ∧ Rel X.K S (w.im I2) env2 g2 σ' H' ∧ loopL bt mb (ds.drop (i + 1)) env2 g2 = some (c, env', g'), fun σ' H' ⟨q1, q⟩ => ⟨ds.length - (i + 1), by omega, rfl, q1, q⟩, fun x H' y => ?_⟩
    have hd : ds[i]? = some ds[i] := by simp [hlt]
    obtain ⟨I3, ps, r⟩ := ok.yl i I2 H2 x H' _ hd s2 R2.eI y
    rw [List.drop_eq_getElem_cons hlt] at e2
    unfold loopL at e2
    cases eb : bt ds[i] env2 g2 with
    | none => rw [eb] at e2; cases e2
    | some eg =>
      obtain ⟨env3, g3⟩ := eg
      rw [eb] at e2
      dsimp only at e2
      refine ⟨w.im I3, env2, g2, ds[i], env3, g3, R2.pst ps, r, eb, fun σ3 I4 H3 s4 R3 _ _ => ?_⟩
      cases em : mb env3 g3 with
      | none => rw [em] at e2; cases e2
      | some r4 =>
        obtain ⟨c4, env4, g4⟩ := r4
        rw [em] at e2
        have s3 : Same I1 I4 := (s2.trans ps.eI).trans s4
        refine ⟨w.im I4, env3, g3, c4, env4, g4, R3, em, ?_⟩
        cases c4 with
        | nx => exact fun σ' I5 H5 s5 R5 => ⟨by omega, I5, env4, g4, s3.trans s5, R5, e2⟩
        | co => exact fun σ' I5 H5 s5 R5 => ⟨by omega, I5, env4, g4, s3.trans s5, R5, e2⟩
        | br => cases e2; exact fun σ' I5 H5 s5 R5 => k σ' I5 H5 (s1.trans (s3.trans s5)) R5
        | re d => cases e2; exact fun v σ' I5 H5 s5 R5 p => k v σ' I5 H5 (s1.trans (s3.trans s5)) R5 p
        | rl d => cases e2; exact fun p vs σ' I5 H5 s5 R5 n hp ra z => k p vs σ' I5 H5 (s1.trans (s3.trans s5)) R5 n hp ra z
  · have hi' : i = ds.length := by omega
    subst hi'
    rw [List.drop_length] at e2
    cases e2
    exact .inl ⟨ok.st _ I2 H2 (Nat.le_refl _) s2 R2.eI, k σ2 I2 H2 (s1.trans s2) R2⟩
theorem ds_for {idx : List Nat} {bt : MTg G} {mb : MS G} (hp : PassesOwn (model X.prog X.w) X.A X.env X.xe) (hc : X.calm = true) (hi : DI X S tg iter ml) (hg : DTg X S tg idx bt) (hb : DB X S body mb)
    (hs : ∀ x, foldedSetIterable iter X.env x = pure x := by intro _; rfl) : DS X S (.For tg iter body [] pos) (mFor ml bt mb) := PS.imp (ps_for hp hc hi hg.pg hb hs) fun _ _ _ h => ts_for h

/-! ### while -/
def whileN (mt : MT G) (mb : MS G) : Nat → Env → G → Option (Ct × Env × G)
  | 0, _, _ => none
  | n + 1, env, g => match mt env g with
    | none => none
    | some (false, g1) => some (.nx, env, g1)
    | some (true, g1) => match mb env g1 with
      | none => none
      | some (.nx, e, g2) => whileN mt mb n e g2
      | some (.co, e, g2) => whileN mt mb n e g2
      | some (.br, e, g2) => some (.nx, e, g2)
      | some (.re d, e, g2) => some (.re d, e, g2)
      | some (.rl d, e, g2) => some (.rl d, e, g2)
theorem whileN_succ {mt : MT G} {mb : MS G} : ∀ {n : Nat} {env : Env} {g : G} {r}, whileN mt mb n env g = some r → whileN mt mb (n + 1) env g = some r
  | 0, _, _, _, h => by simp [whileN] at h
  | n + 1, env, g, r, h => by
    unfold whileN at h ⊢
    cases e : mt env g with
    | none => rw [e] at h; cases h
    | some q =>
      obtain ⟨b, g1⟩ := q
      rw [e] at h
      cases b with
      | false => exact h
      | true =>
        simp only at h ⊢
        cases e2 : mb env g1 with
        | none => rw [e2] at h; cases h
        | some q =>
          obtain ⟨c, e3, g2⟩ := q
          rw [e2] at h
          cases c with
          | nx => exact whileN_succ h
          | co => exact whileN_succ h
          | _ => exact h
theorem whileN_mono {mt : MT G} {mb : MS G} {n m : Nat} {env : Env} {g : G} {r} (h : whileN mt mb n env g = some r) (hm : n ≤ m) : whileN mt mb m env g = some r := by
  induction hm with
  | refl => exact h
  | step _ ih => exact whileN_succ ih
open Classical in
noncomputable def mWhile (mt : MT G) (mb : MS G) : MS G := fun env g => if h : ∃ n r, whileN mt mb n env g = some r then some (Classical.choose (Classical.choose_spec h)) else none
theorem mWhile_eq {mt : MT G} {mb : MS G} {n : Nat} {env : Env} {g : G} {r} (h : whileN mt mb n env g = some r) : mWhile mt mb env g = some r := by
  have hex : ∃ n r, whileN mt mb n env g = some r := ⟨n, r, h⟩
  unfold mWhile
  rw [dif_pos hex]
  have q := Classical.choose_spec (Classical.choose_spec hex)
  have q1 := whileN_mono q (Nat.le_max_left _ n)
  have q2 := whileN_mono h (Nat.le_max_right (Classical.choose hex) n)
  rw [q1] at q2
  exact q2
theorem mWhile_some {mt : MT G} {mb : MS G} {env : Env} {g : G} {r} (h : mWhile mt mb env g = some r) : ∃ n, whileN mt mb n env g = some r := by
  unfold mWhile at h
  split at h
  · rename_i hex
    cases h
    exact ⟨_, Classical.choose_spec (Classical.choose_spec hex)⟩
  · cases h
theorem ts_while {mb : MS G} {D : Ends} (h : tS X.K S (mWhile mt mb) D σ H) : tWhile (tT X.K S mt) (tS X.K S mb) D σ H := by
  obtain ⟨w, env, g, c, env', g', R, e, k⟩ := h
  obtain ⟨n, e⟩ := mWhile_some e
  refine ⟨fun m σ2 H2 => ∃ I2 env2 g2, Same w.I I2 ∧ Rel X.K S (w.im I2) env2 g2 σ2 H2 ∧ whileN mt mb m env2 g2 = some (c, env', g'), ⟨n, w.I, env, g, Same.refl _, R, e⟩, ?_⟩
  rintro m σ2 H2 ⟨I2, env2, g2, s2, R2, e2⟩
  cases m with
  | zero => simp [whileN] at e2
  | succ m =>
    unfold whileN at e2
    cases et : mt env2 g2 with
    | none => rw [et] at e2; cases e2
    | some q =>
      obtain ⟨b, g3⟩ := q
      rw [et] at e2
      refine ⟨w.im I2, env2, g2, b, g3, R2, et, fun I3 H3 s3 R3 => ?_⟩
      cases b with
      | false =>
        cases e2
        rw [if_neg Bool.false_ne_true]
        exact k σ2 I3 H3 (s2.trans s3) R3
      | true =>
        rw [if_pos rfl]
        refine ⟨fun σ' H' => ∃ I2 env2 g2, Same w.I I2 ∧ Rel X.K S (w.im I2) env2 g2 σ' H' ∧ whileN mt mb m env2 g2 = some (c, env', g'), fun σ' H' q => ⟨m, Nat.lt_succ_self m, q⟩, ?_⟩
        simp only at e2
        cases em : mb env2 g3 with
        | none => rw [em] at e2; cases e2
        | some r4 =>
          obtain ⟨c4, env4, g4⟩ := r4
          rw [em] at e2
          have s4 : Same w.I I3 := s2.trans s3
          refine ⟨w.im I3, env2, g3, c4, env4, g4, R3, em, ?_⟩
          cases c4 with
          | nx => exact fun σ' I5 H5 s5 R5 => ⟨I5, env4, g4, s4.trans s5, R5, e2⟩
          | co => exact fun σ' I5 H5 s5 R5 => ⟨I5, env4, g4, s4.trans s5, R5, e2⟩
          | br => cases e2; exact fun σ' I5 H5 s5 R5 => k σ' I5 H5 (s4.trans s5) R5
          | re d => cases e2; exact fun v σ' I5 H5 s5 R5 p => k v σ' I5 H5 (s4.trans s5) R5 p
          | rl d => cases e2; exact fun p vs σ' I5 H5 s5 R5 n hp ra z => k p vs σ' I5 H5 (s4.trans s5) R5 n hp ra z
theorem ds_while {mb : MS G} (hp : PassesOwn (model X.prog X.w) X.A X.env X.xe) (hc : DT X S c mt) (hb : DB X S body mb) : DS X S (.While c body [] pos) (mWhile mt mb) := PS.imp (ps_while hp hc hb) fun _ _ _ h => ts_while h
end
end Pd

/-! Pd: comprehensions, lists of one's own, defs. -/
namespace Pd
open PySem PySem.Spec L2
section
variable {G : Type} {X : Cx} {S : Gs G} {a b c e : Expr} {es rest : List Expr} {pos : Pos} {ma mb mc : ME G} {mt mu : MT G} {ml : ML G} {st : Stmt} {sts body : List Stmt} {m m1 m2 : MS G} {tg iter : Expr}
variable {K : PySem.W.Frag} {w : Wd} {env env' : Env} {g g' : G} {σ : St} {H H' I' : Hp}

/-! ### comprehensions -/
def Env.wipe (env : Env) : List Nat → Env
  | [] => env
  | v :: vs => (Env.wipe env vs).set v .un
theorem ewipe_len (env : Env) : ∀ vs : List Nat, (env.wipe vs).length = env.length
  | [] => rfl
  | v :: vs => by unfold Env.wipe; rw [List.length_set, ewipe_len env vs]
theorem ewipe_in {env : Env} {k : Nat} : ∀ {vs : List Nat}, k ∈ vs → (env.wipe vs).at k = .un
  | v :: vs, h => by
    unfold Env.wipe
    rw [at_set]
    by_cases z : k = v
    · subst z
      by_cases q : k < (env.wipe vs).length
      · rw [if_pos ⟨rfl, q⟩]
      · rw [if_neg fun z => q z.2]
        show (env.wipe vs).getD k .un = .un
        rw [List.getD_eq_getElem?_getD, List.getElem?_eq_none (by omega)]; rfl
    · rw [if_neg fun q => z q.1]
      rcases List.mem_cons.mp h with e | e
      · exact absurd e z
      · exact ewipe_in e
theorem ewipe_out {env : Env} {k : Nat} : ∀ {vs : List Nat}, k ∉ vs → (env.wipe vs).at k = env.at k
  | [], _ => rfl
  | v :: vs, h => by
    unfold Env.wipe
    rw [at_set, if_neg fun q => h (by simp [q.1])]
    exact ewipe_out fun q => h (List.mem_cons_of_mem _ q)
/-- a state of other slots: where the environment knows something, the same -/
theorem Rel.re {env1 : Env} {σ1 : St} (R : Rel K S w env1 g σ1 H) (hl : σ.length = env.length) (h : ∀ k, env.at k = .un ∨ (env.at k = env1.at k ∧ σ[k]? = σ1[k]?)) : Rel K S w env g σ H where
  e0 := R.e0
  eI := R.eI
  ag := R.ag
  ge := R.ge
  gfp := R.gfp
  grt := R.grt
  gok := R.gok
  fI := R.fI
  f0 := R.f0
  len := hl
  slot := fun k => by
    rcases h k with e | ⟨e, q⟩
    · rw [e]; trivial
    · rw [e]; exact (R.slot k).of_eq q
  dis := fun k j a hkj f1 f2 => by
    rcases h k with e | ⟨e, q⟩
    · rw [e] at f1; exact f1
    · rcases h j with e' | ⟨e', q'⟩
      · rw [e'] at f2; exact f2
      · rw [e] at f1; rw [e'] at f2
        exact R.dis k j a hkj (fpt_eq (i := k) q f1) (fpt_eq (i := j) q' f2)
theorem Rel.wipe (R : Rel K S w env g σ H) (vs : List Nat) : Rel K S w (env.wipe vs) g (L2.wipe σ vs) H := R.re (by rw [wipe_length, ewipe_len]; exact R.len) fun k => by
  by_cases h : k ∈ vs
  · exact .inl (ewipe_in h)
  · exact .inr ⟨ewipe_out h, wipe_out h⟩
theorem wipe_get {σ : St} {k : Nat} : ∀ {vs : List Nat}, k ∈ vs → k < σ.length → (L2.wipe σ vs)[k]? = some none
  | v :: vs, h, hl => by
    unfold L2.wipe
    by_cases z : k = v
    · subst z
      rw [List.getElem?_set_self (by rw [wipe_length]; exact hl)]
    · rw [List.getElem?_set_ne (Ne.symm z)]
      rcases List.mem_cons.mp h with e | e
      · exact absurd e z
      · exact wipe_get e hl
theorem wipe_eq {σ σ2 : St} {vs : List Nat} (hl : σ2.length = (L2.wipe σ vs).length) (h : ∀ k, k ∉ vs → σ2[k]? = (L2.wipe σ vs)[k]?) : L2.wipe σ2 vs = L2.wipe σ vs := by
  apply List.ext_getElem?
  intro k
  rw [wipe_length] at hl
  by_cases hk : k ∈ vs
  · by_cases z : k < σ.length
    · rw [wipe_get hk (by rw [hl]; exact z), wipe_get hk z]
    · rw [List.getElem?_eq_none (by rw [wipe_length]; omega), List.getElem?_eq_none (by rw [wipe_length]; omega)]
  · rw [wipe_out hk, h k hk]
/-- an object that nobody knows, kept in sight -/
abbrev Wd.hold (w : Wd) (p : Addr) (o : HO) : Wd := { w with H0 := upd w.H0 p o }
theorem Rel.hold {p : Addr} {o : HO} (R : Rel K S w env g σ H) (n : Nob w env σ H p) (hp : H p = some o) : Rel K S (w.hold p o) env g σ H := by
  obtain ⟨s1, s2⟩ := R.keepS (w' := w.hold p o) (H' := H) (Same.refl _) rfl fun i a f => by
    obtain ⟨a1, a2, a3, a4⟩ := (R.slot i).fr f
    have ne : a ≠ p := fun z => n.o i (z ▸ f)
    exact ⟨rfl, a1, (upd_ne ne).trans a2, a3⟩
  exact {
    e0 := fun a u e => by
      have e : upd w.H0 p o a = some u := e
      by_cases z : a = p
      · subst z; rw [upd_same] at e; rw [hp]; exact e
      · rw [upd_ne z] at e; exact R.e0 a u e
    eI := R.eI
    ag := fun a u e => by
      have e : upd w.H0 p o a = some u := e
      by_cases z : a = p
      · subst z
        show w.I a = w.I0 a
        rw [n.i, R.ge.free n.i]
      · rw [upd_ne z] at e; exact R.ag a u e
    ge := R.ge
    gfp := R.gfp
    grt := R.grt
    gok := R.gok
    fI := R.fI
    f0 := fun a ha => by
      have z : a ≠ p := fun z => n.f (z ▸ ha)
      show upd w.H0 p o a = none
      rw [upd_ne z]; exact R.f0 a ha
    len := R.len
    slot := s1
    dis := s2 }
/-- .. let go -/
theorem Rel.unhold {p : Addr} {o u : HO} (R : Rel K S (w.hold p o) env g σ H) (n0 : w.H0 p = none) (nI : w.I0 p = none) : Rel K S w env g σ (upd H p u) ∧ Nob w env σ (upd H p u) p ∧ H p = some o := by
  have hp : H p = some o := R.e0 p o upd_same
  have nf : ¬ w.fp p := fun z => by
    have q : upd w.H0 p o p = none := R.f0 p z
    rw [upd_same] at q
    cases q
  have ni : w.I p = none := (R.ag p o upd_same).trans nI
  have own : ∀ i, ¬ fpt H σ i (env.at i) p := fun i f => by
    have q : upd w.H0 p o p = none := ((R.slot i).fr f).2.1
    rw [upd_same] at q
    cases q
  have kp : ∀ i, SlotOk K w σ (upd H p u) i (env.at i) ∧ ∀ a, fpt (upd H p u) σ i (env.at i) a ↔ fpt H σ i (env.at i) a := fun i => (R.slot i).keep (σ' := σ) (w' := w) (H' := upd H p u) rfl (Same.refl _) rfl fun a f => by
    obtain ⟨a1, a2, a3, _⟩ := (R.slot i).fr f
    have ne : a ≠ p := fun z => own i (z ▸ f)
    exact ⟨upd_ne ne, a1, (upd_ne ne).symm.trans a2, a3⟩
  refine ⟨?_, ⟨ni, n0, nf, fun i f => own i (((kp i).2 p).mp f)⟩, hp⟩
  exact {
    e0 := fun a v e => by
      have z : a ≠ p := fun z => by rw [z, n0] at e; cases e
      rw [upd_ne z]
      exact R.e0 a v ((upd_ne z).trans e)
    eI := fun a v e => by
      have z : a ≠ p := fun z => by rw [z, ni] at e; cases e
      rw [upd_ne z]
      exact R.eI a v e
    ag := fun a v e => by
      have z : a ≠ p := fun z => by rw [z, n0] at e; cases e
      exact R.ag a v ((upd_ne z).trans e)
    ge := R.ge
    gfp := R.gfp
    grt := R.grt
    gok := S.loc (fun a ha => by
      have z : a ≠ p := fun z => nf (z ▸ (R.gfp a).mp ha)
      exact upd_ne z) R.gok
    fI := R.fI
    f0 := fun a ha => by
      have z : a ≠ p := fun z => nf (z ▸ ha)
      have q : upd w.H0 p o a = none := R.f0 a ha
      rw [upd_ne z] at q
      exact q
    len := R.len
    slot := fun i => (kp i).1
    dis := fun i j a n f1 f2 => R.dis i j a n (((kp i).2 a).mp f1) (((kp j).2 a).mp f2) }
def SV.notOw : SV → Bool
  | .ow _ => false
  | .tr _ => false
  | _ => true
theorem notOw_fpt {sv : SV} {i : Nat} {a : Addr} (h : sv.notOw = true) : ¬ fpt H σ i sv a := fun f => by
  cases sv with
  | ow ds => cases h
  | tr t => cases h
  | _ => exact f
/-- behind a block: the frame's own slots again -/
theorem Rel.join {I0 I6 H0 H6 : Hp} {g0 g6 : G} {vs : List Nat} (R0 : Rel K S (w.im I0) env g0 σ H0) (R6 : Rel K S (w.im I6) (env.wipe vs) g6 (L2.wipe σ vs) H6) (s : Same I0 I6) (h : ∀ k ∈ vs, (env.at k).notOw = true) : Rel K S (w.im I6) env g6 σ H6 where
  e0 := R6.e0
  eI := R6.eI
  ag := R6.ag
  ge := R6.ge
  gfp := R6.gfp
  grt := R6.grt
  gok := R6.gok
  fI := R6.fI
  f0 := R6.f0
  len := R0.len
  slot := fun k => by
    by_cases hk : k ∈ vs
    · exact ((R0.slot k).keep (σ' := σ) (w' := w.im I6) (H' := H6) rfl s rfl fun a f => absurd f (notOw_fpt (h k hk))).1
    · have q := R6.slot k
      rw [ewipe_out hk] at q
      exact q.of_eq (wipe_out hk).symm
  dis := fun k j a hkj f1 f2 => by
    have nk : k ∉ vs := fun z => notOw_fpt (h k z) f1
    have nj : j ∉ vs := fun z => notOw_fpt (h j z) f2
    exact R6.dis k j a hkj (by rw [ewipe_out nk]; exact fpt_eq (i := k) (wipe_out nk).symm f1) (by rw [ewipe_out nj]; exact fpt_eq (i := j) (wipe_out nj).symm f2)
theorem upd_id {H : Hp} {p : Addr} {o : HO} (h : H p = some o) : upd H p o = H := by
  funext b
  by_cases z : b = p
  · rw [z, upd_same, h]
  · rw [upd_ne z]
def compL (b : MTg G) (mt : MT G) (me : ME G) (env : Env) : List D → G → Option (List D × G)
  | [], g => some ([], g)
  | d :: ds, g => match b d env g with
    | none => none
    | some (env1, g1) => match mt env1 g1 with
      | none => none
      | some (false, g2) => compL b mt me env ds g2
      | some (true, g2) => match me env1 g2 with
        | none => none
        | some (x, g3) => match compL b mt me env ds g3 with
          | none => none
          | some (xs, g4) => some (x :: xs, g4)
def mComp (ml : ML G) (vs : List Nat) (b : MTg G) (mt : MT G) (me : ME G) : ML G := fun env g => bD (ml env g) fun ds g1 => if (vs.all fun k => (env.at k).notOw) = true then compL b mt me (env.wipe vs) ds g1 else none
theorem compL_len {b : MTg G} {mt : MT G} {me : ME G} {env : Env} : ∀ {ds : List D} {g : G} {xs : List D} {g' : G}, compL b mt me env ds g = some (xs, g') → xs.length ≤ ds.length
  | [], g, xs, g', h => by simp [compL] at h; rw [h.1]; exact Nat.le_refl 0
  | d :: ds, g, xs, g', h => by
    unfold compL at h
    cases e1 : b d env g with
    | none => rw [e1] at h; cases h
    | some q0 =>
      obtain ⟨env1, g1⟩ := q0
      rw [e1] at h
      dsimp only at h
      cases e2 : mt env1 g1 with
      | none => rw [e2] at h; cases h
      | some q =>
        obtain ⟨t, g2⟩ := q
        rw [e2] at h
        cases t with
        | false => exact Nat.le_trans (compL_len h) (by simp)
        | true =>
          dsimp only at h
          cases e3 : me env1 g2 with
          | none => rw [e3] at h; cases h
          | some q =>
            obtain ⟨x, g3⟩ := q
            rw [e3] at h
            dsimp only at h
            cases e4 : compL b mt me env ds g3 with
            | none => rw [e4] at h; cases h
            | some q =>
              obtain ⟨ys, g4⟩ := q
              rw [e4] at h
              cases h
              have := compL_len e4
              simp only [List.length_cons]
              omega
def mYes : MT G := fun _ g => some (true, g)
structure DTs {G : Type} (X : Cx) (S : Gs G) (ifs : List Expr) (mt : MT G) : Prop where
  pt : PTs X ifs (tT X.K S mt)
theorem dts_nil : DTs X S [] mYes := ⟨⟨fun pins s σ H Q I h => pts_nil.run pins s σ H Q I (by
  obtain ⟨w, env, g, d, g', R, e, k⟩ := h
  cases e
  exact k w.I H (Same.refl _) R)⟩⟩
theorem dts_one (h : DT X S c mt) : DTs X S [c] mt := ⟨pts_one h⟩
theorem tf_comp {idx vs : List Nat} {bt : MTg G} {me : ME G} {Q : VK} (hok : ∀ d env g env' g', bt d env g = some (env', g') → env'.length = env.length ∧ ∀ k, k ∉ idx → env'.at k = env.at k) (hsub : ∀ k ∈ idx, k ∈ vs)
    (h : tF K S (mComp ml vs bt mt me) σ H Q) : tLc (tI K S ml) (tTg K S idx bt) (tT K S mt) (tE K S me) vs σ H Q := by
  obtain ⟨w, env, g, xs, g', R, e, k⟩ := h
  obtain ⟨ds, g1, e1, e⟩ := bD_some e
  split at e
  case isFalse => cases e
  rename_i hown
  have hown : ∀ k ∈ vs, (env.at k).notOw = true := fun k hk => List.all_eq_true.mp hown k hk
  refine ⟨w, env, g, ds, g1, R, e1, fun J I1 H1 s1 R1 ok hz p hp => ?_⟩
  have n0 : w.H0 p = none := R1.e0.free hp
  have nI : w.I0 p = none := by
    have a1 : Same w.I0 I1 := R1.ge
    exact a1.free (R1.eI.free hp)
  -- the word: the list so far at p, the rest of the run
  refine ⟨fun i m H2 => m = ds.length - i ∧ i ≤ ds.length ∧ ∃ I2 g2 acc us as rest, Same I1 I2 ∧ Rel K S (w.im I2) env g2 σ H2 ∧ Nob (w.im I2) env σ H2 p ∧ H2 p = some (.lst us) ∧ RpA K I2 us as ∧ acc = us ∧ as.length ≤ i ∧
    compL bt mt me (env.wipe vs) (ds.drop i) g2 = some (rest, g') ∧ xs = as ++ rest, ⟨ds.length, by omega, Nat.zero_le _, I1, g1, [], [], [], xs, Same.refl _, R1.alloc hp, R1.nob hp, upd_same, .nil, rfl, Nat.le_refl _, e, rfl⟩, ?_⟩
  rintro i m H2 ⟨rfl, hi, I2, g2, acc, us, as, rest, s2, R2, n2, hp2, ra2, rfl, hl2, e2, ex⟩
  by_cases hlt : i < ds.length
  · refine .inr ⟨ok.go i I2 H2 hlt s2 R2.eI, fun H' => i + 1 ≤ ds.length ∧ ∃ I2 g2 acc us as rest, Same I1 I2 ∧ Rel K S (w.im I2) env g2 σ H' ∧ Nob (w.im I2) env σ H' p ∧ H' p = some (.lst us) ∧ RpA K I2 us as ∧ acc = us ∧ as.length ≤ i + 1 ∧
      compL bt mt me (env.wipe vs) (ds.drop (i + 1)) g2 = some (rest, g') ∧ xs = as ++ rest, fun H' ⟨q1, q⟩ => ⟨ds.length - (i + 1), by omega, rfl, q1, q⟩, fun x H' y => ?_⟩
    have hd : ds[i]? = some ds[i] := by simp [hlt]
    obtain ⟨I3, ps, r⟩ := ok.yl i I2 H2 x H' _ hd s2 R2.eI y
    rw [List.drop_eq_getElem_cons hlt] at e2
    unfold compL at e2
    cases eb : bt ds[i] (env.wipe vs) g2 with
    | none => rw [eb] at e2; cases e2
    | some eg =>
      obtain ⟨env3, g3⟩ := eg
      rw [eb] at e2
      dsimp only at e2
      have R3 := R2.pst ps
      have n3 : Nob (w.im I3) env σ H' p := Nob.pst (w := w.im I2) R2 n2 ps ((ps.ag p (by rw [hp2]; simp)).trans n2.i)
      have hp3 : H' p = some (.lst acc) := ps.eH _ _ hp2
      have R4 := (R3.hold n3 hp3).wipe vs
      have hk := hok _ _ _ _ _ eb
      refine ⟨(w.im I3).hold p (.lst acc), env.wipe vs, g2, ds[i], env3, g3, R4, r, eb, fun σ3 I4 H5 s4 R5 l5 f5 => ?_⟩
      have s4 : Same I3 I4 := s4
      have f5' : ∀ k, k ∉ vs → σ3[k]? = (L2.wipe σ vs)[k]? := fun k hk => f5 k fun z => hk (hsub k z)
      refine ⟨wipe_eq l5 f5', ?_⟩
      -- back from the element's state to the frame's
      have back : ∀ I6 H6 g6, Same I3 I6 → Rel K S ((w.im I6).hold p (.lst acc)) env3 g6 σ3 H6 → Rel K S ((w.im I6).hold p (.lst acc)) (env.wipe vs) g6 (L2.wipe σ vs) H6 := fun I6 H6 g6 s6 R6 =>
        R6.re (by rw [wipe_length, ewipe_len]; exact R.len) fun k => by
          by_cases hk' : k ∈ vs
          · exact .inl (ewipe_in hk')
          · exact .inr ⟨(hk.2 k fun z => hk' (hsub k z)).symm, (f5' k hk').symm⟩
      -- behind the element: the list let go
      have next : ∀ I6 H6 g6 (u : List V), Same I3 I6 → Rel K S ((w.im I6).hold p (.lst acc)) env3 g6 σ3 H6 → Rel K S (w.im I6) env g6 σ (upd H6 p (.lst u)) ∧ Nob (w.im I6) env σ (upd H6 p (.lst u)) p ∧ H6 p = some (.lst acc) := fun I6 H6 g6 u s6 R6 => by
        obtain ⟨q1, q2, q3⟩ := (back I6 H6 g6 s6 R6).unhold (w := w.im I6) (u := .lst u) n0 nI
        exact ⟨Rel.join R3 q1 s6 hown, ⟨q2.i, q2.h0, q2.f, fun j f => by
          have nj : j ∉ vs := fun z => notOw_fpt (hown j z) f
          exact q2.o j (by rw [ewipe_out nj]; exact fpt_eq (i := j) (wipe_out nj).symm f)⟩, q3⟩
      cases et : mt env3 g3 with
      | none => rw [et] at e2; cases e2
      | some q =>
        obtain ⟨t, g4⟩ := q
        rw [et] at e2
        refine ⟨(w.im I4).hold p (.lst acc), env3, g3, t, g4, R5, et, fun I6 H6 s6 R6 => ?_⟩
        have s6 : Same I4 I6 := s6
        have s6 : Same I3 I6 := s4.trans s6
        cases t with
        | false =>
          refine iteF ?_
          obtain ⟨q1, q2, q3⟩ := next I6 H6 g4 acc s6 R6
          rw [upd_id q3] at q1 q2
          exact ⟨by omega, I6, g4, acc, acc, as, rest, s2.trans (ps.eI.trans s6), q1, q2, q3, ra2.mono (ps.eI.trans s6), rfl, by omega, e2, ex⟩
        | true =>
          refine iteT ?_
          dsimp only at e2
          cases em : me env3 g4 with
          | none => rw [em] at e2; cases e2
          | some q =>
            obtain ⟨y5, g5⟩ := q
            rw [em] at e2
            dsimp only at e2
            cases ec : compL bt mt me (env.wipe vs) (ds.drop (i + 1)) g5 with
            | none => rw [ec] at e2; cases e2
            | some q =>
              obtain ⟨ys, g7⟩ := q
              rw [ec] at e2
              cases e2
              refine ⟨(w.im I6).hold p (.lst acc), env3, g4, y5, g5, R6, em, fun v I7 H7 s7 R7 p7 => ?_⟩
              have s7 : Same I6 I7 := s7
              obtain ⟨q1, q2, q3⟩ := next I7 H7 g5 (acc ++ [v]) (s6.trans s7) R7
              refine ⟨acc, q3, ?_, by omega, I7, g5, _, _, as ++ [y5], ys, s2.trans (ps.eI.trans (s6.trans s7)), q1, q2, upd_same, (ra2.mono (ps.eI.trans (s6.trans s7))).append (.one p7), rfl, ?_, ec, ?_⟩
              · rw [ra2.len]; omega
              · rw [List.length_append, List.length_singleton]; omega
              · rw [ex, List.append_assoc]; rfl
  · have hi' : i = ds.length := by omega
    subst hi'
    rw [List.drop_length] at e2
    cases e2
    rw [List.append_nil] at ex
    subst ex
    exact .inl ⟨ok.st _ I2 H2 (Nat.le_refl _) s2 R2.eI, k p acc I2 H2 (s1.trans s2) R2 n2 hp2 ra2 (Nat.le_trans hl2 hz)⟩
theorem df_comp {elt : Expr} {ifs : List Expr} {scope : Scope} {own : List (Str × Nat)} {idx : List Nat} {bt : MTg G} {me : ME G} (hc : X.calm = true) (hN : X.N.Nodup) (hi : DI X S tg iter ml) (ok : BlkOk X.N X.env.scope scope own)
    (hg : ∀ (s : Shared) (H : Hp) (C : Addr) (cl : List (Str × Addr)) (fp : List Addr), DTg (X.blk s H scope (compEnvC scope cl C X.env) fp) S tg idx bt) (ht : ∀ (s : Shared) (H : Hp) (C : Addr) (cl : List (Str × Addr)) (fp : List Addr), DTs (X.blk s H scope (compEnvC scope cl C X.env) fp) S ifs mt)
    (he : ∀ (s : Shared) (H : Hp) (C : Addr) (cl : List (Str × Addr)) (fp : List Addr), DE (X.blk s H scope (compEnvC scope cl C X.env) fp) S elt me) (hsub : ∀ k ∈ idx, k ∈ own.map (·.2) := by decide) (hs : ∀ x, foldedSetIterable iter X.env x = pure x := by intro _; rfl) :
    DF X S (.ListComp elt [⟨tg, iter, ifs, 0⟩] scope pos) (mComp ml (own.map (·.2)) bt mt me) :=
  PE.imp (pe_lc hc hN hi ok (fun s H C cl fp => (hg s H C cl fp).pg) (fun s H C cl fp => (ht s H C cl fp).pt) he hs) fun _ _ _ h => tf_comp (hg X.s_0 X.H_0 0 [] []).ok hsub h
/-- x = [.. for ..] on one line -/
theorem ts_setLc {idx vs : List Nat} {bt : MTg G} {me : ME G} {i : Nat} {D : Ends} (hok : ∀ d env g env' g', bt d env g = some (env', g') → env'.length = env.length ∧ ∀ k, k ∉ idx → env'.at k = env.at k) (hsub : ∀ k ∈ idx, k ∈ vs)
    (h : tS K S (mSetF i (mComp ml vs bt mt me)) D σ H) : tAsg (tLc (tI K S ml) (tTg K S idx bt) (tT K S mt) (tE K S me) vs) (gName i) D σ H := by
  obtain ⟨w, env, g, c, env', g', R, e, k⟩ := h
  obtain ⟨x, g1, e1, e⟩ := bD_some e
  cases e
  exact tf_comp hok hsub ⟨w, env, g, x, g', R, e1, fun p vs I' H' s' R' n hp ra hz => k _ I' H' s' (R'.putL n hp ra hz)⟩
theorem ds_setLc {elt : Expr} {ifs : List Expr} {scope : Scope} {own : List (Str × Nat)} {idx : List Nat} {bt : MTg G} {me : ME G} {i : Nat} {y : Str} {py spos : Pos} (hc : X.calm = true) (hN : X.N.Nodup) (hy : X.N[i]? = some y) (hyl : X.env.scope.names.lookup y = some .local)
    (hsw : swapsWith (.ListComp elt [⟨tg, iter, ifs, 0⟩] scope pos) (some (.Name y py)) spos.line X.env = pure true) (hi : DI X S tg iter ml) (ok : BlkOk X.N X.env.scope scope own)
    (hg : ∀ (s : Shared) (H : Hp) (C : Addr) (cl : List (Str × Addr)) (fp : List Addr), DTg (X.blk s H scope (compEnvC scope cl C X.env) fp) S tg idx bt) (ht : ∀ (s : Shared) (H : Hp) (C : Addr) (cl : List (Str × Addr)) (fp : List Addr), DTs (X.blk s H scope (compEnvC scope cl C X.env) fp) S ifs mt)
    (he : ∀ (s : Shared) (H : Hp) (C : Addr) (cl : List (Str × Addr)) (fp : List Addr), DE (X.blk s H scope (compEnvC scope cl C X.env) fp) S elt me) (hsub : ∀ k ∈ idx, k ∈ own.map (·.2) := by decide) (hs : ∀ x, foldedSetIterable iter X.env x = pure x := by intro _; rfl) :
    DS X S (.Assign [.Name y py] (.ListComp elt [⟨tg, iter, ifs, 0⟩] scope pos) spos) (mSetF i (mComp ml (own.map (·.2)) bt mt me)) :=
  PS.imp (ps_setLc hc hN hy hyl hsw hi ok (fun s H C cl fp => (hg s H C cl fp).pg) (fun s H C cl fp => (ht s H C cl fp).pt) he hs) fun _ _ _ h => ts_setLc (hg X.s_0 X.H_0 0 [] []).ok hsub h
/-- .. behind it handed out -/
def mThen (m : MS G) (j : Nat) : MS G := fun env g => match m env g with
  | some (.nx, e, g1) => some (.nx, e.frz j, g1)
  | r => r
theorem ds_then {st : Stmt} {m : MS G} (j : Nat) (h : DS X S st m) : DS X S st (mThen m j) := PS.imp h fun D σ H ⟨w, env, g, c, env', g', R, e, k⟩ => by
  unfold mThen at e
  split at e
  · rename_i e1 g1 em
    cases e
    refine ⟨w, env, g, .nx, e1, g', R, em, fun σ' I' H' s' R' => ?_⟩
    obtain ⟨I2, s2, R2⟩ := R'.frz j
    exact k σ' I2 H' (Same.trans s' s2) R2
  · exact ⟨w, env, g, c, env', g', R, e, k⟩
end
end Pd

/-! Pd: lists of one's own, defs. -/
namespace Pd
open PySem PySem.Spec L2
section
variable {G : Type} {X : Cx} {S : Gs G} {a b c e : Expr} {es rest : List Expr} {pos : Pos} {ma mb mc me : ME G} {mt mu : MT G} {ml : ML G} {st : Stmt} {sts body : List Stmt} {m m1 m2 : MS G} {tg iter : Expr}
variable {K : PySem.W.Frag} {w : Wd} {env env' : Env} {g g' : G} {σ : St} {H H' I' : Hp}

theorem Rel.own {j : Nat} {ds : List D} (R : Rel K S w env g σ H) (e : env.at j = .ow ds) : ∃ p vs, σ[j]? = some (some (.ref p)) ∧ H p = some (.lst vs) ∧ w.I p = none ∧ w.H0 p = none ∧ ¬ w.fp p ∧ RpA K w.I vs ds ∧ ds.length ≤ sizeLine := by
  have q := R.slot j
  rw [e] at q
  exact q
/-- x.append(e) -/
def mApp (j : Nat) (me : ME G) : MS G := fun env g => bD (me env g) fun d g1 => match env.at j with
  | .ow ds => if ds.length < sizeLine then some (.nx, env.set j (.ow (ds ++ [d])), g1) else none
  | _ => none
theorem ts_app {j : Nat} {D : Ends} (h : tS K S (mApp j me) D σ H) : tDrop (tBM K "list" rAppend (tVar j) (tA K S (mCons me mNil))) D σ H := by
  obtain ⟨w, env, g, c, env', g', R, e, k⟩ := h
  obtain ⟨d, g1, e1, e⟩ := bD_some e
  split at e
  · rename_i ds ej
    split at e
    · rename_i hz
      cases e
      obtain ⟨p, vs, sj, hp, _⟩ := R.own ej
      refine ⟨_, sj, .inl ⟨rfl, vs, SqL.of hp⟩, w, env, g, [d], g', R, ?_, fun us I' H' s' R' ra => ?_⟩
      · show bD (me env g) (fun x g1 => bD (mNil env g1) fun xs g2 => some (x :: xs, g2)) = some ([d], g')
        rw [e1]; rfl
      · cases ra with
        | cons r q =>
          cases q
          obtain ⟨p', us, sj', hp', hi, h0, hf, rb, hy⟩ := R'.own ej
          rw [sj] at sj'
          cases sj'
          refine ⟨p, us, _, rfl, rfl, hp', by rw [rb.len]; exact hz, ?_⟩
          exact k σ I' _ s' (R'.setOw ej sj hp' hi h0 hf (rb.append (.one r)) (by rw [List.length_append, List.length_singleton]; omega))
    · cases e
  · cases e
theorem ds_append (j : Nat) {x : Str} {xp ap cp : Pos} (he : DE X S e me) (hN : X.N[j]? = some x := by rfl) (hv : Vis X.env.scope x := by first | exact Or.inl rfl | exact Or.inr (Or.inl rfl) | exact Or.inr (Or.inr rfl)) (hd : (x == ("__debug__" : Str)) = false := by decide)
    (hcd : (x == ("__classdict__" : Str)) = false := by decide)
    (hbase : attributeBase (.Name x xp) "append" X.env (eval (.Name x xp) X.env) = eval (.Name x xp) X.env := by rfl)
    (hfew : ((backTo cp (starEach [e] X.env)).all (fun x => !x.1) && (backToKw cp (keywordEach [] X.env)).all (fun x => x.1.isSome)
      && decide ([e].length + ([] : List Keyword).length + (if ([] : List Keyword).isEmpty then 0 else 1) < 30)) = true := by rfl)
    (hline : (ap.endLine == cp.line) = true := by rfl) (hs : starEach [e] X.env = (false, eval e X.env) :: starEach [] X.env := by rfl) (hplain : (backTo cp (starEach [] X.env)).any (·.1) = false := by rfl)
    (hsw : swapsWith (.Call (.Attribute (.Name x xp) "append" ap) [e] [] cp) none pos.line X.env = pure false := by rfl) :
    DS X S (.Expr (.Call (.Attribute (.Name x xp) "append" ap) [e] [] cp) pos) (mApp j me) :=
  PS.imp (ps_expr (pe_bm PySem.F.plainAttrs_list PySem.F.slot_list_append PySem.F.type_list_append mt_append (pe_var hN hv hd hcd) (da_cons (S := S) he da_nil hs) hbase hfew hline hs hplain) hsw) fun _ _ _ h => ts_app h
/-- x[i] = e -/
def mSetIx (j : Nat) (mi me : ME G) : MS G := fun env g => bD (me env g) fun d g1 => bD (mi env g1) fun i g2 => match env.at j, i with
  | .ow ds, .int i => (ixN ds.length i).map fun k => (.nx, env.set j (.ow (ds.set k d)), g2)
  | _, _ => none
theorem ts_setIx {j : Nat} {mi : ME G} {D : Ends} (h : tS K S (mSetIx j mi me) D σ H) : tAsg (tE K S me) (gSub (tVar j) (tE K S mi) rSetL) D σ H := by
  obtain ⟨w, env, g, c, env', g', R, e, k⟩ := h
  obtain ⟨d, g1, e1, e⟩ := bD_some e
  obtain ⟨i, g2, e2, e⟩ := bD_some e
  split at e
  · rename_i ds i ej
    obtain ⟨n, en, e⟩ := Option.map_eq_some_iff.mp e
    cases e
    refine ⟨w, env, g, d, g1, R, e1, fun v I1 H1 s1 R1 p1 => ?_⟩
    obtain ⟨p, vs, sj, hp, _⟩ := R1.own ej
    refine ⟨_, sj, w.im I1, env, g1, _, g', R1, e2, fun u I2 H2 s2 R2 p2 => ?_⟩
    cases p2
    obtain ⟨p', us, sj', hp', hi, h0, hf, rb, hy⟩ := R2.own ej
    rw [sj] at sj'
    cases sj'
    refine ⟨p, us, i, n, rfl, rfl, hp', by rw [rb.len]; exact en, ?_⟩
    exact k σ I2 _ (s1.trans s2) (R2.setOw ej sj hp' hi h0 hf (rb.set (p1.mono s2) n) (by rw [List.length_set]; exact hy))
  · cases e
theorem ds_setIx (j : Nat) {x : Str} {xp sp : Pos} {i : Expr} {mi : ME G} (hi : DE X S i mi) (he : DE X S e me) (hN : X.N[j]? = some x := by rfl) (hv : Vis X.env.scope x := by first | exact Or.inl rfl | exact Or.inr (Or.inl rfl) | exact Or.inr (Or.inr rfl)) (hd : (x == ("__debug__" : Str)) = false := by decide)
    (hcd : (x == ("__classdict__" : Str)) = false := by decide)
    (ha : ∀ v, assign (.Subscript (.Name x xp) i sp) X.env v = (do
      let ov ← holding [v] (eval (.Name x xp) X.env)
      let iv ← holding [v, ov] (eval i X.env)
      standAt sp
      holding [v, ov, iv] (setItem ov iv v)
      release [v, ov, iv] []) := by intro _; rfl)
    (hs : swapsWithSole [.Subscript (.Name x xp) i sp] e pos.line X.env = pure false := by rfl) (hw : swappedStores [.Subscript (.Name x xp) i sp] e X.env = pure none := by rfl)
    (h1 : (assignEach [.Subscript (.Name x xp) i sp] X.env).map (·.2) = [assign (.Subscript (.Name x xp) i sp) X.env] := by rfl) :
    DS X S (.Assign [.Subscript (.Name x xp) i sp] e pos) (mSetIx j mi me) := PS.imp (ps_asg he (pg_sub (pe_var hN hv hd hcd) hi set_list ha) hs hw h1) fun _ _ _ h => ts_setIx h
/-- x.extend(e), e a list that stands -/
def mExt (j : Nat) (me : ME G) : MS G := fun env g => bD (me env g) fun d g1 => match env.at j, d with
  | .ow ds, .list es => if ds.length + es.length ≤ sizeLine then some (.nx, env.set j (.ow (ds ++ es)), g1) else none
  | _, _ => none
theorem ts_ext {j : Nat} {D : Ends} (h : tS K S (mExt j me) D σ H) : tDrop (tBM K "list" rExtend (tVar j) (tA K S (mCons me mNil))) D σ H := by
  obtain ⟨w, env, g, c, env', g', R, e, k⟩ := h
  obtain ⟨d, g1, e1, e⟩ := bD_some e
  split at e
  · rename_i ds es ej
    split at e
    · rename_i hz
      cases e
      obtain ⟨p, vs, sj, hp, _⟩ := R.own ej
      refine ⟨_, sj, .inl ⟨rfl, vs, SqL.of hp⟩, w, env, g, [.list es], g', R, ?_, fun us I' H' s' R' ra => ?_⟩
      · show bD (me env g) (fun x g1 => bD (mNil env g1) fun xs g2 => some (x :: xs, g2)) = some ([.list es], g')
        rw [e1]; rfl
      · cases ra with
        | cons r q =>
          cases q
          obtain ⟨p', us, sj', hp', hi, h0, hf, rb, hy⟩ := R'.own ej
          rw [sj] at sj'
          cases sj'
          cases r with
          | lst hq rc hx =>
            refine ⟨p, _, us, _, rfl, rfl, hp', R'.eI _ _ hq, by rw [rb.len, rc.len]; exact hz, ?_⟩
            exact k σ I' _ s' (R'.setOw ej sj hp' hi h0 hf (rb.append rc) (by rw [List.length_append]; exact hz))
    · cases e
  · cases e
theorem ds_extend (j : Nat) {x : Str} {xp ap cp : Pos} (he : DE X S e me) (hN : X.N[j]? = some x := by rfl) (hv : Vis X.env.scope x := by first | exact Or.inl rfl | exact Or.inr (Or.inl rfl) | exact Or.inr (Or.inr rfl)) (hd : (x == ("__debug__" : Str)) = false := by decide)
    (hcd : (x == ("__classdict__" : Str)) = false := by decide)
    (hbase : attributeBase (.Name x xp) "extend" X.env (eval (.Name x xp) X.env) = eval (.Name x xp) X.env := by rfl)
    (hfew : ((backTo cp (starEach [e] X.env)).all (fun x => !x.1) && (backToKw cp (keywordEach [] X.env)).all (fun x => x.1.isSome)
      && decide ([e].length + ([] : List Keyword).length + (if ([] : List Keyword).isEmpty then 0 else 1) < 30)) = true := by rfl)
    (hline : (ap.endLine == cp.line) = true := by rfl) (hs : starEach [e] X.env = (false, eval e X.env) :: starEach [] X.env := by rfl) (hplain : (backTo cp (starEach [] X.env)).any (·.1) = false := by rfl)
    (hsw : swapsWith (.Call (.Attribute (.Name x xp) "extend" ap) [e] [] cp) none pos.line X.env = pure false := by rfl) :
    DS X S (.Expr (.Call (.Attribute (.Name x xp) "extend" ap) [e] [] cp) pos) (mExt j me) :=
  PS.imp (ps_expr (pe_bm PySem.F.plainAttrs_list PySem.F.slot_list_extend PySem.F.type_list_extend mt_extend (pe_var hN hv hd hcd) (da_cons (S := S) he da_nil hs) hbase hfew hline hs hplain) hsw) fun _ _ _ h => ts_ext h

/-! ### lent for one look: the answer holds no list -/
def Env.lend (js : List Nat) (env : Env) : Env := js.foldl Env.frz env
theorem frz_at (env : Env) (j k : Nat) : (env.frz j).at k = env.at k ∨ ∃ ds, env.at k = .ow ds ∧ (env.frz j).at k = .sh (.list ds) := by
  unfold Env.frz
  split
  · rename_i ds e
    rw [at_set]
    by_cases z : k = j ∧ j < env.length
    · rw [if_pos z, z.1]
      exact .inr ⟨ds, e, rfl⟩
    · rw [if_neg z]; exact .inl rfl
  · exact .inl rfl
theorem lend_at : ∀ (js : List Nat) (env : Env) (k : Nat), (env.lend js).at k = env.at k ∨ ∃ ds, env.at k = .ow ds ∧ (env.lend js).at k = .sh (.list ds)
  | [], env, k => .inl rfl
  | j :: js, env, k => by
    show (Env.lend js (env.frz j)).at k = env.at k ∨ ∃ ds, env.at k = .ow ds ∧ (Env.lend js (env.frz j)).at k = .sh (.list ds)
    rcases lend_at js (env.frz j) k with h1 | ⟨ds, h1, h2⟩
    · rcases frz_at env j k with h | ⟨ds, h, h'⟩
      · exact .inl (h1.trans h)
      · exact .inr ⟨ds, h, h1.trans h'⟩
    · rcases frz_at env j k with h | ⟨es, h, h'⟩
      · exact .inr ⟨ds, h.symm.trans h1, h2⟩
      · rw [h'] at h1; cases h1
theorem Rel.lend : ∀ (js : List Nat) {w : Wd} {env : Env}, Rel K S w env g σ H → ∃ I', Same w.I I' ∧ Rel K S (w.im I') (env.lend js) g σ H
  | [], w, env, R => ⟨w.I, Same.refl _, R⟩
  | j :: js, w, env, R => by
    obtain ⟨I1, s1, R1⟩ := R.frz j
    obtain ⟨I2, s2, R2⟩ := Rel.lend js R1
    exact ⟨I2, s1.trans s2, R2⟩
def Env.noOw (env : Env) : Bool := (List.range env.length).all fun k => (env.at k).notOw
theorem noOw_at {env : Env} (h : env.noOw = true) (k : Nat) : (env.at k).notOw = true := by
  by_cases z : k < env.length
  · exact List.all_eq_true.mp h k (List.mem_range.mpr z)
  · show (env.getD k .un).notOw = true
    rw [List.getD_eq_getElem?_getD, List.getElem?_eq_none (by omega)]; rfl
theorem Rel.unlend {js : List Nat} {I1 I2 : Hp} (R : Rel K S w env g σ H) (RL : Rel K S (w.im I1) (env.lend js) g σ H) (R2 : Rel K S (w.im I2) (env.lend js) g' σ H') (s0 : Same w.I I1) (s : Same I1 I2) (no : (env.lend js).noOw = true) : Rel K S w env g' σ H' := by
  obtain ⟨q1, q2⟩ := R.keepS (w' := w) (H' := H') (Same.refl _) rfl fun k a f => by
    obtain ⟨a1, a2, a3, _⟩ := (R.slot k).fr f
    refine ⟨?_, a1, a2, a3⟩
    have n := noOw_at no k
    have q := R.slot k
    cases e : env.at k with
    | ow ds =>
      rw [e] at q f
      obtain ⟨p, vs, e1, hp, hi, h0, hf, r, z⟩ := q
      have f : σ[k]? = some (some (.ref a)) := f
      rw [e1] at f; cases f
      rcases lend_at js env k with h | ⟨es, h, h'⟩
      · rw [h, e] at n; cases n
      · have ql := RL.slot k
        rw [h'] at ql
        obtain ⟨v, f1, rp⟩ := ql
        rw [e1] at f1
        cases f1
        cases rp with
        | lst hq _ _ =>
          have hq1 := RL.eI _ _ hq
          rw [hp] at hq1
          cases hq1
          rw [hp]
          exact R2.eI _ _ (s _ _ hq)
    | tr t =>
      rcases lend_at js env k with h | ⟨es, h, h'⟩
      · rw [h, e] at n; cases n
      · rw [e] at h; cases h
    | _ => rw [e] at f; exact f.elim
  exact {
    e0 := R2.e0
    eI := s0.trans (s.trans R2.eI)
    ag := R.ag
    ge := R.ge
    gfp := R2.gfp
    grt := R2.grt
    gok := R2.gok
    fI := R.fI
    f0 := R.f0
    len := R.len
    slot := q1
    dis := q2 }
def scal0 : D → Bool
  | .none | .bool _ | .int _ | .str _ => true
  | _ => false
theorem scal0_rp {I J : Hp} {v : V} {d : D} (h : Rp K I v d) (z : scal0 d = true) : Rp K J v d := by
  cases h with
  | non => exact .non
  | bl b => exact .bl b
  | int i => exact .int i
  | str h => exact .str h
  | _ => cases z
def mLend (js : List Nat) (ma : ME G) : ME G := fun env g => if (env.lend js).noOw = true then bD (ma (env.lend js) g) fun d g1 => if scal0 d = true then some (d, g1) else none else none
def mLendT (js : List Nat) (mt : MT G) : MT G := fun env g => if (env.lend js).noOw = true then mt (env.lend js) g else none
theorem de_lend (js : List Nat) (h : DE X S e ma) : DE X S e (mLend js ma) := PE.imp h fun σ H Q ⟨w, env, g, d, g', R, e, k⟩ => by
  unfold mLend at e
  split at e
  case isFalse => cases e
  rename_i no
  obtain ⟨x, g1, e1, e⟩ := bD_some e
  split at e
  case isFalse => cases e
  rename_i sc
  cases e
  obtain ⟨I1, s1, RL⟩ := R.lend js
  exact ⟨w.im I1, env.lend js, g, d, g', RL, e1, fun v I' H' s' R' p => k v w.I H' (Same.refl _) (R.unlend RL R' s1 s' no) (scal0_rp p sc)⟩
theorem dt_lend (js : List Nat) (h : DT X S e mt) : DT X S e (mLendT js mt) := PT.imp h fun σ H Q ⟨w, env, g, d, g', R, e, k⟩ => by
  unfold mLendT at e
  split at e
  case isFalse => cases e
  rename_i no
  obtain ⟨I1, s1, RL⟩ := R.lend js
  exact ⟨w.im I1, env.lend js, g, d, g', RL, e, fun I' H' s' R' => k w.I H' (Same.refl _) (R.unlend RL R' s1 s' no)⟩
/-- x[i], x a list of one's own -/
def mIxOw (j : Nat) (mi : ME G) : ME G := fun env g => bD (mi env g) fun i g1 => match env.at j, i with
  | .ow ds, .int i => (atI ds i).map (·, g1)
  | _, _ => none
theorem de_ixOw (j : Nat) {x : Str} {xp : Pos} {i : Expr} {mi : ME G} (hi : DE X S i mi) (hN : X.N[j]? = some x := by rfl) (hv : Vis X.env.scope x := by first | exact Or.inl rfl | exact Or.inr (Or.inl rfl) | exact Or.inr (Or.inr rfl)) (hd : (x == ("__debug__" : Str)) = false := by decide)
    (hcd : (x == ("__classdict__" : Str)) = false := by decide) (hs : PlainIx i := by exact fun _ _ => rfl) : DE X S (.Subscript (.Name x xp) i pos) (mIxOw j mi) := PE.imp (pe_ix ix_list (pe_var hN hv hd hcd) hi hs) fun σ H Q ⟨w, env, g, d, g', R, e, k⟩ => by
  obtain ⟨i, g1, e1, e⟩ := bD_some e
  split at e
  · rename_i ds i ej
    obtain ⟨e3, rfl⟩ := map_some e
    obtain ⟨p, vs, sj, hp, _⟩ := R.own ej
    refine ⟨_, sj, w, env, g, _, g', R, e1, fun u I2 H2 s2 R2 p2 => ?_⟩
    cases p2
    obtain ⟨p', us, sj', hp', _, _, _, rb, _⟩ := R2.own ej
    rw [sj] at sj'
    cases sj'
    obtain ⟨v, e4, r⟩ := atI_rp rb e3
    exact ⟨p, us, i, v, rfl, rfl, SqL.of hp', e4, k v I2 H2 s2 R2 r⟩
  · cases e
/-- xs + ys, a new list -/
def mCat (ma mb : ME G) : ML G := fun env g => bD (ma env g) fun x g1 => bD (mb env g1) fun y g2 => match x, y with
  | .list xs, .list ys => if xs.length + ys.length ≤ sizeLine then some (xs ++ ys, g2) else none
  | _, _ => none
theorem df_cat (ha : DE X S a ma) (hb : DE X S b mb) : DF X S (.BinOp a .Add b pos) (mCat ma mb) := PE.imp (pe_op op_cat ha hb) fun σ H Q ⟨w, env, g, d, g', R, e, k⟩ => by
  obtain ⟨x, g1, e1, e⟩ := bD_some e
  obtain ⟨y, g2, e2, e⟩ := bD_some e
  split at e
  · rename_i xs ys
    split at e
    · rename_i hz
      cases e
      refine ⟨w, env, g, _, g1, R, e1, fun v I1 H1 s1 R1 p1 => ⟨w.im I1, env, g1, _, g', R1, e2, fun u I2 H2 s2 R2 p2 => ?_⟩⟩
      have s2 : Same I1 I2 := s2
      cases p1 with
      | lst hp ra _ =>
        cases p2 with
        | lst hq rb _ =>
          exact ⟨_, _, _, _, rfl, rfl, R2.eI _ _ (s2 _ _ hp), R2.eI _ _ hq, by rw [ra.len, rb.len]; exact hz, fun p h0 => k p _ I2 _ (s1.trans s2) (R2.alloc h0) (R2.nob h0) upd_same ((ra.mono s2).append rb) (by rw [List.length_append]; exact hz)⟩
    · cases e
  · cases e
def mCatOw (j : Nat) (mb : ME G) : ML G := fun env g => bD (mb env g) fun y g2 => match env.at j, y with
  | .ow xs, .list ys => if xs.length + ys.length ≤ sizeLine then some (xs ++ ys, g2) else none
  | _, _ => none
theorem df_catOw (j : Nat) {x : Str} {xp : Pos} (hb : DE X S b mb) (hN : X.N[j]? = some x := by rfl) (hv : Vis X.env.scope x := by first | exact Or.inl rfl | exact Or.inr (Or.inl rfl) | exact Or.inr (Or.inr rfl)) (hd : (x == ("__debug__" : Str)) = false := by decide)
    (hcd : (x == ("__classdict__" : Str)) = false := by decide) : DF X S (.BinOp (.Name x xp) .Add b pos) (mCatOw j mb) := PE.imp (pe_op op_cat (pe_var hN hv hd hcd) hb) fun σ H Q ⟨w, env, g, d, g', R, e, k⟩ => by
  obtain ⟨y, g2, e2, e⟩ := bD_some e
  split at e
  · rename_i xs ys ej
    split at e
    · rename_i hz
      cases e
      obtain ⟨p, vs, sj, hp, _⟩ := R.own ej
      refine ⟨_, sj, w, env, g, _, g', R, e2, fun u I2 H2 s2 R2 p2 => ?_⟩
      obtain ⟨p', us, sj', hp', _, _, _, ra, _⟩ := R2.own ej
      rw [sj] at sj'
      cases sj'
      cases p2 with
      | lst hq rb _ =>
        exact ⟨_, _, _, _, rfl, rfl, hp', R2.eI _ _ hq, by rw [ra.len, rb.len]; exact hz, fun p h0 => k p _ I2 _ s2 (R2.alloc h0) (R2.nob h0) upd_same (ra.append rb) (by rw [List.length_append]; exact hz)⟩
    · cases e
  · cases e
/-- xs * n -/
def mRep (ma mb : ME G) : ML G := fun env g => bD (ma env g) fun x g1 => bD (mb env g1) fun y g2 => match x, y with
  | .list xs, .int k => if -(2 ^ 63) ≤ k ∧ k < 2 ^ 63 ∧ xs.length * k.toNat ≤ sizeLine then some ((List.replicate k.toNat xs).flatten, g2) else none
  | _, _ => none
theorem df_rep (ha : DE X S a ma) (hb : DE X S b mb) : DF X S (.BinOp a .Mult b pos) (mRep ma mb) := PE.imp (pe_op op_rep ha hb) fun σ H Q ⟨w, env, g, d, g', R, e, k⟩ => by
  obtain ⟨x, g1, e1, e⟩ := bD_some e
  obtain ⟨y, g2, e2, e⟩ := bD_some e
  split at e
  · rename_i xs n
    split at e
    · rename_i hz
      cases e
      refine ⟨w, env, g, _, g1, R, e1, fun v I1 H1 s1 R1 p1 => ⟨w.im I1, env, g1, _, g', R1, e2, fun u I2 H2 s2 R2 p2 => ?_⟩⟩
      have s2 : Same I1 I2 := s2
      cases p1 with
      | lst hp ra _ =>
        cases p2
        refine ⟨_, _, _, rfl, rfl, R2.eI _ _ (s2 _ _ hp), hz.1, hz.2.1, by rw [ra.len]; exact hz.2.2, fun p h0 => k p _ I2 _ (s1.trans s2) (R2.alloc h0) (R2.nob h0) upd_same ((ra.mono s2).flatRep _) ?_⟩
        rw [List.length_flatten, List.map_replicate, List.sum_replicate_nat, Nat.mul_comm]
        exact hz.2.2
    · cases e
  · cases e
end
end Pd

/-! Pd: defs. -/
namespace Pd
open PySem PySem.Spec L2
section
variable {G : Type} {X : Cx} {S : Gs G} {m : MS G}
variable {K : PySem.W.Frag} {w : Wd} {env env' : Env} {g g' : G} {σ : St} {H H' I I' : Hp}

def startE (N : Nat) (as : List SV) : Env := as ++ List.replicate (N - as.length) .un
/-- a def's run: N slots, n parameters -/
def runS (N n : Nat) (m : MS G) (as : List SV) (g : G) : Option (Ct × G) := if as.length = n ∧ n ≤ N then match m (startE N as) g with
  | some (.re d, _, g1) => some (.re d, g1)
  | some (.rl ds, _, g1) => some (.rl ds, g1)
  | some (.nx, _, g1) => some (.re .none, g1)
  | _ => none
  else none
def Ct.data : Ct → Option D
  | .re d => some d
  | .rl ds => some (.list ds)
  | _ => none
def Ct.fresh : Ct → Option (List D)
  | .rl ds => some ds
  | _ => none
def runP (N n : Nat) (m : MS Unit) (ds : List D) : Option D := (runS N n m (ds.map .sh) ()).bind fun c => c.1.data
def runN (N n : Nat) (m : MS Unit) (ds : List D) : Option (List D) := (runS N n m (ds.map .sh) ()).bind fun c => c.1.fresh
def runG (N n : Nat) (m : MS G) (as : List SV) (g : G) : Option (D × G) := (runS N n m as g).bind fun c => c.1.data.map (·, c.2)

/-- the frame at a def's entry -/
theorem start_slot {w : Wd} {rt : V} {N : List Str} {vs : List V} {as : List SV} (hrt : w.rt = rt) (ha : ArgsOk K w.I rt vs as) (hl : as.length ≤ N.length) : ∀ i, SlotOk K w (start N vs) H i ((startE N.length as).at i) ∧ ∀ a, ¬ fpt H (start N vs) i ((startE N.length as).at i) a := by
  have key : ∀ {vs : List V} {as : List SV}, ArgsOk K w.I rt vs as → ∀ (n i : Nat), SlotOk K w (vs.map some ++ List.replicate n none) H i (Env.at (as ++ List.replicate n .un) i) ∧ ∀ a, ¬ fpt H (vs.map some ++ List.replicate n none) i (Env.at (as ++ List.replicate n .un) i) a := by
    intro vs as h
    induction h with
    | nil =>
      intro n i
      have e : Env.at ([] ++ List.replicate n SV.un) i = .un := by
        show ([] ++ List.replicate n SV.un).getD i .un = .un
        rw [List.nil_append, List.getD_eq_getElem?_getD, List.getElem?_replicate]
        split <;> rfl
      rw [e]
      exact ⟨trivial, fun a z => z⟩
    | @cons v vs a as ha _ ih =>
      intro n i
      cases i with
      | zero =>
        show SlotOk K w (some v :: _) H 0 a ∧ ∀ b, ¬ fpt H (some v :: _) 0 a b
        cases a with
        | un => exact ha.elim
        | ow ds => exact ha.elim
        | tr t => exact ha.elim
        | sh d => exact ⟨⟨v, rfl, ha⟩, fun a z => z⟩
        | kd d => exact ⟨⟨v, rfl, ha⟩, fun a z => z⟩
        | fz d => exact ⟨⟨v, rfl, ha⟩, fun a z => z⟩
        | fl d => exact ⟨⟨v, rfl, ha⟩, fun a z => z⟩
        | st => exact ⟨(show some (some v) = some (some w.rt) by rw [hrt]; exact congrArg (fun x => some (some x)) ha), fun a z => z⟩
        | raw u => exact ⟨(show some (some v) = some (some u) from congrArg (fun x => some (some x)) ha), fun a z => z⟩
      | succ i =>
        have q := ih n i
        have e : Env.at ((a :: as) ++ List.replicate n .un) (i + 1) = Env.at (as ++ List.replicate n .un) i := rfl
        rw [e]
        exact ⟨q.1.of_eq' rfl, fun a f => q.2 a (fpt_eq (i := i) (k := i + 1) rfl f)⟩
  intro i
  have hv := ha.len
  have q := key ha (N.length - as.length) i
  unfold L2.start startE
  rw [hv]
  exact q
theorem start_rel {rt : V} {N : List Str} {vs : List V} {as : List SV} (w : Wd) (hrt : w.rt = rt) (ha : ArgsOk K w.I rt vs as) (hl : as.length ≤ N.length)
    (e0 : Same w.H0 H) (eI : Same w.I H) (ag : ∀ a o, w.H0 a = some o → w.I a = w.I0 a) (ge : Same w.I0 w.I) (gfp : ∀ a, S.fp g a ↔ w.fp a) (grt : S.root g = w.rt) (gok : S.ok g H) (fI : ∀ a, w.fp a → w.I a = none) (f0 : ∀ a, w.fp a → w.H0 a = none) :
    Rel K S w (startE N.length as) g (start N vs) H where
  e0 := e0
  eI := eI
  ag := ag
  ge := ge
  gfp := gfp
  grt := grt
  gok := gok
  fI := fI
  f0 := f0
  len := by
    unfold L2.start startE
    rw [List.length_append, List.length_append, List.length_map, List.length_replicate, List.length_replicate, ha.len]
  slot := fun i => (start_slot hrt ha hl i).1
  dis := fun i j a _ f1 => absurd f1 ((start_slot (H := H) hrt ha hl i).2 a)
theorem ArgsOk.of_rp {rt : V} : ∀ {vs : List V} {ds : List D}, RpA K I vs ds → ArgsOk K I rt vs (ds.map .sh)
  | _, _, .nil => .nil
  | _, _, .cons a b => .cons a (ArgsOk.of_rp b)
theorem runS_len {N n : Nat} {as : List SV} (r) (h : runS N n m as g = some r) : as.length = n ∧ n ≤ N := by
  unfold runS at h
  split at h
  · assumption
  · cases h
/-- what a def's end tells -/
def EndR (K : PySem.W.Frag) (S : Gs G) (w : Wd) (g' : G) (Q : VK) : Ct → Prop
  | .re d => ∀ v env' σ' I' H', Same w.I I' → Rel K S (w.im I') env' g' σ' H' → Rp K I' v d → Q v H'
  | .rl ds => ∀ p vs env' σ' I' H', Same w.I I' → Rel K S (w.im I') env' g' σ' H' → Nob (w.im I') env' σ' H' p → H' p = some (.lst vs) → RpA K I' vs ds → ds.length ≤ sizeLine → Q (.ref p) H'
  | _ => True
theorem run_body {N : List Str} {n : Nat} {as : List SV} {vs : List V} {w : Wd} {c : Ct} {Q : VK} (R : Rel K S w (startE N.length as) g (start N vs) H) (h : runS N.length n m as g = some (c, g')) (k : EndR K S w g' Q c) :
    tS K S m { nx := fun _ H' => Q .non H', rt := Q } (start N vs) H := by
  obtain ⟨hl, hn⟩ := runS_len _ h
  unfold runS at h
  rw [if_pos ⟨hl, hn⟩] at h
  split at h
  · rename_i d e1 g1 e
    cases h
    exact ⟨w, _, g, .re d, e1, g', R, e, fun v σ' I' H' s' R' p => k v e1 σ' I' H' s' R' p⟩
  · rename_i d e1 g1 e
    cases h
    exact ⟨w, _, g, .rl d, e1, g', R, e, fun p vs σ' I' H' s' R' n hp ra z => k p vs e1 σ' I' H' s' R' n hp ra z⟩
  · rename_i e1 g1 e
    cases h
    exact ⟨w, _, g, .nx, e1, g', R, e, fun σ' I' H' s' R' => k .non e1 σ' I' H' s' R' .non⟩
  · cases h
variable {P : Program} {wd : World} {mg : Str → Option Value} {base : Heap}
/-- a def's body as a term of rules, in any frame -/
abbrev Body (P : Program) (wd : World) (K : PySem.W.Frag) (mg : Str → Option Value) (base : Heap) (N : List Str) (qual : Str) (st : Stmt) (f : Addr) (k : Nat) (S : Gs G) (m : MS G) : Prop :=
  ∀ (cdv : Value) (A : Around) (outer : List PySem.Env) (s : Shared) (H : Hp) (E : XK), Room k (A.deeper (PyProof.Rows.envOfC qual (defScope st) s.heap.objs.size f cdv)) →
    PSs (cxOf CX0 P wd K mg base N qual (defScope st) f cdv A outer s H E).nox (defBody st) (tS K S m)
theorem fn_pure {x qual : Str} {st : Stmt} {f : Addr} {fd : FuncData} {N ps : List Str} {k : Nat} {m : MS Unit} (F : Fun K x qual st f fd) (Sc : FnScope N ps (defScope st)) (hb : Body P wd K mg base N qual st f k G0 m) :
    FnOk P wd K mg base CX0 (k + 1) f fd ps (spP K (runP N.length ps.length m)) := by
  refine F.ok Sc (fun vs H Q E h => ?_) (fun cdv A outer s H vs Q E hr h => ?_)
  · obtain ⟨I, ds, d, _, ra, e, _⟩ := h
    obtain ⟨c, e1, _⟩ := Option.bind_eq_some_iff.mp e
    have q := (runS_len (c.1, c.2) e1).1
    rw [List.length_map] at q
    rw [ra.len, q]
  · obtain ⟨I, ds, d, sI, ra, e, kk⟩ := h
    obtain ⟨⟨c, u⟩, e1, e2⟩ := Option.bind_eq_some_iff.mp e
    have hl := runS_len _ e1
    refine ⟨_, hb cdv A outer s H E hr, ?_⟩
    have R : Rel K G0 ⟨H, I, I, fun _ => False, .non⟩ (startE N.length (ds.map .sh)) () (start N vs) H :=
      start_rel (rt := .non) ⟨H, I, I, fun _ => False, .non⟩ rfl (ArgsOk.of_rp ra) (by rw [hl.1]; exact hl.2) (Same.refl _) sI (fun _ _ _ => rfl) (Same.refl _) (fun _ => Iff.rfl) rfl trivial (fun _ z => z.elim) (fun _ z => z.elim)
    refine run_body (c := c) (g' := u) R e1 ?_
    have fin : ∀ (env' : Env) σ' I' H', Same I I' → Rel K G0 (Wd.im ⟨H, I, I, fun _ => False, .non⟩ I') env' u σ' H' → Pst I H I' H' := fun env' σ' I' H' s' R' => ⟨s', R'.e0, R'.eI, fun a ha => by
      cases q : H a with
      | none => exact absurd q ha
      | some o => exact R'.ag a o q⟩
    cases c with
    | re d' =>
      cases e2
      exact fun v env' σ' I' H' s' R' p => kk v I' H' (fin env' σ' I' H' s' R') p
    | rl ds' =>
      cases e2
      refine fun p us env' σ' I' H' s' R' n hp rb z => ?_
      have R2 := R'.freeze n hp
      exact kk (.ref p) _ H' (fin env' σ' _ H' (Same.trans s' (same_new n.i)) R2) (.lst upd_same (rb.mono (same_new n.i)) z)
    | _ => cases e2
theorem fn_new {x qual : Str} {st : Stmt} {f : Addr} {fd : FuncData} {N ps : List Str} {k : Nat} {m : MS Unit} (F : Fun K x qual st f fd) (Sc : FnScope N ps (defScope st)) (hb : Body P wd K mg base N qual st f k G0 m) :
    FnOk P wd K mg base CX0 (k + 1) f fd ps (spN K (runN N.length ps.length m)) := by
  refine F.ok Sc (fun vs H Q E h => ?_) (fun cdv A outer s H vs Q E hr h => ?_)
  · obtain ⟨I, ds, d, _, ra, e, _⟩ := h
    obtain ⟨c, e1, _⟩ := Option.bind_eq_some_iff.mp e
    have q := (runS_len (c.1, c.2) e1).1
    rw [List.length_map] at q
    rw [ra.len, q]
  · obtain ⟨I, ds, d, sI, ra, e, kk⟩ := h
    obtain ⟨⟨c, u⟩, e1, e2⟩ := Option.bind_eq_some_iff.mp e
    have hl := runS_len _ e1
    refine ⟨_, hb cdv A outer s H E hr, ?_⟩
    have R : Rel K G0 ⟨H, I, I, fun _ => False, .non⟩ (startE N.length (ds.map .sh)) () (start N vs) H :=
      start_rel (rt := .non) ⟨H, I, I, fun _ => False, .non⟩ rfl (ArgsOk.of_rp ra) (by rw [hl.1]; exact hl.2) (Same.refl _) sI (fun _ _ _ => rfl) (Same.refl _) (fun _ => Iff.rfl) rfl trivial (fun _ z => z.elim) (fun _ z => z.elim)
    refine run_body (c := c) (g' := u) R e1 ?_
    cases c with
    | rl ds' =>
      cases e2
      refine fun p us env' σ' I' H' s' R' n hp rb z => kk p us I' H' ⟨s', R'.e0, R'.eI, fun a ha => ?_⟩ n.h0 n.i hp rb z
      cases q : H a with
      | none => exact absurd q ha
      | some o => exact R'.ag a o q
    | _ => cases e2
open Classical in
theorem fn_ghost {x qual : Str} {st : Stmt} {f : Addr} {fd : FuncData} {N ps : List Str} {k : Nat} {m : MS G} (F : Fun K x qual st f fd) (Sc : FnScope N ps (defScope st)) (hb : Body P wd K mg base N qual st f k S m) :
    FnOk P wd K mg base CX0 (k + 1) f fd ps (spG K S (runG N.length ps.length m)) := by
  refine F.ok Sc (fun vs H Q E h => ?_) (fun cdv A outer s H vs Q E hr h => ?_)
  · obtain ⟨I, g, as, d, g', _, _, _, ra, e, _⟩ := h
    obtain ⟨c, e1, _⟩ := Option.bind_eq_some_iff.mp e
    have q := (runS_len (c.1, c.2) e1).1
    rw [ra.len, q]
  · obtain ⟨I, g, as, d, g', sI, gok, fI, ra, e, kk⟩ := h
    obtain ⟨⟨c, g1⟩, e1, e2⟩ := Option.bind_eq_some_iff.mp e
    have hl := runS_len _ e1
    refine ⟨_, hb cdv A outer s H E hr, ?_⟩
    have h0 : Same (fun a => if S.fp g a then none else H a) H := fun a o q => by
      have q : (if S.fp g a then none else H a) = some o := q
      split at q
      · cases q
      · exact q
    have R : Rel K S ⟨fun a => if S.fp g a then none else H a, I, I, S.fp g, S.root g⟩ (startE N.length as) g (start N vs) H :=
      start_rel (rt := S.root g) ⟨fun a => if S.fp g a then none else H a, I, I, S.fp g, S.root g⟩ rfl ra (by rw [hl.1]; exact hl.2) h0 sI (fun _ _ _ => rfl) (Same.refl _) (fun _ => Iff.rfl) rfl gok fI (fun a z => if_pos z)
    refine run_body (c := c) (g' := g1) R e1 ?_
    have fin : ∀ (env' : Env) σ' I' H', Same I I' → Rel K S (Wd.im ⟨fun a => if S.fp g a then none else H a, I, I, S.fp g, S.root g⟩ I') env' g1 σ' H' → Gst S I H g I' H' g1 := fun env' σ' I' H' s' R' => {
      eI := s'
      eH := fun a o q nf => R'.e0 a o (show (if S.fp g a then none else H a) = some o by rw [if_neg nf]; exact q)
      sub := R'.eI
      ag := fun a ha => by
        by_cases z : S.fp g a
        · exact (R'.fI a z).trans (fI a z).symm
        · cases q : H a with
          | none => exact absurd q ha
          | some o => exact R'.ag a o (show (if S.fp g a then none else H a) = some o by rw [if_neg z]; exact q)
      fp' := R'.gfp
      rt := R'.grt
      ok := R'.gok }
    have e2 : (c.data).map (·, g1) = some (d, g') := e2
    cases c with
    | re d' =>
      cases e2
      exact fun v env' σ' I' H' s' R' p => kk v I' H' (fin env' σ' I' H' s' R') p
    | rl ds' =>
      cases e2
      refine fun p us env' σ' I' H' s' R' n hp rb z => ?_
      have R2 := R'.freeze n hp
      exact kk (.ref p) _ H' (fin env' σ' _ H' (Same.trans s' (same_new n.i)) R2) (.lst upd_same (rb.mono (same_new n.i)) z)
    | _ => cases e2
end
end Pd

/-! Pd: operations by values. -/
namespace Pd
open PySem PySem.Spec L2
section
variable {G : Type} {X : Cx} {S : Gs G} {K : PySem.W.Frag}

/-! ### ints -/
def dI (g : Int → Int → D) : D → D → Option D
  | .int i, .int j => some (g i j)
  | _, _ => none
def dIc (C : Int → Int → Prop) [∀ i j, Decidable (C i j)] (g : Int → Int → D) : D → D → Option D
  | .int i, .int j => if C i j then some (g i j) else none
  | _, _ => none
theorem od_I {gv : Int → Int → V} {g : Int → Int → D} (h : ∀ i j I, Rp K I (gv i j) (g i j)) : OpD K (rI0 gv) (dI g) := by
  intro I H x y d e z s p q hz Q k
  cases p with
  | int i =>
    cases q with
    | int j => cases hz; exact ⟨i, j, rfl, rfl, k _ I H (Pst.refl s) (h i j I)⟩
    | _ => cases hz
  | _ => cases hz
theorem od_Ic {C : Int → Int → Prop} [∀ i j, Decidable (C i j)] {gv : Int → Int → V} {g : Int → Int → D} (h : ∀ i j I, Rp K I (gv i j) (g i j)) : OpD K (rI C gv) (dIc C g) := by
  intro I H x y d e z s p q hz Q k
  cases p with
  | int i =>
    cases q with
    | int j =>
      have hz : (if C i j then some (g i j) else none) = some z := hz
      split at hz
      · rename_i hc
        cases hz
        exact ⟨i, j, rfl, rfl, hc, k _ I H (Pst.refl s) (h i j I)⟩
      · cases hz
    | _ => cases hz
  | _ => cases hz
instance (i j : Int) : Decidable (CMul i j) := by unfold CMul; exact inferInstance
instance (i j : Int) : Decidable (CDivN i j) := by unfold CDivN; exact inferInstance
instance (i j : Int) : Decidable (CPow i j) := by unfold CPow; exact inferInstance

/-! ### + -/
theorem sok_app {x y : Str} (hx : SOk x) (hy : SOk y) (hz : x.length + y.length ≤ sizeLine) : SOk (x ++ y) := by
  refine ⟨?_, ?_⟩
  · have e : (x ++ y).length = x.length + y.length := by
      show (x.cps ++ y.cps).size = x.cps.size + y.cps.size
      rw [Array.size_append]
    rw [e]; exact hz
  · have h1 := hx.2
    have h2 := hy.2
    simp only [PyData.canLay0] at h1 h2 ⊢
    unfold PyData.strOk at h1 h2 ⊢
    show (x.cps ++ y.cps).all _ = true
    rw [Array.all_append, h1, h2]
    rfl
def dAddS : D → D → Option D
  | .str x, .str y => if x.length + y.length ≤ sizeLine then some (.str (x ++ y)) else none
  | _, _ => none
def dAddT : D → D → Option D
  | .tuple xs, .tuple ys => if xs.length + ys.length ≤ sizeLine then some (.tuple (xs ++ ys)) else none
  | _, _ => none
def dAddL : D → D → Option D
  | .list xs, .list ys => if xs.length + ys.length ≤ sizeLine then some (.list (xs ++ ys)) else none
  | _, _ => none
theorem od_addS : OpD K (fun x y H Q => ∃ i j, x = .str i ∧ y = .str j ∧ i.length + j.length ≤ sizeLine ∧ Q (.str (i ++ j)) H) dAddS := by
  intro I H x y d e z s p q hz Q k
  cases p with
  | str hx =>
    cases q with
    | str hy =>
      have hz : (if _ then _ else none) = some z := hz
      split at hz
      · rename_i hc
        cases hz
        exact ⟨_, _, rfl, rfl, hc, k _ I H (Pst.refl s) (.str (sok_app hx hy hc))⟩
      · cases hz
    | _ => cases hz
  | _ => cases hz
theorem od_addT : OpD K (rCatA K) dAddT := by
  intro I H x y d e z s p q hz Q k
  cases p with
  | tup hp ra hl =>
    cases q with
    | tup hq rb hm =>
      have hz : (if _ then _ else none) = some z := hz
      split at hz
      · rename_i hc
        cases hz
        refine ⟨_, _, _, _, rfl, rfl, same_t s hp, same_t s hq, by rw [ra.len, rb.len]; exact hc, fun e => ?_, fun _ e => ?_, fun _ _ p h0 => ?_⟩
        · subst e
          cases ra
          exact k _ I H (Pst.refl s) (.tup hq rb hm)
        · subst e
          cases rb
          rw [List.append_nil] at k
          exact k _ I H (Pst.refl s) (.tup hp ra hl)
        · exact k _ _ _ (Pst.new s h0) (.tup (SqT.of upd_same) ((ra.append rb).mono (Pst.new s h0).eI) (by rw [List.length_append]; exact hc))
      · cases hz
    | _ => cases hz
  | _ => cases hz
theorem od_addL : OpD K rCat dAddL := by
  intro I H x y d e z s p q hz Q k
  cases p with
  | lst hp ra hl =>
    cases q with
    | lst hq rb hm =>
      have hz : (if _ then _ else none) = some z := hz
      split at hz
      · rename_i hc
        cases hz
        refine ⟨_, _, _, _, rfl, rfl, s _ _ hp, s _ _ hq, by rw [ra.len, rb.len]; exact hc, fun p h0 => ?_⟩
        exact k _ _ _ (Pst.new s h0) (.lst upd_same ((ra.append rb).mono (Pst.new s h0).eI) (by rw [List.length_append]; exact hc))
      · cases hz
    | _ => cases hz
  | _ => cases hz
def dAddI : D → D → Option D := dI fun i j => .int (i + j)
/-- + of ints, texts, tuples, lists -/
def dAdd (x y : D) : Option D := match x, y with
  | .int i, .int j => some (.int (i + j))
  | .str x, .str y => if x.length + y.length ≤ sizeLine then some (.str (x ++ y)) else none
  | .tuple xs, .tuple ys => if xs.length + ys.length ≤ sizeLine then some (.tuple (xs ++ ys)) else none
  | .list xs, .list ys => if xs.length + ys.length ≤ sizeLine then some (.list (xs ++ ys)) else none
  | _, _ => none
theorem OpD.imp {r : R2} {f f' : D → D → Option D} (h : OpD K r f) (e : ∀ x y z, f' x y = some z → f x y = some z) : OpD K r f' := by
  intro I H x y d e' z s p q hz Q k
  exact h s p q (e _ _ _ hz) k
abbrev rAddD (K : PySem.W.Frag) : R2 := fun x y H Q => rI0 (fun i j => .int (i + j)) x y H Q ∨ ((∃ i j, x = .str i ∧ y = .str j ∧ i.length + j.length ≤ sizeLine ∧ Q (.str (i ++ j)) H) ∨ (rCatA K x y H Q ∨ rCat x y H Q))
theorem op_addD : OpR X (binaryOp .Add) (rAddD X.K) := op_add.or (op_add_str.or (op_catA.or op_cat))
theorem od_addD : OpD K (rAddD K) dAdd := OpD.imp (OpD.or (od_I (g := fun i j => .int (i + j)) fun i j I => .int _) (OpD.or od_addS (OpD.or od_addT od_addL))) fun x y z h => by
  unfold dAdd at h
  split at h
  · exact h
  · split at h
    · rename_i hc
      simp only [dI, dAddS, if_pos hc]; exact h
    · cases h
  · split at h
    · rename_i hc
      simp only [dI, dAddS, dAddT, if_pos hc]; exact h
    · cases h
  · split at h
    · rename_i hc
      simp only [dI, dAddS, dAddT, dAddL, if_pos hc]; exact h
    · cases h
  · cases h
abbrev dSub : D → D → Option D := dI fun i j => .int (i - j)
theorem od_sub : OpD K (rI0 fun i j => .int (i - j)) dSub := od_I fun i j I => .int _
abbrev dMul : D → D → Option D := dIc CMul fun i j => .int (i * j)
theorem od_mul : OpD K (rI CMul fun i j => .int (i * j)) dMul := od_Ic fun i j I => .int _
abbrev dDiv : D → D → Option D := dIc CDivN fun i j => .int (i.fdiv j)
theorem od_div : OpD K (rI CDivN fun i j => .int (i.fdiv j)) dDiv := od_Ic fun i j I => .int _
abbrev dMod : D → D → Option D := dIc (fun _ j => j ≠ 0) fun i j => .int (i.fmod j)
theorem od_mod : OpD K (rI (fun _ j => j ≠ 0) fun i j => .int (i.fmod j)) dMod := od_Ic fun i j I => .int _
abbrev dPow : D → D → Option D := dIc CPow fun i j => .int (i ^ j.toNat)
theorem od_pow : OpD K (rI CPow fun i j => .int (i ^ j.toNat)) dPow := od_Ic fun i j I => .int _
abbrev dShl : D → D → Option D := dIc CPow fun i j => .int (i * 2 ^ j.toNat)
theorem od_shl : OpD K (rI CPow fun i j => .int (i * 2 ^ j.toNat)) dShl := od_Ic fun i j I => .int _
def dNeg : D → Option D
  | .int i => some (.int (-i))
  | _ => none
theorem ud_neg : UnD K (rU fun i => .int (-i)) dNeg := by
  intro I H x d z s p hz Q k
  cases p with
  | int i => cases hz; exact ⟨i, rfl, k _ I H (Pst.refl s) (.int _)⟩
  | _ => cases hz

/-! ### comparisons -/
abbrev dLtI : D → D → Option D := dI fun i j => .bool (decide (i < j))
theorem od_ltI : OpD K (rI0 fun i j => .bl (decide (i < j))) dLtI := od_I fun i j I => .bl _
abbrev dLeI : D → D → Option D := dI fun i j => .bool (decide (i ≤ j))
theorem od_leI : OpD K (rI0 fun i j => .bl (decide (i ≤ j))) dLeI := od_I fun i j I => .bl _
abbrev dGtI : D → D → Option D := dI fun i j => .bool (decide (j < i))
theorem od_gtI : OpD K (rI0 fun i j => .bl (decide (j < i))) dGtI := od_I fun i j I => .bl _
abbrev dGeI : D → D → Option D := dI fun i j => .bool (decide (j ≤ i))
theorem od_geI : OpD K (rI0 fun i j => .bl (decide (j ≤ i))) dGeI := od_I fun i j I => .bl _
def dEq (x y : D) : Option D := if x.depth ≤ 64 ∧ y.depth ≤ 64 then some (.bool (PyData.eqv x y)) else none
def dNe (x y : D) : Option D := if x.depth ≤ 64 ∧ y.depth ≤ 64 then some (.bool (!PyData.eqv x y)) else none
theorem shaped_of {I : Hp} {v : V} {d : D} (h : Rp K I v d) (hd : d.depth ≤ 64) : SeqAt.shaped d = true := by
  unfold SeqAt.shaped
  rw [h.lay, decide_eq_true hd]
  rfl
theorem od_eq : OpD K (rEqD K) dEq := by
  intro I H x y d e z s p q hz Q k
  unfold dEq at hz
  split at hz
  · rename_i hc
    cases hz
    exact ⟨d, e, (p.mono s).dp, (q.mono s).dp, shaped_of p hc.1, shaped_of q hc.2, k _ I H (Pst.refl s) (.bl _)⟩
  · cases hz
theorem od_ne : OpD K (rNeD K) dNe := by
  intro I H x y d e z s p q hz Q k
  unfold dNe at hz
  split at hz
  · rename_i hc
    cases hz
    exact ⟨d, e, (p.mono s).dp, (q.mono s).dp, shaped_of p hc.1, shaped_of q hc.2, k _ I H (Pst.refl s) (.bl _)⟩
  · cases hz
def isNone : D → Bool
  | .none => true
  | _ => false
def dIs : D → D → Option D
  | x, .none => some (.bool (isNone x))
  | _, _ => none
def dIsNot : D → D → Option D
  | x, .none => some (.bool (!isNone x))
  | _, _ => none
theorem isNone_rp {I : Hp} {v : V} {d : D} (h : Rp K I v d) : decide (v = .non) = isNone d := by
  cases h <;> simp [isNone]
theorem od_is : OpD K (fun x y H Q => y = .non ∧ Q (.bl (decide (x = .non))) H) dIs := by
  intro I H x y d e z s p q hz Q k
  cases q with
  | non => cases hz; exact ⟨rfl, by rw [isNone_rp p]; exact k _ I H (Pst.refl s) (.bl _)⟩
  | _ => cases hz
theorem od_isNot : OpD K (fun x y H Q => y = .non ∧ Q (.bl (!decide (x = .non))) H) dIsNot := by
  intro I H x y d e z s p q hz Q k
  cases q with
  | non => cases hz; exact ⟨rfl, by rw [isNone_rp p]; exact k _ I H (Pst.refl s) (.bl _)⟩
  | _ => cases hz
/-- in: a list of data, a tuple of flat data, one sign in a text -/
def flatD : D → Bool
  | .none | .bool _ | .int _ | .str _ => true
  | _ => false
theorem flat_rp {I : Hp} {v : V} {d : D} (h : Rp K I v d) : flatV v = flatD d := by cases h <;> rfl
theorem eqV_rp {I : Hp} {u v : V} {d e : D} (hu : Rp K I u d) (hv : Rp K I v e) (fd : flatD d = true) (fe : flatD e = true) : eqV u v = PyData.eqv d e := by
  cases hu <;> cases hv <;> first | (cases fd; done) | (cases fe; done) | (simp only [eqV, PyData.eqv])
theorem inV_rp {I : Hp} {x : V} {d : D} (hx : Rp K I x d) (fd : flatD d = true) : ∀ {vs : List V} {ds : List D}, RpA K I vs ds → ds.all flatD = true → inV x vs = ds.any fun e => PyData.eqv e d
  | _, _, .nil, _ => rfl
  | _, _, .cons (d := e) a b, h => by
    rw [List.all_cons, Bool.and_eq_true] at h
    show (eqV _ x || inV x _) = (PyData.eqv e d || _)
    rw [eqV_rp a hx h.1 fd, inV_rp hx fd b h.2]
theorem flats_rp {I : Hp} : ∀ {vs : List V} {ds : List D}, RpA K I vs ds → vs.all flatV = ds.all flatD
  | _, _, .nil => rfl
  | _, _, .cons a b => by rw [List.all_cons, List.all_cons, flat_rp a, flats_rp b]
def dInF (neg : Bool) : D → D → Option D
  | x, .list ds => if flatD x = true ∧ ds.all flatD = true then some (.bool (if neg then !ds.any (fun e => PyData.eqv e x) else ds.any fun e => PyData.eqv e x)) else none
  | x, .tuple ds => if flatD x = true ∧ ds.all flatD = true then some (.bool (if neg then !ds.any (fun e => PyData.eqv e x) else ds.any fun e => PyData.eqv e x)) else none
  | _, _ => none
theorem od_inF (neg : Bool) : OpD K (rIn K neg) (dInF neg) := by
  intro I H x y d e z s p q hz Q k
  cases q with
  | lst hq ra hl =>
    have hz : (if _ then _ else none) = some z := hz
    split at hz
    · rename_i hc
      cases hz
      refine ⟨_, _, rfl, .inl (SqL.of (s _ _ hq)), by rw [flat_rp p]; exact hc.1, by rw [flats_rp ra]; exact hc.2, ?_⟩
      rw [inV_rp p hc.1 ra hc.2]
      exact k _ I H (Pst.refl s) (.bl _)
    · cases hz
  | tup hq ra hl =>
    have hz : (if _ then _ else none) = some z := hz
    split at hz
    · rename_i hc
      cases hz
      refine ⟨_, _, rfl, .inr (same_t s hq), by rw [flat_rp p]; exact hc.1, by rw [flats_rp ra]; exact hc.2, ?_⟩
      rw [inV_rp p hc.1 ra hc.2]
      exact k _ I H (Pst.refl s) (.bl _)
    · cases hz
  | _ => cases hz
def dInS (neg : Bool) : D → D → Option D
  | .str ⟨cs⟩, .str z => match cs.toList with
    | [c] => some (.bool (if neg then !decide (c ∈ z.cps.toList) else decide (c ∈ z.cps.toList)))
    | _ => none
  | _, _ => none
theorem dInS_some {neg : Bool} {x y z : D} (h : dInS neg x y = some z) : ∃ c u, x = .str ⟨#[c]⟩ ∧ y = .str u ∧ z = .bool (if neg then !decide (c ∈ u.cps.toList) else decide (c ∈ u.cps.toList)) := by
  cases x with
  | str s =>
    obtain ⟨cs⟩ := s
    cases y with
    | str u =>
      have h : (match cs.toList with
        | [c] => some (PyData.bool (if neg then !decide (c ∈ u.cps.toList) else decide (c ∈ u.cps.toList)))
        | _ => none) = some z := h
      split at h
      · rename_i c ec
        cases h
        have e : cs = #[c] := by
          apply Array.ext'
          rw [ec]
        exact ⟨c, u, by rw [e], rfl, rfl⟩
      · cases h
    | _ => cases h
  | _ => cases h
theorem od_inS : OpD K (fun x y H Q => ∃ (c : Nat) (z : Str), x = .str ⟨#[c]⟩ ∧ y = .str z ∧ Q (.bl (decide (c ∈ z.cps.toList))) H) (dInS false) := by
  intro I H x y d e z s p q hz Q k
  obtain ⟨c, u, rfl, rfl, rfl⟩ := dInS_some hz
  cases p
  cases q
  exact ⟨c, u, rfl, rfl, k _ I H (Pst.refl s) (.bl _)⟩
theorem od_notInS : OpD K (fun x y H Q => ∃ (c : Nat) (z : Str), x = .str ⟨#[c]⟩ ∧ y = .str z ∧ Q (.bl (!decide (c ∈ z.cps.toList))) H) (dInS true) := by
  intro I H x y d e z s p q hz Q k
  obtain ⟨c, u, rfl, rfl, rfl⟩ := dInS_some hz
  cases p
  cases q
  exact ⟨c, u, rfl, rfl, k _ I H (Pst.refl s) (.bl _)⟩

/-! ### built-in functions -/
def dLen : List D → Option D
  | [.list ds] => some (.int ds.length)
  | [.tuple ds] => some (.int ds.length)
  | [.str x] => some (.int x.length)
  | _ => none
theorem cd_len : CallD K (fun xs H Q => ∃ x n, xs = [x] ∧ LenV K x H n ∧ Q (.int n) H) dLen := by
  intro I H xs ds z s p hz Q k
  cases p with
  | nil => cases hz
  | cons a b =>
    cases b with
    | cons _ _ => cases a <;> cases hz
    | nil =>
      cases a with
      | lst hp ra hl => cases hz; exact ⟨_, _, rfl, .inl ⟨_, SqL.of (s _ _ hp), ra.len.symm⟩, k _ I H (Pst.refl s) (.int _)⟩
      | tup hp ra hl => cases hz; exact ⟨_, _, rfl, .inr ⟨_, same_t s hp, ra.len.symm⟩, k _ I H (Pst.refl s) (.int _)⟩
      | str hx => cases hz; exact ⟨_, _, rfl, ⟨hx.1, rfl⟩, k _ I H (Pst.refl s) (.int _)⟩
      | _ => cases hz
def dAbs : List D → Option D
  | [.int i] => some (.int (if i < 0 then -i else i))
  | _ => none
theorem cd_abs : CallD K (fun xs H Q => ∃ i, xs = [.int i] ∧ Q (.int (if i < 0 then -i else i)) H) dAbs := by
  intro I H xs ds z s p hz Q k
  cases p with
  | nil => cases hz
  | cons a b =>
    cases b with
    | cons _ _ => cases a <;> cases hz
    | nil =>
      cases a with
      | int i => cases hz; exact ⟨i, rfl, k _ I H (Pst.refl s) (.int _)⟩
      | _ => cases hz
def dInt : List D → Option D
  | [.int i] => some (.int i)
  | [.bool b] => some (.int (if b then 1 else 0))
  | _ => none
theorem cd_int : CallD K (fun xs H Q => (∃ i, xs = [.int i] ∧ Q (.int i) H) ∨ ∃ k, xs = [.bl k] ∧ Q (.int (if k then 1 else 0)) H) dInt := by
  intro I H xs ds z s p hz Q k
  cases p with
  | nil => cases hz
  | cons a b =>
    cases b with
    | cons _ _ => cases a <;> cases hz
    | nil =>
      cases a with
      | int i => cases hz; exact .inl ⟨i, rfl, k _ I H (Pst.refl s) (.int _)⟩
      | bl i => cases hz; exact .inr ⟨i, rfl, k _ I H (Pst.refl s) (.int _)⟩
      | _ => cases hz
def dMax2 : List D → Option D
  | [.int i, .int j] => some (.int (if j > i then j else i))
  | _ => none
def dMin2 : List D → Option D
  | [.int i, .int j] => some (.int (if j < i then j else i))
  | _ => none
theorem rpa_two {I : Hp} {xs : List V} {i j : Int} (h : RpA K I xs [.int i, .int j]) : xs = [.int i, .int j] := by
  cases h with
  | cons a b => cases a; cases b with
    | cons a b => cases a; cases b; rfl
theorem cd_max2 : CallD K (fun xs H Q => ∃ i j, xs = [.int i, .int j] ∧ Q (.int (if j > i then j else i)) H) dMax2 := by
  intro I H xs ds z s p hz Q k
  unfold dMax2 at hz
  split at hz
  · cases hz; exact ⟨_, _, rpa_two p, k _ I H (Pst.refl s) (.int _)⟩
  · cases hz
theorem cd_min2 : CallD K (fun xs H Q => ∃ i j, xs = [.int i, .int j] ∧ Q (.int (if j < i then j else i)) H) dMin2 := by
  intro I H xs ds z s p hz Q k
  unfold dMin2 at hz
  split at hz
  · cases hz; exact ⟨_, _, rpa_two p, k _ I H (Pst.refl s) (.int _)⟩
  · cases hz
/-- list(x) -/
def dListOf : List D → Option (List D)
  | [.list ds] => some ds
  | [.tuple ds] => some ds
  | _ => none
theorem cf_list : CallF K (fun xs H Q => ∃ p ys, xs = [.ref p] ∧ (SqL K H p ys ∨ SqT K H p ys) ∧ ∀ l, H l = none → Q (.ref l) (upd H l (.lst ys))) dListOf := by
  intro I H xs ds zs s p hz Q k
  cases p with
  | nil => cases hz
  | cons a b =>
    cases b with
    | cons _ _ => cases a <;> cases hz
    | nil =>
      cases a with
      | lst hp ra hl => cases hz; exact ⟨_, _, rfl, .inl (SqL.of (s _ _ hp)), fun l h0 => k l _ _ h0 (same_new h0) upd_same ra hl⟩
      | tup hp ra hl => cases hz; exact ⟨_, _, rfl, .inr (same_t s hp), fun l h0 => k l _ _ h0 (same_new h0) upd_same ra hl⟩
      | _ => cases hz
def dTupleOf : List D → Option D
  | [.list ds] => some (.tuple ds)
  | [.tuple ds] => some (.tuple ds)
  | _ => none
theorem cd_tuple : CallD K (fun xs H Q => ∃ p ys, xs = [.ref p] ∧ ((SqL K H p ys ∧ ∀ l, H l = none → Q (.ref l) (upd H l (.tup ys))) ∨ (SqT K H p ys ∧ Q (.ref p) H))) dTupleOf := by
  intro I H xs ds zs s p hz Q k
  cases p with
  | nil => cases hz
  | cons a b =>
    cases b with
    | cons _ _ => cases a <;> cases hz
    | nil =>
      cases a with
      | lst hp ra hl =>
        cases hz
        exact ⟨_, _, rfl, .inl ⟨SqL.of (s _ _ hp), fun l h0 => by
          exact k _ _ _ (Pst.new s h0) (.tup (SqT.of upd_same) (ra.mono (Pst.new s h0).eI) hl)⟩⟩
      | tup hp ra hl => cases hz; exact ⟨_, _, rfl, .inr ⟨same_t s hp, k _ I H (Pst.refl s) (.tup hp ra hl)⟩⟩
      | _ => cases hz
def intsD : List D → Option (List Int)
  | [] => some []
  | .int i :: ds => (intsD ds).map (i :: ·)
  | _ => none
theorem intsD_some : ∀ {ds : List D} {ns : List Int}, intsD ds = some ns → ds = ns.map .int
  | [], _, h => by cases h; rfl
  | d :: ds, ns, h => by
    cases d with
    | int i =>
      obtain ⟨r, h1, rfl⟩ := Option.map_eq_some_iff.mp h
      rw [intsD_some h1]; rfl
    | _ => cases h
theorem intsD_map : ∀ ns : List Int, intsD (ns.map .int) = some ns
  | [] => rfl
  | n :: ns => by show (intsD (ns.map .int)).map (n :: ·) = _; rw [intsD_map ns]; rfl
def boolsD : List D → Option (List Bool)
  | [] => some []
  | .bool i :: ds => (boolsD ds).map (i :: ·)
  | _ => none
theorem boolsD_some : ∀ {ds : List D} {ns : List Bool}, boolsD ds = some ns → ds = ns.map .bool
  | [], _, h => by cases h; rfl
  | d :: ds, ns, h => by
    cases d with
    | bool i =>
      obtain ⟨r, h1, rfl⟩ := Option.map_eq_some_iff.mp h
      rw [boolsD_some h1]; rfl
    | _ => cases h
theorem boolsD_map : ∀ ns : List Bool, boolsD (ns.map .bool) = some ns
  | [] => rfl
  | n :: ns => by show (boolsD (ns.map .bool)).map (n :: ·) = _; rw [boolsD_map ns]; rfl
theorem RpA.bools {H : Hp} : ∀ {vs : List V} {ns : List Bool}, RpA K H vs (ns.map .bool) → vs = ns.map V.bl
  | _, [], h => by cases h; rfl
  | _, n :: ns, h => by
    cases h with
    | cons a b => cases a; rw [List.map_cons, ← RpA.bools b]
def dSum : List D → Option D
  | [.list ds] => (intsD ds).map fun ns => .int ns.sum
  | _ => none
theorem one_lst {I : Hp} {xs : List V} {ds : List D} (h : RpA K I xs [.list ds]) : ∃ p vs, xs = [.ref p] ∧ I p = some (.lst vs) ∧ RpA K I vs ds ∧ ds.length ≤ sizeLine := by
  cases h with
  | cons a b => cases b; cases a with
    | lst hp ra hl => exact ⟨_, _, rfl, hp, ra, hl⟩
theorem cd_sum : CallD K (rSum K) dSum := by
  intro I H xs ds z s p hz Q k
  unfold dSum at hz
  split at hz
  · obtain ⟨ns, e, rfl⟩ := Option.map_eq_some_iff.mp hz
    obtain ⟨a, vs, rfl, hp, ra, hl⟩ := one_lst p
    rw [intsD_some e] at ra
    rw [RpA.ints ra] at hp
    exact ⟨a, ns, rfl, SqL.of (s _ _ hp), k _ I H (Pst.refl s) (.int _)⟩
  · cases hz
def dAll : List D → Option D
  | [.list ds] => (boolsD ds).map fun ns => .bool (ns.all id)
  | _ => none
theorem cd_all : CallD K (rAll K) dAll := by
  intro I H xs ds z s p hz Q k
  unfold dAll at hz
  split at hz
  · obtain ⟨ns, e, rfl⟩ := Option.map_eq_some_iff.mp hz
    obtain ⟨a, vs, rfl, hp, ra, hl⟩ := one_lst p
    rw [boolsD_some e] at ra
    rw [RpA.bools ra] at hp
    exact ⟨a, ns, rfl, SqL.of (s _ _ hp), k _ I H (Pst.refl s) (.bl _)⟩
  · cases hz
def dAny : List D → Option D
  | [.list ds] => (boolsD ds).map fun ns => .bool (ns.any id)
  | _ => none
theorem cd_any : CallD K (rAny K) dAny := by
  intro I H xs ds z s p hz Q k
  unfold dAny at hz
  split at hz
  · obtain ⟨ns, e, rfl⟩ := Option.map_eq_some_iff.mp hz
    obtain ⟨a, vs, rfl, hp, ra, hl⟩ := one_lst p
    rw [boolsD_some e] at ra
    rw [RpA.bools ra] at hp
    exact ⟨a, ns, rfl, SqL.of (s _ _ hp), k _ I H (Pst.refl s) (.bl _)⟩
  · cases hz
end
end Pd

/-! Pd: order of data, isinstance, texts. -/
namespace PdLt
open PySem PySem.SeqAt
open SeqRoads2 MeetsSeq3 MeetsSeq2 MeetsSeq
open AutoSeq1 (wpAny_loadPart')
set_option autoImplicit false
/-- two tuples whose first items are unlike: these decide -/
theorem meets_first (p q : Addr) (us ws : Array Value) (c1 c2 : Nat) (e1 e2 : Option Addr) (z1 z2 : Array (Option Value)) (k : Bool) (hu : 0 < us.size) (hw : 0 < ws.size) : Meets (Builtin.«tuple.__lt__» ⟨[.ref p, .ref q], []⟩)
    (fun A R s => s.heap.get? p = some { cls := .type "tuple", dict := e1, data := .seq us c1, slots := z1 } ∧ s.heap.get? q = some { cls := .type "tuple", dict := e2, data := .seq ws c2, slots := z2 } ∧
      EqAt A.in1 s us[0] ws[0] false ∧ RcLt A.in1 s us[0] ws[0] k ∧ R (.ok (.ret (.bool k))) s) :=
  .of_wp fun prog w A R s h => by
    obtain ⟨hp, g, d, tk, os⟩ := s
    obtain ⟨ho, hq, hne, hlt, h⟩ := h
    have sub := AutoSeq1.sub_tuple_tuple
    have first : ∃ r, us.toList.zip ws.toList = (us[0], ws[0]) :: r := by
      obtain ⟨ul⟩ := us
      obtain ⟨wl⟩ := ws
      cases ul with
      | nil => simp at hu
      | cons x xs =>
        cases wl with
        | nil => simp at hw
        | cons y ys => exact ⟨xs.zip ys, by simp⟩
    obtain ⟨rs, first⟩ := first
    wp_walk using wpAny_loadPart' ho, wpAny_loadPart' hq, wpAny_forIn_list _ (fun rest b s' => b.1 = none ∧ s' = ⟨hp, g, d, tk, os⟩ ∧ rest = us.toList.zip ws.toList) _
    case turn =>
      rintro ⟨y, x⟩ rest b s' ⟨hb, rfl, hz⟩
      rw [first] at hz
      injection hz with hyx hrest
      injection hyx with hy hx
      subst hy hx
      refine wpAny_bind (hne prog w _ _ ?_)
      rw [if_pos (by rfl)]
      refine wpAny_bind (wpAny_rule (wpAny_bind (hlt prog w _ _ ?_)))
      wp_walk
      exact ⟨_, rfl, h⟩
    case fin =>
      rintro ⟨b1, b2⟩ s' ⟨hb, rfl, hz⟩
      rw [first] at hz
      cases hz
    case h =>
      exact ⟨rfl, rfl, rfl⟩
theorem rcLt_first {A : Around} {s : Shared} {p q : Addr} {us ws : Array Value} {k : Bool} (ho : s.heap.IsTuple p us) (hq : s.heap.IsTuple q ws) (hA : A.units < cLine) (hu : 0 < us.size) (hw : 0 < ws.size)
    (hne : EqAt A.in1 s us[0] ws[0] false) (hlt : RcLt A.in1 s us[0] ws[0] k) : RcLt A s (.ref p) (.ref q) k := fun prog w E Q h => by
  obtain ⟨⟨k1, dd, t1, sl⟩, ho, hc, n, hd⟩ := id ho
  obtain ⟨⟨k2, dd2, t2, sl2⟩, ho2, hc2, n2, hd2⟩ := id hq
  dsimp only at hc hd hc2 hd2
  subst hc; subst hd; subst hc2; subst hd2
  refine richCompare_meets_room (op := .Lt) ⟨_, ho, rfl⟩ ⟨_, ho2, rfl⟩ F.slot_tuple_lt F.entry_tuple_lt (F.args_tuple_lt_2 _ _) (meets_first p q us ws n n2 dd dd2 sl sl2 k hu hw) ⟨ho, ho2, hne, hlt, ?_⟩ hA
  exact ⟨(fun z => by cases z), h⟩
end PdLt

namespace Pd
open PySem PySem.Spec L2
section
variable {G : Type} {X : Cx} {S : Gs G} {K : PySem.W.Frag}
/-! ### < of data that is alike place by place; of tuples whose first items are unlike ints -/
def dLt (x y : D) : Option D := if x.depth ≤ 64 ∧ y.depth ≤ 64 ∧ PySem.W.alike x y = true ∧ isNone x = false then some (.bool (PySem.W.dataLt x y)) else match x, y with
  | .tuple (.int i :: _), .tuple (.int j :: _) => if i = j then none else some (.bool (decide (i < j)))
  | _, _ => none
def rLtD (K : PySem.W.Frag) : R2 := fun x y H Q => ∃ d e, Dp K H x d ∧ Dp K H y e ∧ ((d.depth ≤ 64 ∧ e.depth ≤ 64 ∧ PySem.W.alike d e = true ∧ isNone d = false ∧ Q (.bl (PySem.W.dataLt d e)) H) ∨
  ∃ i j r t, d = .tuple (.int i :: r) ∧ e = .tuple (.int j :: t) ∧ i ≠ j ∧ Q (.bl (decide (i < j))) H)
theorem reads_tup {h : Heap} {u : Value} {ds : List D} {as : List Addr} (r : Reads h u (.tuple ds) as) : ∃ (l : Addr) (vs : Array Value) (bs : List Addr), u = .ref l ∧ h.IsTuple l vs ∧ ReadsAll h vs.toList ds bs := by
  cases r with
  | tuple h1 h2 h3 h4 => exact ⟨_, _, _, rfl, ⟨_, h1, h2, _, h3⟩, h4⟩
theorem op_ltD (hu : X.A.units + 65 < cLine) : OpR X (compareOp .Lt) (rLtD X.K) := by
  intro pins s σ H x y v u Q I rx ry h
  obtain ⟨d, e, hd, he, h⟩ := h
  obtain ⟨as, r1⟩ := Dp.reads I d x v hd rx
  obtain ⟨bs, r2⟩ := Dp.reads I e y u he ry
  rcases h with ⟨d1, d2, al, nn, q⟩ | ⟨i, j, r, t, rfl, rfl, ne, q⟩
  · have nn' : d ≠ .none := fun z => by rw [z] at nn; cases nn
    have hm : min d.depth e.depth ≤ d.depth := Nat.min_le_left _ _
    exact PySem.W.rcLt_alike d e X.A s v u as bs r1 r2 al nn' (by omega) X.prog X.w _ _ ⟨.bl _, H, I, rfl, q⟩
  · obtain ⟨p, us, cs, rfl, t1, ra⟩ := reads_tup r1
    obtain ⟨q', ws, es, rfl, t2, rb⟩ := reads_tup r2
    obtain ⟨ul⟩ := us
    obtain ⟨wl⟩ := ws
    cases ra with
    | cons r1 ra =>
      cases rb with
      | cons r2 rb =>
        cases r1
        cases r2
        refine PdLt.rcLt_first (k := decide (i < j)) t1 t2 (by omega) (by simp) (by simp) ?_ ?_ X.prog X.w _ _ ⟨.bl _, H, I, rfl, q⟩
        · intro prog w E Q hq
          have e : (i == j) = false := beq_eq_false_iff_ne.mpr ne
          exact wpAny_eqBool_int (by rw [e]; exact hq)
        · intro prog w E Q hq
          exact P.lt_int hq
theorem od_lt : OpD K (rLtD K) dLt := by
  intro I H x y d e z s p q hz Q k
  unfold dLt at hz
  split at hz
  · rename_i hc
    cases hz
    exact ⟨d, e, (p.mono s).dp, (q.mono s).dp, .inl ⟨hc.1, hc.2.1, hc.2.2.1, hc.2.2.2, k _ I H (Pst.refl s) (.bl _)⟩⟩
  · split at hz
    · split at hz
      · cases hz
      · rename_i ne
        cases hz
        exact ⟨_, _, (p.mono s).dp, (q.mono s).dp, .inr ⟨_, _, _, _, rfl, rfl, ne, k _ I H (Pst.refl s) (.bl _)⟩⟩
    · cases hz
end
end Pd

/-! Pd: isinstance, texts. -/
namespace Pd
open PySem PySem.Spec L2
section
variable {G : Type} {X : Cx} {S : Gs G} {K : PySem.W.Frag} {a b c e : Expr} {es : List Expr} {pos : Pos} {ma mb me : ME G}
/-! ### isinstance -/
def tyN : D → String
  | .none => "NoneType"
  | .bool _ => "bool"
  | .int _ => "int"
  | .str _ => "str"
  | .list _ => "list"
  | .tuple _ => "tuple"
  | .dict _ => "dict"
theorem tyX_rp {I H : Hp} {v : V} {d : D} (s : Same I H) (h : Rp K I v d) : TyX K H v (.type (tyN d)) := by
  cases h with
  | non => exact .base .non
  | bl b => exact .base (.bl b)
  | int i => exact .base (.int i)
  | str h => exact .base (.str _)
  | lst hp _ _ => exact .base (.lst (s _ _ hp))
  | tup hp _ _ =>
    rcases hp with (hp | ⟨o, hp⟩) | ⟨o, its, n, hk, hc, _⟩
    · exact .base (.tup (s _ _ hp))
    · exact .fTuple (s _ _ hp)
    · exact .kTuple hk hc
/-- isinstance(e, T), T a built-in class: what it is, by the name of its class -/
def isTy (T : String) (d : D) : Option Bool := kitB (tyN d) T
def mIsi (T : String) (ma : ME G) : ME G := fun env g => bD (ma env g) fun d g1 => (isTy T d).map fun b => (.bool b, g1)
theorem de_isi {T : String} {x : Str} {p q : Pos} (hg : Gl X "isinstance") (hm : X.mg "isinstance" = none) (hgT : Gl X x) (hmT : X.mg x = none) (hvT : bootBuiltins x = some (.type T)) (ha : DE X S e ma)
    (hn : x ≠ "__name__" := by decide) (hd : (x == ("__debug__" : Str)) = false := by decide)
    (he : starEach [e, .Name x q] X.env = (false, eval e X.env) :: starEach [.Name x q] X.env := by rfl) (hs : starEach [.Name x q] X.env = (false, eval (.Name x q) X.env) :: starEach [] X.env := by rfl) (hpl : (backTo pos (starEach [.Name x q] X.env)).any (·.1) = false := by rfl) :
    DE X S (.Call (.Name "isinstance" p) [e, .Name x q] [] pos) (mIsi T ma) :=
  PE.imp (pe_callB call_isi hg hm (by decide +kernel) (pa_cons ha (pa_cons (pe_bltn (v := .ty T) hgT hmT hvT rfl hn hd) pa_nil hs) he) (by decide) (by decide) he hpl) fun σ H Q ⟨w, env, g, d, g', R, e, k⟩ => by
    obtain ⟨y, g1, e1, e⟩ := bD_some e
    obtain ⟨b, e2, e⟩ := Option.map_eq_some_iff.mp e
    cases e
    refine ⟨w, env, g, y, g', R, e1, fun v I' H' s' R' p => ?_⟩
    exact ⟨v, .ty T, .type (tyN y), .type T, b, rfl, .ty T, tyX_rp R'.eI p, kit_ty e2, k _ I' H' s' R' (.bl _)⟩
/-- isinstance(e, (S, T)) -/
def isTy2 (T U : String) (d : D) : Option Bool := match isTy T d with
  | some true => some true
  | some false => isTy U d
  | none => none
def mIsi2 (T U : String) (ma : ME G) : ME G := fun env g => bD (ma env g) fun d g1 => (isTy2 T U d).map fun b => (.bool b, g1)
theorem de_isi2 {T U : String} {x y : Str} {p q r tp : Pos} {kk : Nat} (hg : Gl X "isinstance") (hm : X.mg "isinstance" = none) (hgT : Gl X x) (hmT : X.mg x = none) (hvT : bootBuiltins x = some (.type T)) (hgU : Gl X y) (hmU : X.mg y = none) (hvU : bootBuiltins y = some (.type U)) (ha : DE X S e ma)
    (hn : x ≠ "__name__" := by decide) (hd : (x == ("__debug__" : Str)) = false := by decide) (hn2 : y ≠ "__name__" := by decide) (hd2 : (y == ("__debug__" : Str)) = false := by decide)
    (he : starEach [e, .Tuple [.Name x q, .Name y r] kk tp] X.env = (false, eval e X.env) :: starEach [.Tuple [.Name x q, .Name y r] kk tp] X.env := by rfl) (hs : starEach [.Tuple [.Name x q, .Name y r] kk tp] X.env = (false, eval (.Tuple [.Name x q, .Name y r] kk tp) X.env) :: starEach [] X.env := by rfl)
    (hs1 : starEach [.Name x q, .Name y r] X.env = (false, eval (.Name x q) X.env) :: starEach [.Name y r] X.env := by rfl) (hs2 : starEach [.Name y r] X.env = (false, eval (.Name y r) X.env) :: starEach [] X.env := by rfl)
    (hpl : (backTo pos (starEach [.Tuple [.Name x q, .Name y r] kk tp] X.env)).any (·.1) = false := by rfl) :
    DE X S (.Call (.Name "isinstance" p) [e, .Tuple [.Name x q, .Name y r] kk tp] [] pos) (mIsi2 T U ma) :=
  PE.imp (pe_callB call_isiT hg hm (by decide +kernel) (pa_cons ha (pa_cons (pe_tup (pa_cons (pe_bltn (v := .ty T) hgT hmT hvT rfl hn hd) (pa_cons (pe_bltn (v := .ty U) hgU hmU hvU rfl hn2 hd2) pa_nil hs2) hs1)) pa_nil hs) he) (by decide) (by decide) he hpl) fun σ H Q ⟨w, env, g, d, g', R, e, k⟩ => by
    obtain ⟨y, g1, e1, e⟩ := bD_some e
    obtain ⟨b, e2, e⟩ := Option.map_eq_some_iff.mp e
    cases e
    refine ⟨w, env, g, y, g', R, e1, fun v I' H' s' R' p => ⟨by show 2 ≤ sizeLine; decide, fun t ht => ?_⟩⟩
    refine ⟨v, t, [.ty T, .ty U], .type (tyN y), [.type T, .type U], b, rfl, upd_same, .cons (.ty T) (.cons (.ty U) .nil), tyX_rp (R'.eI.trans (same_new ht)) p, ?_, ?_⟩
    · unfold isTy2 at e2
      cases e3 : isTy T y with
      | none => rw [e3] at e2; cases e2
      | some c =>
        rw [e3] at e2
        cases c with
        | true => cases e2; exact kitAny_cons (kit_ty e3) (fun z => by cases z) fun _ => rfl
        | false =>
          refine kitAny_cons (kit_ty e3) (fun _ => ?_) (fun z => by cases z)
          have e2 : isTy U y = some b := e2
          unfold PySem.W.kitAny
          rw [show PySem.W.kitOne X.K (.type (tyN y)) (.type U) = some b from kit_ty e2]
          cases b <;> rfl
    · have ps := Pst.new (p := t) (o := HO.tup [V.ty T, V.ty U]) R'.eI ht
      exact k _ _ _ (Same.trans s' ps.eI) (R'.pst ps) (.bl _)

/-! ### methods of texts -/
def mM1 (f : D → D → Option D) (ma mb : ME G) : ME G := fun env g => bD (ma env g) fun x g1 => match x with
  | .str z => bD (mb env g1) fun y g2 => (f (.str z) y).map (·, g2)
  | _ => none
theorem te_m1 {r : V → List V → Hp → VK → Prop} {f : D → D → Option D} (hf : OpD X.K (fun x y H Q => r x [y] H Q) f) {σ : St} {H : Hp} {Q : VK} (h : tE X.K S (mM1 f ma mb) σ H Q) : tM1 r (tE X.K S ma) (tE X.K S mb) σ H Q := by
  obtain ⟨w, env, g, d, g', R, e, k⟩ := h
  obtain ⟨x, g1, e1, e⟩ := bD_some e
  split at e
  · obtain ⟨y, g2, e2, e⟩ := bD_some e
    obtain ⟨e3, rfl⟩ := map_some e
    refine ⟨w, env, g, _, g1, R, e1, fun v I1 H1 s1 R1 p1 => ?_⟩
    cases p1 with
    | str hx =>
      refine ⟨⟨_, rfl⟩, w.im I1, env, g1, y, g', R1, e2, fun u I2 H2 s2 R2 p2 => ?_⟩
      exact hf R2.eI (.str hx) p2 e3 fun v3 I3 H3 ps p3 => k v3 I3 H3 (s1.trans (Same.trans s2 ps.eI)) (R2.pst ps) p3
  · cases e
theorem mt_indexF : MtR X "str.index" (fun x xs H Q => ∃ (a b : Str) (i : Nat) (rest : List Nat), x = .str a ∧ xs = [.str b] ∧ Builtin.Str.occurrences a b 0 a.length 1 = i :: rest ∧ Q (.int (i : Nat)) H) := by
  intro pins s σ H x xs v us Q I rx rs h
  obtain ⟨a, b, i, rest, rfl, rfl, ho, q⟩ := h
  obtain ⟨t, rfl⟩ := rx
  cases rs with
  | cons r1 rs =>
    cases rs
    obtain ⟨u, rfl⟩ := r1
    exact PySem.SC.index ho ⟨.int (i : Nat), H, I.tok _, ⟨_, rfl⟩, q⟩
def dIndex : D → D → Option D
  | .str x, .str y => match Builtin.Str.occurrences x y 0 x.length 1 with
    | i :: _ => some (.int (i : Nat))
    | [] => none
  | _, _ => none
theorem od_index : OpD K (fun x y H Q => ∃ (a b : Str) (i : Nat) (rest : List Nat), x = .str a ∧ [y] = [.str b] ∧ Builtin.Str.occurrences a b 0 a.length 1 = i :: rest ∧ Q (.int (i : Nat)) H) dIndex := by
  intro I H x y d e z s p q hz Q k
  cases p with
  | str hx =>
    cases q with
    | str hy =>
      have hz : (match Builtin.Str.occurrences _ _ 0 _ 1 with
        | i :: _ => some (PyData.int (i : Nat))
        | [] => none) = some z := hz
      split at hz
      · rename_i i rest ho
        cases hz
        exact ⟨_, _, i, rest, rfl, rfl, ho, k _ I H (Pst.refl s) (.int _)⟩
      · cases hz
    | _ => cases hz
  | _ => cases hz
def strsD : List D → Option (List Str)
  | [] => some []
  | .str i :: ds => (strsD ds).map (i :: ·)
  | _ => none
theorem strsD_map : ∀ ns : List Str, strsD (ns.map .str) = some ns
  | [] => rfl
  | n :: ns => by show (strsD (ns.map .str)).map (n :: ·) = _; rw [strsD_map ns]; rfl
theorem strsD_some : ∀ {ds : List D} {ns : List Str}, strsD ds = some ns → ds = ns.map .str
  | [], _, h => by cases h; rfl
  | d :: ds, ns, h => by
    cases d with
    | str i =>
      obtain ⟨r, h1, rfl⟩ := Option.map_eq_some_iff.mp h
      rw [strsD_some h1]; rfl
    | _ => cases h
theorem RpA.strs {H : Hp} : ∀ {vs : List V} {ns : List Str}, RpA K H vs (ns.map .str) → vs = ns.map V.str ∧ ∀ n ∈ ns, SOk n
  | _, [], h => by cases h; exact ⟨rfl, fun _ h => nomatch h⟩
  | _, n :: ns, h => by
    cases h with
    | cons a b =>
      cases a with
      | str ha =>
        obtain ⟨h1, h2⟩ := RpA.strs b
        rw [List.map_cons, ← h1]
        refine ⟨rfl, fun m hm => ?_⟩
        rcases List.mem_cons.mp hm with e | e
        · rw [e]; exact ha
        · exact h2 m e
def dJoin : D → D → Option D
  | .str x, .list ds => (strsD ds).bind fun ys => if (ys.map (·.length)).sum + ys.length * x.length ≤ 16777216 ∧ x.length = 0 then some (.str ⟨((ys.map fun y => y.cps.toList).flatten).toArray⟩) else none
  | _, _ => none
theorem join_nil : ∀ {x : Str} {ys : List Str}, x.length = 0 → Txt.join x ys = ⟨((ys.map fun y => y.cps.toList).flatten).toArray⟩ := by
  intro x ys hx
  have hx' : TL.tl x = [] := by
    show x.cps.toList = []
    have : x.cps.size = 0 := hx
    apply List.eq_nil_of_length_eq_zero
    rw [Array.length_toList]; exact this
  have key : ∀ zs : List (List Nat), TL.joinL [] zs = zs.flatten := by
    intro zs
    induction zs with
    | nil => rfl
    | cons z zs ih =>
      cases zs with
      | nil => show z = z ++ []; rw [List.append_nil]
      | cons u us => show z ++ ([] ++ TL.joinL [] (u :: us)) = z ++ (u :: us).flatten; rw [ih]; rfl
  have h2 := TL.tl_join x ys
  rw [hx', key] at h2
  have h3 : (Txt.join x ys).cps.toList = (ys.map fun y => y.cps.toList).flatten := by
    rw [show Txt.join x ys = Str.join x ys from PySem.StrLaws.glued_eq_join x ys]
    exact h2
  cases e : Txt.join x ys with
  | mk cs =>
    rw [e] at h3
    congr
    apply Array.ext'
    rw [h3]
theorem sok_join {ys : List Str} (h : ∀ y ∈ ys, SOk y) (hz : (ys.map (·.length)).sum ≤ 16777216) : SOk ⟨((ys.map fun y => y.cps.toList).flatten).toArray⟩ := by
  refine ⟨?_, ?_⟩
  · show ((ys.map fun y => y.cps.toList).flatten).toArray.size ≤ sizeLine
    rw [List.size_toArray, List.length_flatten, List.map_map, line_val]
    have e : (ys.map (List.length ∘ fun y => y.cps.toList)) = ys.map (·.length) := by
      apply List.map_congr_left
      intro y _
      show y.cps.toList.length = y.cps.size
      rw [Array.length_toList]
    rw [e]; exact hz
  · simp only [PyData.canLay0]
    unfold PyData.strOk
    rw [Array.all_eq_true_iff_forall_mem]
    intro c hc
    have hc : c ∈ (ys.map fun y => y.cps.toList).flatten := by simpa using hc
    obtain ⟨l, hl, hcl⟩ := List.mem_flatten.mp hc
    obtain ⟨y, hy, rfl⟩ := List.mem_map.mp hl
    have h2 := (h y hy).2
    simp only [PyData.canLay0] at h2
    unfold PyData.strOk at h2
    rw [Array.all_eq_true_iff_forall_mem] at h2
    exact h2 c (by simpa using hcl)
theorem od_join : OpD K (fun x y H Q => ∃ a p, ∃ ys : List Str, x = .str a ∧ [y] = [.ref p] ∧ (SqL K H p (ys.map V.str) ∨ SqT K H p (ys.map V.str)) ∧ (ys.map (·.length)).sum + ys.length * a.length ≤ 16777216 ∧ Q (.str (Txt.join a ys)) H) dJoin := by
  intro I H x y d e z s p q hz Q k
  cases p with
  | str hx =>
    cases q with
    | lst hp ra hl =>
      have hz : (strsD _).bind _ = some z := hz
      obtain ⟨ys, e1, hz⟩ := Option.bind_eq_some_iff.mp hz
      split at hz
      · rename_i hc
        cases hz
        rw [strsD_some e1] at ra
        obtain ⟨f1, f2⟩ := RpA.strs ra
        rw [f1] at hp
        refine ⟨_, _, ys, rfl, rfl, .inl (SqL.of (s _ _ hp)), hc.1, ?_⟩
        rw [join_nil hc.2]
        exact k _ I H (Pst.refl s) (.str (sok_join f2 (by have := hc.1; omega)))
      · cases hz
    | _ => cases hz
  | _ => cases hz
theorem de_join {ap : Pos} (ho : DE X S a ma) (he : DE X S e me) (hs : starEach [e] X.env = [(false, eval e X.env)] := by rfl) (hbase : attributeBase a "join" X.env (eval a X.env) = eval a X.env := by rfl) (hline : (ap.endLine == pos.line) = true := by rfl) :
    DE X S (.Call (.Attribute a "join" ap) [e] [] pos) (mM1 dJoin ma me) := PE.imp (pe_join ho he hs hbase hline) fun _ _ _ h => te_m1 od_join h
theorem de_index {ap : Pos} (ho : DE X S a ma) (he : DE X S e me) (hs : starEach [e] X.env = [(false, eval e X.env)] := by rfl) (hbase : attributeBase a "index" X.env (eval a X.env) = eval a X.env := by rfl) (hline : (ap.endLine == pos.line) = true := by rfl) :
    DE X S (.Call (.Attribute a "index" ap) [e] [] pos) (mM1 dIndex ma me) := PE.imp (pe_m1 PySem.F.slot_str_index PySem.F.type_str_index mt_indexF ho he hs hbase hline) fun _ _ _ h => te_m1 od_index h
end
end Pd

/-! Pd: defs by name, constants; the law's list of draws. -/
namespace Pd
open PySem PySem.Spec L2
section
variable {G : Type} {X : Cx} {S : Gs G} {P : Program} {wd : World} {K : PySem.W.Frag} {mg : Str → Option Value} {base : Heap} {a b c e : Expr} {es : List Expr} {pos : Pos} {ma mb me : ME G} {ml : ML G}
/-- a def of the text, by its name -/
structure Dfn (K : PySem.W.Frag) (mg : Str → Option Value) (x qual : Str) (st : Stmt) (ps : List Str) : Prop where
  ex : ∃ f fd, Fun K x qual st f fd ∧ mg x = some (.ref f) ∧ Binds K fd ps []
/-- .. with its promise -/
structure Def1 (P : Program) (wd : World) (K : PySem.W.Frag) (mg : Str → Option Value) (base : Heap) (x : Str) (ps : List Str) (k : Nat) (sp : Sp) : Prop where
  ex : ∃ f fd, FnOk P wd K mg base CX0 k f fd ps sp ∧ mg x = some (.ref f) ∧ PySem.W.keepIn K (.ref f) = true ∧ Binds K fd ps []
theorem def_pure {x qual : Str} {st : Stmt} {N ps : List Str} {k : Nat} {m : MS Unit} (h : Dfn K mg x qual st ps) (Sc : FnScope N ps (defScope st)) (hb : ∀ f, Body P wd K mg base N qual st f k G0 m) : Def1 P wd K mg base x ps (k + 1) (spP K (runP N.length ps.length m)) := by
  obtain ⟨f, fd, F, hm, hB⟩ := h.ex
  exact ⟨f, fd, fn_pure F Sc (hb f), hm, F.kp, hB⟩
theorem def_new {x qual : Str} {st : Stmt} {N ps : List Str} {k : Nat} {m : MS Unit} (h : Dfn K mg x qual st ps) (Sc : FnScope N ps (defScope st)) (hb : ∀ f, Body P wd K mg base N qual st f k G0 m) : Def1 P wd K mg base x ps (k + 1) (spN K (runN N.length ps.length m)) := by
  obtain ⟨f, fd, F, hm, hB⟩ := h.ex
  exact ⟨f, fd, fn_new F Sc (hb f), hm, F.kp, hB⟩
theorem def_ghost {x qual : Str} {st : Stmt} {N ps : List Str} {k : Nat} {m : MS G} (h : Dfn K mg x qual st ps) (Sc : FnScope N ps (defScope st)) (hb : ∀ f, Body P wd K mg base N qual st f k S m) : Def1 P wd K mg base x ps (k + 1) (spG K S (runG N.length ps.length m)) := by
  obtain ⟨f, fd, F, hm, hB⟩ := h.ex
  exact ⟨f, fd, fn_ghost F Sc (hb f), hm, F.kp, hB⟩
theorem Def1.imp {x : Str} {ps : List Str} {k : Nat} {sp sp' : Sp} (h : Def1 P wd K mg base x ps k sp) (i : ∀ vs H Q E, sp' vs H Q E → sp vs H Q E) : Def1 P wd K mg base x ps k sp' := by
  obtain ⟨f, fd, F, r⟩ := h.ex
  exact ⟨f, fd, F.imp i, r⟩
theorem Def1.mono {x : Str} {ps : List Str} {j k : Nat} {sp : Sp} (h : Def1 P wd K mg base x ps j sp) (hk : j ≤ k) : Def1 P wd K mg base x ps k sp := by
  obtain ⟨f, fd, F, r⟩ := h.ex
  exact ⟨f, fd, F.mono hk, r⟩
/-- calls -/
theorem call_P {x : Str} {ps : List Str} {k : Nat} {F : List D → Option D} {p : Pos} (h : Def1 X.prog X.w X.K X.mg X.base x ps k (spP X.K F)) (hr : Room k X.A) (hg : Gl X x) (ha : DA X S (e :: es) ml) (hdb : (x == ("__debug__" : Str)) = false := by decide)
    (he : starEach (e :: es) X.env = (false, eval e X.env) :: starEach es X.env := by rfl) (hpl : (backTo pos (starEach es X.env)).any (·.1) = false := by rfl) : DE X S (.Call (.Name x p) (e :: es) [] pos) (mCall F ml) := by
  obtain ⟨f, fd, FF, hm, hk, hB⟩ := h.ex
  exact de_callP (pe_call FF hr hg hm hk hB .nil pass0 ha hdb he hpl)
theorem call_N {x : Str} {ps : List Str} {k : Nat} {F : List D → Option (List D)} {p : Pos} (h : Def1 X.prog X.w X.K X.mg X.base x ps k (spN X.K F)) (hr : Room k X.A) (hg : Gl X x) (ha : DA X S (e :: es) ml) (hdb : (x == ("__debug__" : Str)) = false := by decide)
    (he : starEach (e :: es) X.env = (false, eval e X.env) :: starEach es X.env := by rfl) (hpl : (backTo pos (starEach es X.env)).any (·.1) = false := by rfl) : DF X S (.Call (.Name x p) (e :: es) [] pos) (mCallF F ml) := by
  obtain ⟨f, fd, FF, hm, hk, hB⟩ := h.ex
  exact df_callN (pe_call FF hr hg hm hk hB .nil pass0 ha hdb he hpl)
theorem call_G {x : Str} {ps : List Str} {k : Nat} {F : List SV → G → Option (D × G)} {p : Pos} {mg' : MG G} (h : Def1 X.prog X.w X.K X.mg X.base x ps k (spG X.K S F)) (hr : Room k X.A) (hg : Gl X x) (ha : DG X S (e :: es) mg') (hdb : (x == ("__debug__" : Str)) = false := by decide)
    (he : starEach (e :: es) X.env = (false, eval e X.env) :: starEach es X.env := by rfl) (hpl : (backTo pos (starEach es X.env)).any (·.1) = false := by rfl) : DE X S (.Call (.Name x p) (e :: es) [] pos) (mCallG F mg') := by
  obtain ⟨f, fd, FF, hm, hk, hB⟩ := h.ex
  exact de_callG (pe_call FF hr hg hm hk hB .nil pass0 ha hdb he hpl)
theorem call_P0 {x : Str} {ps : List Str} {k : Nat} {F : List D → Option D} {p : Pos} (h : Def1 X.prog X.w X.K X.mg X.base x ps k (spP X.K F)) (hr : Room k X.A) (hg : Gl X x) (hdb : (x == ("__debug__" : Str)) = false := by decide) : DE X S (.Call (.Name x p) [] [] pos) (mCall F mNil) := by
  obtain ⟨f, fd, FF, hm, hk, hB⟩ := h.ex
  exact de_callP0 (pe_call0 FF hr hg hm hk hB .nil pass0 hdb)
theorem call_N0 {x : Str} {ps : List Str} {k : Nat} {F : List D → Option (List D)} {p : Pos} (h : Def1 X.prog X.w X.K X.mg X.base x ps k (spN X.K F)) (hr : Room k X.A) (hg : Gl X x) (hdb : (x == ("__debug__" : Str)) = false := by decide) : DF X S (.Call (.Name x p) [] [] pos) (mCallF F mNil) := by
  obtain ⟨f, fd, FF, hm, hk, hB⟩ := h.ex
  exact df_callN0 (pe_call0 FF hr hg hm hk hB .nil pass0 hdb)
/-- a module's constant -/
structure Cst (K : PySem.W.Frag) (mg : Str → Option Value) (x : Str) (d : D) : Prop where
  ex : ∃ u v, mg x = some u ∧ RelV v u ∧ ∀ H, Rp K H v d
theorem de_cst {x : Str} {d : D} (h : Cst X.K X.mg x d) (hg : Gl X x := by rfl) (hdb : (x == ("__debug__" : Str)) = false := by decide) : DE X S (.Name x pos) (mC d) := by
  obtain ⟨u, v, hm, r, q⟩ := h.ex
  exact de_glob hg hm r q hdb
theorem Cst.int {x : Str} {i : Int} {t : Tok} (h : mg x = some (.int i t)) : Cst K mg x (.int i) := ⟨_, .int i, h, ⟨t, rfl⟩, fun _ => .int i⟩
theorem Cst.str {x y : Str} {t : Tok} (h : mg x = some (.str y t)) (hy : SOk y) : Cst K mg x (.str y) := ⟨_, .str y, h, ⟨t, rfl⟩, fun _ => .str hy⟩

theorem hu64 {A : Around} {k : Nat} (hr : Room k A) : A.units + 64 < cLine := by have := hr.un; omega
theorem hu65 {A : Around} {k : Nat} (hr : Room k A) : A.units + 65 < cLine := by have := hr.un; omega

/-! ### the law's draws: a list of a count and a list of cells -/
structure Dr where
  s : Addr
  c : Addr
  n : Int
  cells : List Int
def drA : Gs Dr where
  fp := fun g a => a = g.s ∨ a = g.c
  ok := fun g H => g.s ≠ g.c ∧ H g.s = some (.lst [.int g.n, .ref g.c]) ∧ H g.c = some (.lst (g.cells.map V.int)) ∧ 0 < g.cells.length ∧ g.cells.length ≤ 63
  root := fun g => .ref g.s
  loc := fun {g H H'} h ⟨h1, h2, h3, h4⟩ => ⟨h1, (h _ (.inl rfl)).trans h2, (h _ (.inr rfl)).trans h3, h4⟩
  dom := fun {g H a} ⟨h1, h2, h3, h4⟩ ha => by
    rcases ha with rfl | rfl
    · rw [h2]; simp
    · rw [h3]; simp
/-- a draw below most: what it tells, what is left -/
def Dr.take (g : Dr) (most : Int) : Int × Dr :=
  let cell := g.cells.getD (g.n.fmod g.cells.length).toNat 0
  if cell < 1000000000000000000 then
    let n := g.n + 1
    let x := (cell * 48271 + n * 69621).fmod 2147483647
    let y := (x * 16807 + n * 7919).fmod 1000000007
    ((y.fdiv 7).fmod most, { g with n := n })
  else (cell.fmod most, { g with cells := g.cells.set (g.n.fmod g.cells.length).toNat (cell.fdiv most) })
theorem Dr.take_lo (g : Dr) {most : Int} (h : 0 < most) : 0 ≤ (g.take most).1 ∧ (g.take most).1 < most := by
  unfold Dr.take
  simp only
  split
  · exact ⟨Int.fmod_nonneg_of_pos _ h, Int.fmod_lt_of_pos _ h⟩
  · exact ⟨Int.fmod_nonneg_of_pos _ h, Int.fmod_lt_of_pos _ h⟩
/-- a draw, of data -/
def drawA (as : List SV) (g : Dr) : Option (D × Dr) := match as with
  | [.st, .sh (.int most)] => if 0 < most ∧ most < 1073741824 then some (.int (g.take most).1, (g.take most).2) else none
  | _ => none
end
end Pd

/-! Pd: the law's draws, its end. -/
namespace Pd
open PySem PySem.Spec L2
section
variable {G : Type} {X : Cx} {S : Gs G} {P : Program} {wd : World} {K : PySem.W.Frag} {mg : Str → Option Value} {base : Heap}
/-- what makes the list of draws tells -/
def spState (K : PySem.W.Frag) : Sp := fun vs H Q _ => ∃ (a : Addr) (ns : List Int), vs = [.ref a] ∧ SqL K H a (ns.map V.int) ∧ ns.length ≤ 63 ∧
  ∀ (g : Dr) (H' : Hp), H g.s = none → H g.c = none → drA.ok g H' → Same H H' → Q (.ref g.s) H'
theorem drawA_some {as : List SV} {g g' : Dr} {d : D} (h : drawA as g = some (d, g')) : ∃ most, as = [.st, .sh (.int most)] ∧ 0 < most ∧ most < 1073741824 ∧ d = .int (g.take most).1 ∧ g' = (g.take most).2 := by
  unfold drawA at h
  split at h
  · split at h
    · rename_i hm
      cases h
      exact ⟨_, rfl, hm.1, hm.2, rfl, rfl⟩
    · cases h
  · cases h
/-- the state behind a draw, for the caller -/
theorem dr_gst {I H H' : Hp} {g g' : Dr} (s : Same I H) (ok : drA.ok g H) (hs : g'.s = g.s) (hc : g'.c = g.c) (ok' : drA.ok g' H') (fI : ∀ a, drA.fp g a → I a = none) (h : ∀ a, a ≠ g.s → a ≠ g.c → H' a = H a) : Gst drA I H g I H' g' where
  eI := Same.refl _
  eH := fun a o e nf => by
    rw [h a (fun z => nf (.inl z)) (fun z => nf (.inr z))]; exact e
  sub := fun a o e => by
    have nf : ¬ drA.fp g a := fun z => by rw [fI a z] at e; cases e
    rw [h a (fun z => nf (.inl z)) (fun z => nf (.inr z))]; exact s a o e
  ag := fun _ _ => rfl
  fp' := fun a => by show (a = g'.s ∨ a = g'.c) ↔ (a = g.s ∨ a = g.c); rw [hs, hc]
  rt := by show V.ref g'.s = V.ref g.s; rw [hs]
  ok := ok'
theorem fmod_ix {n : Int} {l : Nat} (h : 0 < l) : ∃ j : Nat, n.fmod (l : Int) = (j : Int) ∧ j < l := by
  have h1 := Int.fmod_nonneg_of_pos n (show (0 : Int) < (l : Int) by omega)
  have h2 := Int.fmod_lt_of_pos n (show (0 : Int) < (l : Int) by omega)
  exact ⟨(n.fmod l).toNat, by omega, by omega⟩
theorem iteT' {b : Bool} {A B : Prop} (h : b = true) (k : A) : if b = true then A else B := by rw [if_pos h]; exact k
theorem iteF' {b : Bool} {A B : Prop} (h : b = false) (k : B) : if b = true then A else B := by rw [h]; exact k
theorem cut_ints (ns : List Int) (lo hi : Option Int) : ∃ ms : List Int, cutV (ns.map V.int) lo hi = ms.map V.int ∧ ms.length ≤ ns.length := by
  refine ⟨(ns.drop (HT.sIx (ns.map V.int).length 0 lo)).take (HT.sIx (ns.map V.int).length (ns.map V.int).length hi - HT.sIx (ns.map V.int).length 0 lo), ?_, ?_⟩
  · unfold cutV
    rw [List.map_take, List.map_drop]
  · rw [List.length_take, List.length_drop]; omega
/-- the law's promise -/
def spLaw (K : PySem.W.Frag) : Sp := fun vs H Q _ => ∃ (a : Addr) (ns : List Int), vs = [.ref a] ∧ SqL K H a (ns.map V.int) ∧ ns.length ≤ 63 ∧ ∀ H', Q (.bl true) H'
/-- the frame behind the list's making: i is its slot, N slots -/
def lawE (N i : Nat) : Env := (List.replicate N SV.un).set i .st
theorem law_start {N i : Nat} {m : MS Dr} {σ : St} {H : Hp} {g : Dr} {D : Ends} (hl : σ.length = N) (hi : σ[i]? = some (some (.ref g.s))) (ok : drA.ok g H) (hm : ∃ e g', m (lawE N i) g = some (.re (.bool true), e, g')) (k : ∀ H', D.rt (.bl true) H') :
    tS K drA m D σ H := by
  obtain ⟨e, g', hm⟩ := hm
  refine ⟨⟨fun _ => none, fun _ => none, fun _ => none, drA.fp g, .ref g.s⟩, lawE N i, g, .re (.bool true), e, g', ?_, hm, fun v σ' I' H' s' R' p => by cases p; exact k H'⟩
  have at_ : ∀ k, (lawE N i).at k = .un ∨ (k = i ∧ (lawE N i).at k = .st) := fun k => by
    unfold lawE
    rw [at_set]
    by_cases z : k = i ∧ i < (List.replicate N SV.un).length
    · rw [if_pos z]; exact .inr ⟨z.1, rfl⟩
    · rw [if_neg z]
      refine .inl ?_
      show (List.replicate N SV.un).getD k .un = .un
      rw [List.getD_eq_getElem?_getD, List.getElem?_replicate]
      split <;> rfl
  exact {
    e0 := fun _ _ z => nomatch z
    eI := fun _ _ z => nomatch z
    ag := fun _ _ z => nomatch z
    ge := Same.refl _
    gfp := fun _ => Iff.rfl
    grt := rfl
    gok := ok
    fI := fun _ _ => rfl
    f0 := fun _ _ => rfl
    len := by unfold lawE; rw [List.length_set, List.length_replicate]; exact hl
    slot := fun k => by
      rcases at_ k with e | ⟨rfl, e⟩
      · rw [e]; trivial
      · rw [e]; exact hi
    dis := fun k j a _ e1 => by
      rcases at_ k with e | ⟨_, e⟩ <;> rw [e] at e1 <;> exact e1.elim }
end
end Pd

/-! Pd: plain tools, no program in sight. -/
namespace Pd
open PySem
section
variable {G : Type} {env env1 e1 e2 : Env} {g g1 g2 g3 : G} {m1 m2 : MS G} {ma mb : ME G} {mt mu : MT G} {ml : ML G}
/-- it ends with True -/
def Tr (m : MS G) (env : Env) (g : G) : Prop := ∃ e g1, m env g = some (.re (.bool true), e, g1)
theorem tr_seq (h1 : m1 env g = some (.nx, e1, g1)) (h2 : Tr m2 e1 g1) : Tr (mSeq m1 m2) env g := by
  obtain ⟨e, g3, h⟩ := h2
  exact ⟨e, g3, by unfold mSeq; rw [h1]; exact h⟩
theorem tr_ret (h : ma env g = some (.bool true, g1)) : Tr (mRet ma) env g := ⟨env, g1, by unfold mRet; rw [h]⟩
theorem seq_nx {r} (h1 : m1 env g = some (.nx, e1, g1)) (h2 : m2 e1 g1 = r) : mSeq m1 m2 env g = r := by unfold mSeq; rw [h1]; exact h2
theorem seq_re {d : D} (h1 : m1 env g = some (.re d, e1, g1)) : mSeq m1 m2 env g = some (.re d, e1, g1) := by unfold mSeq; rw [h1]
theorem seq_rl {ds : List D} (h1 : m1 env g = some (.rl ds, e1, g1)) : mSeq m1 m2 env g = some (.rl ds, e1, g1) := by unfold mSeq; rw [h1]
theorem seq_co (h1 : m1 env g = some (.co, e1, g1)) : mSeq m1 m2 env g = some (.co, e1, g1) := by unfold mSeq; rw [h1]
theorem seq_br (h1 : m1 env g = some (.br, e1, g1)) : mSeq m1 m2 env g = some (.br, e1, g1) := by unfold mSeq; rw [h1]
theorem if_t {r} (h : mt env g = some (true, g1)) (k : m1 env g1 = r) : mIfS mt m1 m2 env g = r := by unfold mIfS; rw [h]; exact k
theorem if_f {r} (h : mt env g = some (false, g1)) (k : m2 env g1 = r) : mIfS mt m1 m2 env g = r := by unfold mIfS; rw [h]; exact k
/-- an if whose test fails, nothing else -/
theorem if_no (h : mt env g = some (false, g1)) : mIfS mt m1 mSkip env g = some (.nx, env, g1) := if_f h rfl
theorem set_e {i : Nat} {d : D} (h : ma env g = some (d, g1)) : mSet i ma env g = some (.nx, env.set i (.sh d), g1) := by unfold mSet; rw [h]
theorem setF_e {i : Nat} {ds : List D} (h : ml env g = some (ds, g1)) : mSetF i ml env g = some (.nx, env.set i (.ow ds), g1) := by unfold mSetF; rw [h]
theorem then_e {j : Nat} (h : m1 env g = some (.nx, e1, g1)) : mThen m1 j env g = some (.nx, e1.frz j, g1) := by unfold mThen; rw [h]
theorem ret_e {d : D} (h : ma env g = some (d, g1)) : mRet ma env g = some (.re d, env, g1) := by unfold mRet; rw [h]
theorem retF_e {ds : List D} (h : ml env g = some (ds, g1)) : mRetF ml env g = some (.rl ds, env, g1) := by unfold mRetF; rw [h]
theorem drop_e {d : D} (h : ma env g = some (d, g1)) : mDrop ma env g = some (.nx, env, g1) := by unfold mDrop; rw [h]
/-! expressions -/
theorem op_e {f : D → D → Option D} {x y z : D} (ha : ma env g = some (x, g1)) (hb : mb env g1 = some (y, g2)) (h : f x y = some z) : mOp f ma mb env g = some (z, g2) := by unfold mOp; rw [ha]; dsimp only [bD]; rw [hb]; dsimp only [bD]; rw [h]; rfl
theorem un_e {f : D → Option D} {x z : D} (ha : ma env g = some (x, g1)) (h : f x = some z) : mUn f ma env g = some (z, g1) := by unfold mUn; rw [ha]; dsimp only [bD]; rw [h]; rfl
theorem m1_e {f : D → D → Option D} {x y z : D} (ha : ma env g = some (x, g1)) (hb : mb env g1 = some (y, g2)) (h : f x y = some z) (hx : ∃ s, x = .str s := by exact ⟨_, rfl⟩) : mM1 f ma mb env g = some (z, g2) := by
  obtain ⟨s, rfl⟩ := hx
  unfold mM1; rw [ha]; dsimp only [bD]; rw [hb]; dsimp only [bD]; rw [h]; rfl
theorem call_e {f : List D → Option D} {xs : List D} {z : D} (ha : ml env g = some (xs, g1)) (h : f xs = some z) : mCall f ml env g = some (z, g1) := by unfold mCall; rw [ha]; dsimp only [bD]; rw [h]; rfl
theorem callF_e {f : List D → Option (List D)} {xs : List D} {z : List D} (ha : ml env g = some (xs, g1)) (h : f xs = some z) : mCallF f ml env g = some (z, g1) := by unfold mCallF; rw [ha]; dsimp only [bD]; rw [h]; rfl
theorem callG_e {F : List SV → G → Option (D × G)} {m : MG G} {as : List SV} {r} (ha : m env g = some (as, g1)) (h : F as g1 = r) : mCallG F m env g = r := by unfold mCallG; rw [ha]; exact h
theorem cons_e {x : D} {xs : List D} (ha : ma env g = some (x, g1)) (hb : ml env g1 = some (xs, g2)) : mCons ma ml env g = some (x :: xs, g2) := by unfold mCons; rw [ha]; dsimp only [bD]; rw [hb]
theorem nil_e : mNil env g = some ([], g) := rfl
theorem c_e {d : D} : mC d env g = some (d, g) := rfl
theorem L_e {xs : List D} (h : ml env g = some (xs, g1)) : mL ml env g = some (.list xs, g1) := by unfold mL; rw [h]
theorem tup_e {xs : List D} (h : ml env g = some (xs, g1)) (hl : xs.length ≤ sizeLine := by exact Nat.le_of_ble_eq_true rfl) : mTup ml env g = some (.tuple xs, g1) := by unfold mTup; rw [h]; exact if_pos hl
theorem lst_e {xs : List D} (h : ml env g = some (xs, g1)) (hl : xs.length ≤ sizeLine := by exact Nat.le_of_ble_eq_true rfl) : mLst ml env g = some (xs, g1) := by unfold mLst; rw [h]; exact if_pos hl
theorem opT_e {f : D → D → Option D} {x y : D} {b : Bool} (ha : ma env g = some (x, g1)) (hb : mb env g1 = some (y, g2)) (h : f x y = some (.bool b)) : mOpT f ma mb env g = some (b, g2) := by unfold mOpT; rw [ha]; dsimp only [bD]; rw [hb]; dsimp only [bD]; rw [h]; rfl
theorem tru_e {x : D} {b : Bool} (ha : ma env g = some (x, g1)) (h : dTru x = some b) : mTru ma env g = some (b, g1) := by unfold mTru; rw [ha]; dsimp only [bD]; rw [h]; rfl
theorem not_e {b : Bool} (h : mt env g = some (b, g1)) : mNot mt env g = some (!b, g1) := by unfold mNot; rw [h]
theorem and_t {r} (h : mt env g = some (true, g1)) (k : mu env g1 = r) : mAnd mt mu env g = r := by unfold mAnd; rw [h]; exact k
theorem and_f (h : mt env g = some (false, g1)) : mAnd mt mu env g = some (false, g1) := by unfold mAnd; rw [h]; rfl
theorem or_t (h : mt env g = some (true, g1)) : mOr mt mu env g = some (true, g1) := by unfold mOr; rw [h]; rfl
theorem or_f {r} (h : mt env g = some (false, g1)) (k : mu env g1 = r) : mOr mt mu env g = r := by unfold mOr; rw [h]; exact k
theorem mif_t {α : Type} {a b : Env → G → Option (α × G)} {r} (h : mt env g = some (true, g1)) (k : a env g1 = r) : mIf mt a b env g = r := by unfold mIf; rw [h]; exact k
theorem mif_f {α : Type} {a b : Env → G → Option (α × G)} {r} (h : mt env g = some (false, g1)) (k : b env g1 = r) : mIf mt a b env g = r := by unfold mIf; rw [h]; exact k
theorem isi_e {T : String} {x : D} {b : Bool} (ha : ma env g = some (x, g1)) (h : isTy T x = some b) : mIsi T ma env g = some (.bool b, g1) := by unfold mIsi; rw [ha]; dsimp only [bD]; rw [h]; rfl
theorem cat_e {xs ys : List D} (ha : ma env g = some (.list xs, g1)) (hb : mb env g1 = some (.list ys, g2)) (hl : xs.length + ys.length ≤ sizeLine) : mCat ma mb env g = some (xs ++ ys, g2) := by unfold mCat; rw [ha]; dsimp only [bD]; rw [hb]; exact if_pos hl
theorem part_e {i : Int} (h : ma env g = some (.int i, g1)) : mPart ma env g = some (some i, g1) := by unfold mPart; rw [h]
theorem slL_e {lo hi : MO G} {xs : List D} {l h : Option Int} (ha : ma env g = some (.list xs, g1)) (hl : lo env g1 = some (l, g2)) (hh : hi env g2 = some (h, g3)) : mSlL ma lo hi env g = some (cut xs l h, g3) := by unfold mSlL; rw [ha]; dsimp only [bD]; rw [hl]; dsimp only [bD]; rw [hh]
/-! loops -/
theorem for_e {bt : MTg G} {mb : MS G} {ds : List D} {r} (h : ml env g = some (ds, g1)) (k : loopL bt mb ds env g1 = r) : mFor ml bt mb env g = r := by unfold mFor; rw [h]; exact k
theorem loop_inv {bt : MTg G} {mb : MS G} (Inv : Env → G → Prop) : ∀ {ds : List D} {env : Env} {g : G}, Inv env g → (∀ d ∈ ds, ∀ env g, Inv env g → ∃ e1, bt d env g = some (e1, g) ∧ ∃ e2 g2, (mb e1 g = some (.nx, e2, g2) ∨ mb e1 g = some (.co, e2, g2)) ∧ Inv e2 g2) →
    ∃ e2 g2, loopL bt mb ds env g = some (.nx, e2, g2) ∧ Inv e2 g2
  | [], env, g, h, _ => ⟨env, g, rfl, h⟩
  | d :: ds, env, g, h, k => by
    obtain ⟨e1, q1, e2, g2, q2, q3⟩ := k d (by simp) env g h
    obtain ⟨e3, g3, q4, q5⟩ := loop_inv Inv q3 fun d' hd => k d' (List.mem_cons_of_mem _ hd)
    refine ⟨e3, g3, ?_, q5⟩
    unfold loopL
    rw [q1]
    rcases q2 with q2 | q2 <;> (dsimp only; rw [q2]; exact q4)
/-- .. by the turn -/
theorem loop_at {bt : MTg G} {mb : MS G} (Inv : Nat → Env → G → Prop) : ∀ {ds : List D} {k : Nat} {env : Env} {g : G}, Inv k env g → (∀ i d, ds[i]? = some d → ∀ env g, Inv (k + i) env g → ∃ e1, bt d env g = some (e1, g) ∧ ∃ e2 g2, (mb e1 g = some (.nx, e2, g2) ∨ mb e1 g = some (.co, e2, g2)) ∧ Inv (k + i + 1) e2 g2) →
    ∃ e2 g2, loopL bt mb ds env g = some (.nx, e2, g2) ∧ Inv (k + ds.length) e2 g2
  | [], k, env, g, h, _ => ⟨env, g, rfl, h⟩
  | d :: ds, k, env, g, h, hk => by
    obtain ⟨e1, q1, e2, g2, q2, q3⟩ := hk 0 d rfl env g h
    obtain ⟨e3, g3, q4, q5⟩ := loop_at (k := k + 1) Inv q3 fun i d' hd env g hi => by
      have e : k + 1 + i = k + (i + 1) := by omega
      rw [e] at hi ⊢
      exact hk (i + 1) d' hd env g hi
    refine ⟨e3, g3, ?_, by rw [List.length_cons, show k + (ds.length + 1) = k + 1 + ds.length by omega]; exact q5⟩
    unfold loopL
    rw [q1]
    rcases q2 with q2 | q2 <;> (dsimp only; rw [q2]; exact q4)
/-- .. whose body tells nothing and returns nothing: from state to state -/
theorem comp_e {vs : List Nat} {bt : MTg G} {me : ME G} {ds : List D} {r} (h : ml env g = some (ds, g1)) (hv : (vs.all fun k => (env.at k).notOw) = true) (k : compL bt mt me (env.wipe vs) ds g1 = r) : mComp ml vs bt mt me env g = r := by unfold mComp; rw [h]; exact (if_pos hv).trans k
theorem compL_map {bt : MTg G} {me : ME G} (f : D → D) : ∀ {ds : List D}, (∀ d ∈ ds, ∃ e1, bt d env g = some (e1, g) ∧ me e1 g = some (f d, g)) → compL bt mYes me env ds g = some (ds.map f, g)
  | [], _ => rfl
  | d :: ds, h => by
    obtain ⟨e1, q1, q2⟩ := h d (by simp)
    unfold compL
    rw [q1]
    dsimp only [mYes]
    rw [q2]
    dsimp only
    rw [compL_map f fun d' hd => h d' (List.mem_cons_of_mem _ hd)]
    rfl
theorem compL_mm {α : Type} {bt : MTg G} {me : ME G} (f h : α → D) {l : List α} (k : ∀ a ∈ l, ∃ e1, bt (f a) env g = some (e1, g) ∧ me e1 g = some (h a, g)) : compL bt mYes me env (l.map f) g = some (l.map h, g) := by
  induction l with
  | nil => rfl
  | cons a l ih =>
    obtain ⟨e1, q1, q2⟩ := k a (by simp)
    rw [List.map_cons, List.map_cons]
    unfold compL
    rw [q1]
    dsimp only [mYes]
    rw [q2]
    dsimp only
    rw [ih fun d' hd => k d' (List.mem_cons_of_mem _ hd)]
theorem compL_ex {bt : MTg G} {me : ME G} (P : D → Prop) : ∀ {ds : List D} {g : G}, (∀ d ∈ ds, ∀ g, ∃ e1, bt d env g = some (e1, g) ∧ ∃ x g2, me e1 g = some (x, g2) ∧ P x) → ∃ xs g2, compL bt mYes me env ds g = some (xs, g2) ∧ xs.length = ds.length ∧ ∀ x ∈ xs, P x
  | [], g, _ => ⟨[], g, rfl, rfl, fun _ h => nomatch h⟩
  | d :: ds, g, h => by
    obtain ⟨e1, q1, x, g2, q2, q3⟩ := h d (by simp) g
    obtain ⟨xs, g4, q4, q5, q6⟩ := compL_ex P (g := g2) fun d' hd => h d' (List.mem_cons_of_mem _ hd)
    refine ⟨x :: xs, g4, ?_, by rw [List.length_cons, List.length_cons, q5], fun y hy => ?_⟩
    · unfold compL
      rw [q1]
      dsimp only [mYes]
      rw [q2]
      dsimp only
      rw [q4]
    · rcases List.mem_cons.mp hy with e | e
      · rw [e]; exact q3
      · exact q6 y e
theorem while_e {mb : MS G} (n : Nat) {r} (h : whileN mt mb n env g = some r) : mWhile mt mb env g = some r := mWhile_eq h
theorem wn_f {mb : MS G} {n : Nat} (h : mt env g = some (false, g1)) : whileN mt mb (n + 1) env g = some (.nx, env, g1) := by unfold whileN; rw [h]
theorem wn_t {mb : MS G} {n : Nat} {r} (h : mt env g = some (true, g1)) (hb : mb env g1 = some (.nx, e1, g2)) (k : whileN mt mb n e1 g2 = r) : whileN mt mb (n + 1) env g = r := by unfold whileN; rw [h]; dsimp only; rw [hb]; exact k
/-! defs -/
theorem runP_re {N n : Nat} {m : MS Unit} {ds : List D} {e : Env} {u : Unit} {d : D} (h : m (startE N (ds.map .sh)) () = some (.re d, e, u)) (hn : ds.length = n ∧ n ≤ N := by exact ⟨rfl, by decide⟩) : runP N n m ds = some d := by
  unfold runP runS
  rw [if_pos (by rw [List.length_map]; exact hn), h]
  rfl
theorem runP_rl {N n : Nat} {m : MS Unit} {ds xs : List D} {e : Env} {u : Unit} (h : m (startE N (ds.map .sh)) () = some (.rl xs, e, u)) (hn : ds.length = n ∧ n ≤ N := by exact ⟨rfl, by decide⟩) : runP N n m ds = some (.list xs) := by
  unfold runP runS
  rw [if_pos (by rw [List.length_map]; exact hn), h]
  rfl
theorem runN_rl {N n : Nat} {m : MS Unit} {ds xs : List D} {e : Env} {u : Unit} (h : m (startE N (ds.map .sh)) () = some (.rl xs, e, u)) (hn : ds.length = n ∧ n ≤ N := by exact ⟨rfl, by decide⟩) : runN N n m ds = some xs := by
  unfold runN runS
  rw [if_pos (by rw [List.length_map]; exact hn), h]
  rfl
theorem runG_re {N n : Nat} {m : MS G} {as : List SV} {e : Env} {d : D} (h : m (startE N as) g = some (.re d, e, g1)) (hn : as.length = n ∧ n ≤ N := by exact ⟨rfl, by decide⟩) : runG N n m as g = some (d, g1) := by
  unfold runG runS
  rw [if_pos hn, h]
  rfl
theorem runG_rl {N n : Nat} {m : MS G} {as : List SV} {e : Env} {xs : List D} (h : m (startE N as) g = some (.rl xs, e, g1)) (hn : as.length = n ∧ n ≤ N := by exact ⟨rfl, by decide⟩) : runG N n m as g = some (.list xs, g1) := by
  unfold runG runS
  rw [if_pos hn, h]
  rfl
/-! draws -/
theorem draw_ev {m : Int} (g : Dr) (h : 0 < m ∧ m < 1073741824) : ∃ j g1, drawA [.st, .sh (.int m)] g = some (.int j, g1) ∧ 0 ≤ j ∧ j < m := ⟨_, _, if_pos h, Dr.take_lo g h.1⟩
/-! data -/
theorem cut_to (xs : List D) (n : Nat) : cut xs none (some (n : Int)) = xs.take n := by
  unfold cut
  rw [HT.sIx_none, HT.sIx_nat, List.drop_zero, Nat.sub_zero]
  by_cases h : n ≤ xs.length
  · rw [Nat.min_eq_left h]
  · rw [Nat.min_eq_right (by omega), List.take_of_length_le (Nat.le_refl _), List.take_of_length_le (by omega)]
theorem cut_from (xs : List D) (n : Nat) : cut xs (some (n : Int)) none = xs.drop n := by
  unfold cut
  rw [HT.sIx_none, HT.sIx_nat]
  by_cases h : n ≤ xs.length
  · rw [Nat.min_eq_left h, List.take_of_length_le (by rw [List.length_drop]; exact Nat.le_refl _)]
  · rw [Nat.min_eq_right (by omega), List.drop_of_length_le (Nat.le_refl _), List.drop_of_length_le (by omega), List.take_nil]
theorem cut_mid (xs : List D) (a b : Nat) (h : b ≤ xs.length) : cut xs (some (a : Int)) (some (b : Int)) = (xs.drop a).take (b - a) := by
  unfold cut
  rw [HT.sIx_nat, HT.sIx_nat, Nat.min_eq_left h]
  by_cases q : a ≤ xs.length
  · rw [Nat.min_eq_left q]
  · rw [Nat.min_eq_right (by omega), List.drop_of_length_le (Nat.le_refl _), List.drop_of_length_le (by omega), List.take_nil, List.take_nil]
theorem cut_last (xs : List D) : cut xs none (some (-1)) = xs.dropLast := by
  unfold cut
  rw [HT.sIx_none, List.drop_zero, Nat.sub_zero, List.dropLast_eq_take]
  congr 1
  show (if (-1 : Int) < 0 then ((-1 : Int) + (xs.length : Int)).toNat else min (-1 : Int).toNat xs.length) = _
  rw [if_pos (by decide)]
  omega
abbrev iL (xs : List Int) : D := .list (xs.map .int)
theorem eqvAll_iL : ∀ xs ys : List Int, PyData.eqvAll (xs.map .int) (ys.map .int) = decide (xs = ys)
  | [], [] => by rw [List.map_nil, PyData.eqvAll]; rfl
  | [], y :: ys => by rw [List.map_nil, List.map_cons, PyData.eqvAll]; rfl
  | x :: xs, [] => by rw [List.map_nil, List.map_cons, PyData.eqvAll]; rfl
  | x :: xs, y :: ys => by
    rw [List.map_cons, List.map_cons, PyData.eqvAll, eqvAll_iL xs ys, PyData.eqv]
    by_cases h : x = y
    · subst h
      simp
    · simp [h]
theorem eqv_iL (xs ys : List Int) : PyData.eqv (iL xs) (iL ys) = decide (xs = ys) := by rw [PyData.eqv]; exact eqvAll_iL xs ys
theorem depth_iL (xs : List Int) : (iL xs).depth ≤ 64 := by
  have h : ∀ xs : List Int, PyData.depthAll (xs.map .int) = 0 := fun xs => by
    induction xs with
    | nil => rfl
    | cons x xs ih => rw [List.map_cons, PyData.depthAll, ih, PyData.depth]; rfl
  show (PyData.list _).depth ≤ 64
  rw [PyData.depth, h]
  decide
theorem eq_iL (xs ys : List Int) : dEq (iL xs) (iL ys) = some (.bool (decide (xs = ys))) := by unfold dEq; rw [if_pos ⟨depth_iL xs, depth_iL ys⟩, eqv_iL]
theorem ne_iL (xs ys : List Int) : dNe (iL xs) (iL ys) = some (.bool (!decide (xs = ys))) := by unfold dNe; rw [if_pos ⟨depth_iL xs, depth_iL ys⟩, eqv_iL]
theorem alike_iL : ∀ xs ys : List Int, PySem.W.alikeAll (xs.map .int) (ys.map .int) = true
  | [], _ => by rw [List.map_nil]; cases h : (List.map PyData.int _) <;> simp [PySem.W.alikeAll]
  | x :: xs, [] => by rw [List.map_nil, List.map_cons]; simp [PySem.W.alikeAll]
  | x :: xs, y :: ys => by rw [List.map_cons, List.map_cons, PySem.W.alikeAll, alike_iL xs ys]; simp [PySem.W.alike]
theorem ltAll_iL : ∀ xs ys : List Int, PyProof.Rows.lexLt PyProof.Rows.itemOrd (PySem.W.keyToksAll (xs.map .int)) (PySem.W.keyToksAll (ys.map .int)) = decide (xs < ys)
  | [], [] => by decide
  | [], y :: ys => by
    rw [List.map_nil, List.map_cons]
    have : ([] : List Int) < y :: ys := List.nil_lt_cons y ys
    rw [decide_eq_true this]
    rw [PySem.W.keyToksAll, PySem.W.keyToksAll]
    rfl
  | x :: xs, [] => by
    rw [List.map_nil, List.map_cons]
    have : ¬ (x :: xs) < ([] : List Int) := List.not_lt_nil _
    rw [decide_eq_false this]
    rw [PySem.W.keyToksAll, PySem.W.keyToksAll]
    rfl
  | x :: xs, y :: ys => by
    rw [List.map_cons, List.map_cons]
    have al : PySem.W.alike (.int x) (.int y) = true := by simp [PySem.W.alike]
    by_cases h : x = y
    · subst h
      rw [PySem.W.dataLt_all_yes al (by rw [PyData.eqv]; simp), ltAll_iL xs ys]
      simp [List.cons_lt_cons_iff]
    · rw [PySem.W.dataLt_all_no al (by rw [PyData.eqv]; simp [h]), PySem.W.dataLt_int]
      simp [List.cons_lt_cons_iff, h]
theorem lt_iL (xs ys : List Int) : dLt (iL xs) (iL ys) = some (.bool (decide (xs < ys))) := by
  unfold dLt
  rw [if_pos ⟨depth_iL xs, depth_iL ys, by rw [PySem.W.alike]; exact alike_iL xs ys, rfl⟩, PySem.W.dataLt_list, ltAll_iL]
theorem ix_nat {ds : List D} {j : Nat} {x : D} (h : ds[j]? = some x) : dIx (.list ds) (.int j) = some x := L2.atI_nat h
theorem len_e {ds : List D} : dLen [.list ds] = some (.int ds.length) := rfl
end
end Pd
namespace Pd
open PySem
theorem index_e {x y : Str} {i : Nat} (h : (Builtin.Str.occurrences x y 0 x.length 1).head? = some i) : dIndex (.str x) (.str y) = some (.int i) := by
  unfold dIndex
  cases e : Builtin.Str.occurrences x y 0 x.length 1 with
  | nil => rw [e] at h; cases h
  | cons j t => rw [e] at h; cases h; simp only [e]
end Pd
namespace Pd
open PySem
theorem lt_t {i j : Int} (h : i < j) : dLtI (.int i) (.int j) = some (.bool true) := by show some (PyData.bool (decide _)) = _; rw [decide_eq_true h]
theorem lt_f {i j : Int} (h : ¬ i < j) : dLtI (.int i) (.int j) = some (.bool false) := by show some (PyData.bool (decide _)) = _; rw [decide_eq_false h]
theorem le_t {i j : Int} (h : i ≤ j) : dLeI (.int i) (.int j) = some (.bool true) := by show some (PyData.bool (decide _)) = _; rw [decide_eq_true h]
theorem le_f {i j : Int} (h : ¬ i ≤ j) : dLeI (.int i) (.int j) = some (.bool false) := by show some (PyData.bool (decide _)) = _; rw [decide_eq_false h]
theorem gt_t {i j : Int} (h : j < i) : dGtI (.int i) (.int j) = some (.bool true) := by show some (PyData.bool (decide _)) = _; rw [decide_eq_true h]
theorem gt_f {i j : Int} (h : ¬ j < i) : dGtI (.int i) (.int j) = some (.bool false) := by show some (PyData.bool (decide _)) = _; rw [decide_eq_false h]
theorem ge_t {i j : Int} (h : j ≤ i) : dGeI (.int i) (.int j) = some (.bool true) := by show some (PyData.bool (decide _)) = _; rw [decide_eq_true h]
theorem ge_f {i j : Int} (h : ¬ j ≤ i) : dGeI (.int i) (.int j) = some (.bool false) := by show some (PyData.bool (decide _)) = _; rw [decide_eq_false h]
theorem eq_int (i j : Int) : dEq (.int i) (.int j) = some (.bool (i == j)) := by
  unfold dEq
  rw [if_pos ⟨by rw [PyData.depth]; decide, by rw [PyData.depth]; decide⟩, PyData.eqv]
theorem eq_it {i j : Int} (h : i = j) : dEq (.int i) (.int j) = some (.bool true) := by rw [eq_int, h]; simp
theorem eq_if {i j : Int} (h : i ≠ j) : dEq (.int i) (.int j) = some (.bool false) := by rw [eq_int, beq_false_of_ne h]
theorem mul_r {i j : Int} (h : -(2 ^ 64) < j ∧ j < 2 ^ 64) : dMul (.int i) (.int j) = some (.int (i * j)) := if_pos (Or.inr h)
theorem mul_l {i j : Int} (h : -(2 ^ 64) < i ∧ i < 2 ^ 64) : dMul (.int i) (.int j) = some (.int (i * j)) := if_pos (Or.inl h)
theorem iL_get {xs : List Int} {j : Nat} {i : Int} (h : xs[j]? = some i) : dIx (iL xs) (.int (j : Int)) = some (.int i) := ix_nat (by rw [List.getElem?_map, h]; rfl)
theorem iL_len {xs : List Int} : dLen [iL xs] = some (.int (xs.length : Int)) := by show some (PyData.int ((xs.map _).length : Int)) = _; rw [List.length_map]
theorem get_lt {xs : List Int} {j : Nat} {i : Int} (h : xs[j]? = some i) : (j : Int) < (xs.length : Int) := by
  have := (List.getElem?_eq_some_iff.mp h).1
  omega
end Pd
namespace Pd
open PySem
theorem chain_f {G : Type} {env : Env} {g g1 g2 : G} {f f' : D → D → Option D} {ma mb mc : ME G} {x y : D} (ha : ma env g = some (x, g1)) (hb : mb env g1 = some (y, g2)) (h : f x y = some (.bool false)) : mChainT f f' ma mb mc env g = some (false, g2) := by
  unfold mChainT; rw [ha]; dsimp only [bD]; rw [hb]; dsimp only [bD]; rw [h]
theorem chain_t {G : Type} {env : Env} {g g1 g2 g3 : G} {f f' : D → D → Option D} {ma mb mc : ME G} {x y z : D} {b : Bool} (ha : ma env g = some (x, g1)) (hb : mb env g1 = some (y, g2)) (h : f x y = some (.bool true)) (hc : mc env g2 = some (z, g3)) (h' : f' y z = some (.bool b)) : mChainT f f' ma mb mc env g = some (b, g3) := by
  unfold mChainT; rw [ha]; dsimp only [bD]; rw [hb]; dsimp only [bD]; rw [h]; dsimp only; rw [hc]; dsimp only [bD]; rw [h']; rfl
end Pd
namespace Pd
open PySem
theorem itL_e {G : Type} {env : Env} {g g1 : G} {ma : ME G} {xs : List D} (h : ma env g = some (.list xs, g1)) : mItL ma env g = some (xs, g1) := by unfold mItL; rw [h]
theorem itT_e {G : Type} {env : Env} {g g1 : G} {ma : ME G} {xs : List D} (h : ma env g = some (.tuple xs, g1)) : mItT ma env g = some (xs, g1) := by unfold mItT; rw [h]
theorem rng1_e {G : Type} {env : Env} {g g1 : G} {ml : ML G} {j : Int} (h : ml env g = some ([.int j], g1)) (hj : -16777216 < j ∧ j < 16777216) : mRng1 ml env g = some (rng 0 j.toNat, g1) := by unfold mRng1; rw [h]; exact if_pos hj
theorem rng2_e {G : Type} {env : Env} {g g1 : G} {ml : ML G} {i j : Int} (h : ml env g = some ([.int i, .int j], g1)) (hi : (-16777216 < i ∧ i < 16777216) ∧ -16777216 < j ∧ j < 16777216 ∧ j - i < 16777216) : mRng2 ml env g = some (rng i (j - i).toNat, g1) := by unfold mRng2; rw [h]; exact if_pos hi
theorem rng_mem {n : Nat} {d : D} (h : d ∈ rng 0 n) : ∃ k : Nat, k < n ∧ d = .int (k : Int) := by
  unfold rng at h
  obtain ⟨k, hk, rfl⟩ := List.mem_map.mp h
  exact ⟨k, List.mem_range.mp hk, by rw [Int.zero_add]⟩
end Pd
namespace Pd
open PySem
theorem lt_first {i j : Int} {xs ys : List D} (h : i ≠ j) : dLt (.tuple (.int i :: xs)) (.tuple (.int j :: ys)) = some (.bool (decide (i < j))) := by
  unfold dLt
  split
  · rw [PySem.W.dataLt_tuple, PySem.W.dataLt_all_no (by rw [PySem.W.alike]) (by rw [PyData.eqv]; exact beq_false_of_ne h), PySem.W.dataLt_int]
  · show (if i = j then none else some (PyData.bool (decide (i < j)))) = _
    rw [if_neg h]
theorem ltAll_one {x y : D} (al : PySem.W.alike x y = true) : PyProof.Rows.lexLt PyProof.Rows.itemOrd (PySem.W.keyToksAll [x]) (PySem.W.keyToksAll [y]) = PySem.W.dataLt x y := by
  cases e : PyData.eqv x y with
  | false => exact PySem.W.dataLt_all_no al e
  | true =>
    rw [PySem.W.dataLt_all_yes al e]
    unfold PySem.W.dataLt
    rw [(PySem.W.toks_eqv x y al).1 e]
    have h : ∀ l : List (Int ⊕ List Nat), PyProof.Rows.lexLt PyProof.Rows.itemOrd l l = false := fun l => by
      have := PySem.W.lex_pre l [] []
      rw [List.append_nil] at this
      rw [this]; rfl
    rw [h, h]
theorem lt_second {i : Int} {x y : D} (al : PySem.W.alike x y = true) (hx : x.depth ≤ 60) (hy : y.depth ≤ 60) : dLt (.tuple [.int i, x]) (.tuple [.int i, y]) = some (.bool (PySem.W.dataLt x y)) := by
  unfold dLt
  have d1 : ∀ {z : D}, z.depth ≤ 60 → (PyData.tuple [.int i, z]).depth ≤ 64 := fun {z} hz => by
    rw [PyData.depth, PyData.depthAll, PyData.depthAll, PyData.depthAll, PyData.depth]; omega
  rw [if_pos ⟨d1 hx, d1 hy, by rw [PySem.W.alike, PySem.W.alikeAll, PySem.W.alikeAll, PySem.W.alikeAll, al, PySem.W.alike]; rfl, rfl⟩]
  · rw [PySem.W.dataLt_tuple, PySem.W.dataLt_all_yes (by rw [PySem.W.alike]) (by rw [PyData.eqv]; simp), ltAll_one al]
theorem eq_flat {x y : D} (hx : x.depth ≤ 64) (hy : y.depth ≤ 64) : dEq x y = some (.bool (PyData.eqv x y)) := if_pos ⟨hx, hy⟩
theorem ne_flat {x y : D} (hx : x.depth ≤ 64) (hy : y.depth ≤ 64) : dNe x y = some (.bool (!PyData.eqv x y)) := if_pos ⟨hx, hy⟩
end Pd
namespace Pd
open PySem
theorem compL_cons {G : Type} {env e1 : Env} {g g2 g3 : G} {bt : MTg G} {me : ME G} {d x : D} {ds xs : List D} (h1 : bt d env g = some (e1, g)) (h2 : me e1 g = some (x, g2)) (h3 : compL bt mYes me env ds g2 = some (xs, g3)) : compL bt mYes me env (d :: ds) g = some (x :: xs, g3) := by
  unfold compL
  rw [h1]
  dsimp only [mYes]
  rw [h2]
  dsimp only
  rw [h3]
theorem compL_nil {G : Type} {env : Env} {g : G} {bt : MTg G} {me : ME G} {mt : MT G} : compL bt mt me env [] g = some ([], g) := rfl
end Pd
namespace Pd
open PySem
theorem div_e {i j : Int} (h : j ≠ 0 ∧ j.natAbs < 1073741824) : dDiv (.int i) (.int j) = some (.int (i.fdiv j)) := if_pos h
theorem mod_e {i j : Int} (h : j ≠ 0) : dMod (.int i) (.int j) = some (.int (i.fmod j)) := if_pos h
theorem var_e {G : Type} {env : Env} {g : G} {i : Nat} {d : D} (h : env.at i = .sh d) : mVar i env g = some (d, g) := by unfold mVar; rw [h]
end Pd
namespace Pd
open PySem
theorem map_of {α : Type} {f : α → D} {P : α → Prop} : ∀ {xs : List D}, (∀ x ∈ xs, ∃ a, x = f a ∧ P a) → ∃ l : List α, xs = l.map f ∧ ∀ a ∈ l, P a
  | [], _ => ⟨[], rfl, fun _ h => nomatch h⟩
  | x :: xs, h => by
    obtain ⟨a, e, p⟩ := h x (by simp)
    obtain ⟨l, e', p'⟩ := map_of (xs := xs) fun y hy => h y (List.mem_cons_of_mem _ hy)
    refine ⟨a :: l, by rw [e, e']; rfl, fun b hb => ?_⟩
    rcases List.mem_cons.mp hb with z | z
    · rw [z]; exact p
    · exact p' b z
theorem depth_iL1 (xs : List Int) : (iL xs).depth ≤ 1 := by
  have h : ∀ xs : List Int, PyData.depthAll (xs.map .int) = 0 := fun xs => by
    induction xs with
    | nil => rfl
    | cons x xs ih => rw [List.map_cons, PyData.depthAll, ih, PyData.depth]; rfl
  show (PyData.list _).depth ≤ 1
  rw [PyData.depth, h]
  decide
theorem depthAll_le {n : Nat} : ∀ {xs : List D}, (∀ x ∈ xs, x.depth ≤ n) → PyData.depthAll xs ≤ n
  | [], _ => Nat.zero_le _
  | x :: xs, h => by
    rw [PyData.depthAll]
    exact Nat.max_le.mpr ⟨h x (by simp), depthAll_le fun y hy => h y (List.mem_cons_of_mem _ hy)⟩
theorem depth_list {n : Nat} {xs : List D} (h : ∀ x ∈ xs, x.depth ≤ n) : (PyData.list xs).depth ≤ n + 1 := by
  rw [PyData.depth]
  have := depthAll_le h
  omega
theorem depth_tup {n : Nat} {xs : List D} (h : ∀ x ∈ xs, x.depth ≤ n) : (PyData.tuple xs).depth ≤ n + 1 := by
  rw [PyData.depth]
  have := depthAll_le h
  omega
mutual
/-- data without dicts -/
def noDict : D → Bool
  | .none => true
  | .bool _ => true
  | .int _ => true
  | .str _ => true
  | .list xs => noDictA xs
  | .tuple xs => noDictA xs
  | .dict _ => false
def noDictA : List D → Bool
  | [] => true
  | x :: xs => noDict x && noDictA xs
end
mutual
theorem alike_self : ∀ {x : D}, noDict x = true → PySem.W.alike x x = true
  | .none, _ => by rw [PySem.W.alike]
  | .bool _, _ => by rw [PySem.W.alike]
  | .int _, _ => by rw [PySem.W.alike]
  | .str _, _ => by rw [PySem.W.alike]
  | .list xs, h => by rw [noDict] at h; rw [PySem.W.alike]; exact alikeAll_self h
  | .tuple xs, h => by rw [noDict] at h; rw [PySem.W.alike]; exact alikeAll_self h
  | .dict _, h => by rw [noDict] at h; cases h
theorem alikeAll_self : ∀ {xs : List D}, noDictA xs = true → PySem.W.alikeAll xs xs = true
  | [], _ => by rw [PySem.W.alikeAll]
  | x :: xs, h => by
    rw [noDictA, Bool.and_eq_true] at h
    rw [PySem.W.alikeAll, alike_self h.1, alikeAll_self h.2]
    rfl
end
theorem eqv_self {x : D} (h : noDict x = true) : PyData.eqv x x = true := PySem.W.eqv_refl_alike x (alike_self h)
theorem noDictA_of : ∀ {xs : List D}, (∀ x ∈ xs, noDict x = true) → noDictA xs = true
  | [], _ => by rw [noDictA]
  | x :: xs, h => by rw [noDictA, h x (by simp), noDictA_of fun y hy => h y (List.mem_cons_of_mem _ hy)]; rfl
theorem noDict_iL (xs : List Int) : noDict (iL xs) = true := by
  rw [noDict]
  refine noDictA_of fun x hx => ?_
  obtain ⟨i, _, rfl⟩ := List.mem_map.mp hx
  rw [noDict]
theorem eq_self {x : D} (h : noDict x = true) (hd : x.depth ≤ 64) : dEq x x = some (.bool true) := by rw [eq_flat hd hd, eqv_self h]
theorem ne_self {x : D} (h : noDict x = true) (hd : x.depth ≤ 64) : dNe x x = some (.bool false) := by rw [ne_flat hd hd, eqv_self h]; rfl
theorem ne_bb (a b : Bool) : dNe (.bool a) (.bool b) = some (.bool (a != b)) := by
  rw [ne_flat (by rw [PyData.depth]; decide) (by rw [PyData.depth]; decide), PyData.eqv]; rfl
theorem ne_int (a b : Int) : dNe (.int a) (.int b) = some (.bool (!(a == b))) := by
  rw [ne_flat (by rw [PyData.depth]; decide) (by rw [PyData.depth]; decide), PyData.eqv]
end Pd
namespace Pd
open PySem
theorem band_t {G : Type} {env : Env} {g g1 : G} {ma mb : ME G} {r} (h : ma env g = some (.bool true, g1)) (k : mb env g1 = r) : mBAnd ma mb env g = r := by unfold mBAnd; rw [h]; exact k
end Pd
namespace Pd
open PySem
section
variable {G : Type} {env e1 e2 : Env} {g g1 g2 : G}
theorem rng_zero (lo : Int) : rng lo 0 = [] := rfl
theorem rng_succ (lo : Int) (n : Nat) : rng lo (n + 1) = .int lo :: rng (lo + 1) n := by
  unfold rng
  rw [List.range_succ_eq_map, List.map_cons, List.map_map]
  congr 1
  · simp
  · apply List.map_congr_left
    intro k _
    simp only [Function.comp]
    congr 1
    omega
theorem rng0 (n : Nat) : rng 0 n = (List.range n).map fun k => .int (k : Int) := by
  unfold rng
  apply List.map_congr_left
  intro k _
  rw [Int.zero_add]
theorem compL_filter {α : Type} {bt : MTg G} {me : ME G} {mt : MT G} (f h : α → D) (p : α → Bool) {l : List α} (k : ∀ a ∈ l, ∃ e1, bt (f a) env g = some (e1, g) ∧ mt e1 g = some (p a, g) ∧ me e1 g = some (h a, g)) :
    compL bt mt me env (l.map f) g = some ((l.filter p).map h, g) := by
  induction l with
  | nil => rfl
  | cons a l ih =>
    obtain ⟨e1, q1, q2, q3⟩ := k a (by simp)
    have ih := ih fun d' hd => k d' (List.mem_cons_of_mem _ hd)
    rw [List.map_cons]
    unfold compL
    rw [q1]
    dsimp only
    rw [q2]
    cases hp : p a with
    | false => rw [List.filter_cons_of_neg (by rw [hp]; decide)]; exact ih
    | true =>
      rw [List.filter_cons_of_pos hp, List.map_cons]
      dsimp only
      rw [q3]
      dsimp only
      rw [ih]
theorem asg_e {b : MTg G} {ma : ME G} {d : D} (h : ma env g = some (d, g1)) (hb : b d env g1 = some (e1, g2)) : mAsg b ma env g = some (.nx, e1, g2) := by unfold mAsg; rw [h]; dsimp only [bD]; rw [hb]; rfl
theorem par_e {i j : Nat} {ml : ML G} {x y : D} (h : ml env g = some ([x, y], g1)) : mPar i j ml env g = some (.nx, (env.set i (.sh x)).set j (.sh y), g1) := by unfold mPar; rw [h]
theorem enum_e {ml : ML G} {ds : List D} (h : ml env g = some ([.list ds], g1)) : mEnum ml env g = some (enm 0 ds, g1) := by unfold mEnum; rw [h]
theorem loop_nil {bt : MTg G} {mb : MS G} : loopL bt mb [] env g = some (.nx, env, g) := rfl
theorem loop_nx {bt : MTg G} {mb : MS G} {d : D} {ds : List D} {r} (h1 : bt d env g = some (e1, g1)) (h2 : mb e1 g1 = some (.nx, e2, g2)) (h3 : loopL bt mb ds e2 g2 = r) : loopL bt mb (d :: ds) env g = r := by
  unfold loopL; rw [h1]; dsimp only; rw [h2]; exact h3
theorem loop_re {bt : MTg G} {mb : MS G} {d x : D} {ds : List D} (h1 : bt d env g = some (e1, g1)) (h2 : mb e1 g1 = some (.re x, e2, g2)) : loopL bt mb (d :: ds) env g = some (.re x, e2, g2) := by
  unfold loopL; rw [h1]; dsimp only; rw [h2]
theorem setIx_e {j : Nat} {mi me : ME G} {d : D} {i : Int} {ds : List D} {k : Nat} (h : me env g = some (d, g1)) (hi : mi env g1 = some (.int i, g2)) (hj : env.at j = .ow ds) (hk : L2.ixN ds.length i = some k) : mSetIx j mi me env g = some (.nx, env.set j (.ow (ds.set k d)), g2) := by
  unfold mSetIx; rw [h]; dsimp only [bD]; rw [hi]; dsimp only [bD]; rw [hj]; dsimp only; rw [hk]; rfl
theorem ixOw_e {j : Nat} {mi : ME G} {d : D} {i : Int} {ds : List D} (hi : mi env g = some (.int i, g1)) (hj : env.at j = .ow ds) (hk : L2.atI ds i = some d) : mIxOw j mi env g = some (d, g1) := by
  unfold mIxOw; rw [hi]; dsimp only [bD]; rw [hj]; dsimp only; rw [hk]; rfl
theorem ixN_nat {n k : Nat} (h : k < n) : L2.ixN n (k : Int) = some k := by
  unfold L2.ixN
  rw [if_pos (by omega), if_pos (by omega)]; simp
theorem app_e {j : Nat} {me : ME G} {d : D} {ds : List D} (h : me env g = some (d, g1)) (hj : env.at j = .ow ds) (hl : ds.length < sizeLine) : mApp j me env g = some (.nx, env.set j (.ow (ds ++ [d])), g1) := by
  unfold mApp; rw [h]; dsimp only [bD]; rw [hj]; exact if_pos hl
theorem retOw_e {j : Nat} {ds : List D} (hj : env.at j = .ow ds) : mRetOw j env g = some (.rl ds, env.set j .un, g) := by unfold mRetOw; rw [hj]
end
end Pd
namespace Pd
open PySem
theorem neq_f {i j : Int} (h : i = j) : dNe (.int i) (.int j) = some (.bool false) := by rw [ne_int, h]; simp
theorem neq_t {i j : Int} (h : i ≠ j) : dNe (.int i) (.int j) = some (.bool true) := by rw [ne_int, beq_false_of_ne h]; rfl
/-- it tells d, and ends -/
def Re {G : Type} (d : D) (m : MS G) (env : Env) (g : G) : Prop := ∃ e g1, m env g = some (.re d, e, g1)
section
variable {G : Type} {env env1 e1 e2 : Env} {g g1 g2 g3 : G} {m1 m2 : MS G} {ma mb : ME G} {mt mu : MT G} {ml : ML G} {d : D}
theorem re_nx (h1 : m1 env g = some (.nx, e1, g1)) (h2 : Re d m2 e1 g1) : Re d (mSeq m1 m2) env g := by
  obtain ⟨e, g3, h⟩ := h2
  exact ⟨e, g3, seq_nx h1 h⟩
theorem re_in (h : Re d m1 env g) : Re d (mSeq m1 m2) env g := by
  obtain ⟨e, g3, h⟩ := h
  exact ⟨e, g3, seq_re h⟩
theorem re_ift (h : mt env g = some (true, g1)) (k : Re d m1 env g1) : Re d (mIfS mt m1 m2) env g := by
  obtain ⟨e, g3, k⟩ := k
  exact ⟨e, g3, if_t h k⟩
theorem re_iff (h : mt env g = some (false, g1)) (k : Re d m2 env g1) : Re d (mIfS mt m1 m2) env g := by
  obtain ⟨e, g3, k⟩ := k
  exact ⟨e, g3, if_f h k⟩
theorem re_ret (h : ma env g = some (d, g1)) : Re d (mRet ma) env g := ⟨_, _, ret_e h⟩
theorem re_e {e g3} (h : m1 env g = some (.re d, e, g3)) : Re d m1 env g := ⟨e, g3, h⟩
end
theorem runP_Re {N n : Nat} {m : MS Unit} {ds : List D} {d : D} (h : Re d m (startE N (ds.map .sh)) ()) (hn : ds.length = n ∧ n ≤ N := by exact ⟨rfl, by decide⟩) : runP N n m ds = some d := by
  obtain ⟨e, u, h⟩ := h
  exact runP_re h hn
end Pd
namespace Pd
open PySem
theorem any_e {α : Type} (l : List α) (f : α → Bool) : dAny [.list (l.map fun z => .bool (f z))] = some (.bool (l.any f)) := by
  have e : l.map (fun z => PyData.bool (f z)) = (l.map f).map .bool := by rw [List.map_map]; rfl
  rw [e]
  show (boolsD _).map _ = _
  rw [boolsD_map]
  show some (PyData.bool ((l.map f).any id)) = _
  rw [List.any_map]; rfl
theorem all_e {α : Type} (l : List α) (f : α → Bool) : dAll [.list (l.map fun z => .bool (f z))] = some (.bool (l.all f)) := by
  have e : l.map (fun z => PyData.bool (f z)) = (l.map f).map .bool := by rw [List.map_map]; rfl
  rw [e]
  show (boolsD _).map _ = _
  rw [boolsD_map]
  show some (PyData.bool ((l.map f).all id)) = _
  rw [List.all_map]; rfl
end Pd
namespace Pd
open PySem
section
variable {G : Type} {env e1 e2 : Env} {g g1 g2 g3 : G}
theorem setIx_iL {j : Nat} {mi me : ME G} {xs : List Int} {v : Int} {k : Nat} (h : me env g = some (.int v, g1)) (hi : mi env g1 = some (.int (k : Int), g2)) (hj : env.at j = .ow (xs.map .int)) (hk : k < xs.length) : mSetIx j mi me env g = some (.nx, env.set j (.ow ((xs.set k v).map .int)), g2) := by
  rw [setIx_e h hi hj (ixN_nat (by rw [List.length_map]; exact hk)), List.map_set]
end
end Pd
namespace Pd
open PySem
/-- it hands out the new list ds, and ends -/
def Rl {G : Type} (ds : List D) (m : MS G) (env : Env) (g : G) : Prop := ∃ e g1, m env g = some (.rl ds, e, g1)
section
variable {G : Type} {env env1 e1 e2 : Env} {g g1 g2 g3 : G} {m1 m2 : MS G} {ma mb : ME G} {mt mu : MT G} {ml : ML G} {ds : List D}
theorem rl_nx (h1 : m1 env g = some (.nx, e1, g1)) (h2 : Rl ds m2 e1 g1) : Rl ds (mSeq m1 m2) env g := by
  obtain ⟨e, g3, h⟩ := h2
  exact ⟨e, g3, seq_nx h1 h⟩
theorem rl_in (h : Rl ds m1 env g) : Rl ds (mSeq m1 m2) env g := by
  obtain ⟨e, g3, h⟩ := h
  exact ⟨e, g3, seq_rl h⟩
theorem rl_ift (h : mt env g = some (true, g1)) (k : Rl ds m1 env g1) : Rl ds (mIfS mt m1 m2) env g := by
  obtain ⟨e, g3, k⟩ := k
  exact ⟨e, g3, if_t h k⟩
theorem rl_iff (h : mt env g = some (false, g1)) (k : Rl ds m2 env g1) : Rl ds (mIfS mt m1 m2) env g := by
  obtain ⟨e, g3, k⟩ := k
  exact ⟨e, g3, if_f h k⟩
theorem rl_ret (h : ml env g = some (ds, g1)) : Rl ds (mRetF ml) env g := ⟨_, _, retF_e h⟩
theorem rl_retOw {j : Nat} (h : env.at j = .ow ds) : Rl ds (mRetOw j) env g := ⟨_, _, retOw_e h⟩
end
theorem runP_Rl {N n : Nat} {m : MS Unit} {ds xs : List D} (h : Rl xs m (startE N (ds.map .sh)) ()) (hn : ds.length = n ∧ n ≤ N := by exact ⟨rfl, by decide⟩) : runP N n m ds = some (.list xs) := by
  obtain ⟨e, u, h⟩ := h
  exact runP_rl h hn
theorem runN_Rl {N n : Nat} {m : MS Unit} {ds xs : List D} (h : Rl xs m (startE N (ds.map .sh)) ()) (hn : ds.length = n ∧ n ≤ N := by exact ⟨rfl, by decide⟩) : runN N n m ds = some xs := by
  obtain ⟨e, u, h⟩ := h
  exact runN_rl h hn
end Pd
namespace Pd
open PySem
theorem tup2_e {G : Type} {env e1 e2 : Env} {g g1 g2 : G} {b1 b2 : MTg G} {x y : D} (h1 : b1 x env g = some (e1, g1)) (h2 : b2 y e1 g1 = some (e2, g2)) : bTup 2 (bCons b1 (bCons b2 bNil)) (.tuple [x, y]) env g = some (e2, g2) := by
  show (b1 x env g).bind _ = _
  rw [h1]
  show (b2 y e1 g1).bind _ = _
  rw [h2]
  rfl
end Pd
namespace Pd
open PySem
section
variable {G : Type} {env e1 e2 : Env} {g g1 g2 g3 : G}
theorem intsD_mm : ∀ ns : List Int, intsD (ns.map .int) = some ns
  | [] => rfl
  | n :: ns => by show (intsD (ns.map .int)).map (n :: ·) = _; rw [intsD_mm ns]; rfl
theorem sum_e {α : Type} (l : List α) (f : α → Int) : dSum [.list (l.map fun z => .int (f z))] = some (.int ((l.map f).sum)) := by
  have e : l.map (fun z => PyData.int (f z)) = (l.map f).map .int := by rw [List.map_map]; rfl
  rw [e]
  show (intsD _).map _ = _
  rw [intsD_mm]
  rfl
end
end Pd

/-! Pd: targets by place, slices of one's own lists, sorted. -/
namespace Pd
open PySem PySem.Spec L2
section
variable {G : Type} {X : Cx} {S : Gs G} {K : PySem.W.Frag} {a b c e i : Expr} {es rest : List Expr} {pos : Pos} {ma mb me mi : ME G} {mt : MT G} {ml mk : ML G} {w : Wd} {env env' : Env} {g g' : G} {σ : St} {H H' I' : Hp}
/-! ### x[i] as a target, x a list of one's own -/
def bSub (j : Nat) (mi : ME G) : MTg G := fun d env g => bD (mi env g) fun i g1 => match env.at j, i with
  | .ow ds, .int i => (ixN ds.length i).map fun k => (env.set j (.ow (ds.set k d)), g1)
  | _, _ => none
theorem dg_sub (j : Nat) {x : Str} {xp : Pos} (hi : DE X S i mi) (hN : X.N[j]? = some x := by rfl) (hv : Vis X.env.scope x := by first | exact Or.inl rfl | exact Or.inr (Or.inl rfl) | exact Or.inr (Or.inr rfl)) (hd : (x == ("__debug__" : Str)) = false := by decide)
    (hcd : (x == ("__classdict__" : Str)) = false := by decide)
    (ha : ∀ v, assign (.Subscript (.Name x xp) i pos) X.env v = (do
      let ov ← holding [v] (eval (.Name x xp) X.env)
      let iv ← holding [v, ov] (eval i X.env)
      standAt pos
      holding [v, ov, iv] (setItem ov iv v)
      release [v, ov, iv] []) := by intro _; rfl) : DTg X S (.Subscript (.Name x xp) i pos) [j] (bSub j mi) where
  pg := PG.imp (pg_sub (pe_var hN hv hd hcd) hi set_list ha) fun v σ H Q ⟨w, env, g, d, env', g', R, pv, e, k⟩ => by
    obtain ⟨i, g2, e2, e⟩ := bD_some e
    split at e
    · rename_i ds i ej
      obtain ⟨n, en, e⟩ := Option.map_eq_some_iff.mp e
      cases e
      obtain ⟨p, vs, sj, hp, _⟩ := R.own ej
      refine ⟨_, sj, w, env, g, _, g', R, e2, fun u I2 H2 s2 R2 p2 => ?_⟩
      have s2 : Same w.I I2 := s2
      cases p2
      obtain ⟨p', us, sj', hp', hi, h0, hf, rb, hy⟩ := R2.own ej
      rw [sj] at sj'
      cases sj'
      refine ⟨p, us, i, n, rfl, rfl, hp', by rw [rb.len]; exact en, ?_⟩
      exact k σ I2 _ s2 (R2.setOw ej sj hp' hi h0 hf (rb.set (pv.mono s2) n) (by rw [List.length_set]; exact hy)) rfl fun _ _ => rfl
    · cases e
  ok := fun d env g env' g' e => by
    obtain ⟨i, g2, e2, e⟩ := bD_some e
    split at e
    · obtain ⟨n, en, e⟩ := Option.map_eq_some_iff.mp e
      cases e
      exact ⟨by rw [List.length_set], fun k hk => by rw [at_set, if_neg fun z => hk (by simp [z.1])]⟩
    · cases e
/-! ### x[lo:hi] = ys -/
def gSlice (to : TE) (tl th : TO) : TG := fun v σ H Q => to σ H fun o H1 => tl σ H1 fun l H2 => th σ H2 fun u H3 => ∃ p b xs ys a c, o = .ref p ∧ v = .ref b ∧ l = some a ∧ u = some c ∧ H3 p = some (.lst xs) ∧ H3 b = some (.lst ys) ∧ p ≠ b ∧
  0 ≤ a ∧ a ≤ c ∧ c ≤ xs.length ∧ xs.length + ys.length ≤ sizeLine ∧ Q σ (upd H3 p (.lst (xs.take a.toNat ++ ys ++ xs.drop c.toNat)))
theorem pg_slice {o : Expr} {lo hi : Option Expr} {p2 : Pos} {to : TE} {tl th : TO} (ho : PE X o to) (hl : PO X lo tl) (hh : PO X hi th)
    (ha : ∀ v, assign (.Subscript o (.Slice lo hi none p2) pos) X.env v = (do
      let ov ← holding [v] (eval o X.env)
      let iv ← holding [v, ov] (eval (.Slice lo hi none p2) X.env)
      standAt pos
      holding [v, ov, iv] (setItem ov iv v)
      release [iv, v, ov] []) := by intro _; rfl) : PG X (.Subscript o (.Slice lo hi none p2) pos) (gSlice to tl th) := by
  refine ⟨fun pins s σ H v u Q I r h => ?_⟩
  rw [ha]
  refine wpAny_bind (wpAny_holding (thn (ho.run pins s σ H _ I h) fun ov s1 ⟨x, H1, I1, r1, q1⟩ => ?_))
  refine wpAny_bind (wpAny_holding (wpAny_Slice (thn (hl.run pins s1 σ H1 _ I1 q1) fun vl s2 ⟨l, H2, I2, pl, q2⟩ => thn (hh.run pins s2 σ H2 _ I2 q2) fun vu s3 ⟨u', H3, I3, pu, q3⟩ => ?_)))
  rw [evalPart_none]
  refine wpAny_pure ?_
  have I4 : Inv X pins σ H3 { s3 with heap := s3.heap.push { cls := .type "slice", data := .fields #[vl, vu, .none] } } := I3.kept (t' := s3.toks) fun b ob q => Heap.get?_push_of_some _ q
  obtain ⟨p, b, xs, ys, a, c, rfl, rfl, rfl, rfl, hp, hb, hne, h0, hac, hc, hz, q⟩ := q3
  cases pl
  cases pu
  cases r1
  cases r
  refine wpAny_bind (wpAny_standAt (wpAny_bind (wpAny_holding ?_)))
  exact set_slice I4 hp hb hne (Heap.IsSliceOf.new ..) ⟨_, rfl⟩ ⟨_, rfl⟩ h0 hac hc hz fun s' I5 => wpAny_release ⟨σ, _, I5, q⟩
def mSetSl (j : Nat) (lo hi : MO G) (me : ME G) : MS G := fun env g => bD (me env g) fun d g1 => bD (lo env g1) fun l g2 => bD (hi env g2) fun h g3 => match env.at j, d, l, h with
  | .ow ds, .list ys, some a, some c => if 0 ≤ a ∧ a ≤ c ∧ c ≤ ds.length ∧ ds.length + ys.length ≤ sizeLine then some (.nx, env.set j (.ow (ds.take a.toNat ++ ys ++ ds.drop c.toNat)), g3) else none
  | _, _, _, _ => none
theorem rpa_take {I : Hp} : ∀ {vs : List V} {ds : List D}, RpA K I vs ds → ∀ n : Nat, RpA K I (vs.take n) (ds.take n)
  | _, _, .nil, n => by rw [List.take_nil, List.take_nil]; exact .nil
  | _, _, .cons _ _, 0 => .nil
  | _, _, .cons a b, n + 1 => .cons a (rpa_take b n)
theorem rpa_drop {I : Hp} : ∀ {vs : List V} {ds : List D}, RpA K I vs ds → ∀ n : Nat, RpA K I (vs.drop n) (ds.drop n)
  | _, _, .nil, n => by rw [List.drop_nil, List.drop_nil]; exact .nil
  | _, _, .cons a b, 0 => .cons a b
  | _, _, .cons a b, n + 1 => rpa_drop b n
theorem ds_setSl (j : Nat) {x : Str} {xp sp p2 : Pos} {lo hi : Option Expr} {mlo mhi : MO G} (he : DE X S e me) (hl : DO X S lo mlo) (hh : DO X S hi mhi) (hN : X.N[j]? = some x := by rfl) (hv : Vis X.env.scope x := by first | exact Or.inl rfl | exact Or.inr (Or.inl rfl) | exact Or.inr (Or.inr rfl)) (hd : (x == ("__debug__" : Str)) = false := by decide)
    (hcd : (x == ("__classdict__" : Str)) = false := by decide)
    (ha : ∀ v, assign (.Subscript (.Name x xp) (.Slice lo hi none p2) sp) X.env v = (do
      let ov ← holding [v] (eval (.Name x xp) X.env)
      let iv ← holding [v, ov] (eval (.Slice lo hi none p2) X.env)
      standAt sp
      holding [v, ov, iv] (setItem ov iv v)
      release [iv, v, ov] []) := by intro _; rfl)
    (hs : swapsWithSole [.Subscript (.Name x xp) (.Slice lo hi none p2) sp] e pos.line X.env = pure false := by rfl) (hw : swappedStores [.Subscript (.Name x xp) (.Slice lo hi none p2) sp] e X.env = pure none := by rfl)
    (h1 : (assignEach [.Subscript (.Name x xp) (.Slice lo hi none p2) sp] X.env).map (·.2) = [assign (.Subscript (.Name x xp) (.Slice lo hi none p2) sp) X.env] := by rfl) :
    DS X S (.Assign [.Subscript (.Name x xp) (.Slice lo hi none p2) sp] e pos) (mSetSl j mlo mhi me) := PS.imp (ps_asg he (pg_slice (pe_var hN hv hd hcd) hl.po hh.po ha) hs hw h1) fun D σ H ⟨w, env, g, ct, env', g', R, e, k⟩ => by
  obtain ⟨d, g1, e1, e⟩ := bD_some e
  obtain ⟨l, g2, e2, e⟩ := bD_some e
  obtain ⟨h, g3, e3, e⟩ := bD_some e
  split at e
  · rename_i ds ys a c ej _ _
    split at e
    · rename_i hz
      cases e
      refine ⟨w, env, g, _, g1, R, e1, fun v I1 H1 s1 R1 p1 => ?_⟩
      obtain ⟨p, vs, sj, hp, _⟩ := R1.own ej
      refine ⟨_, sj, w.im I1, env, g1, _, g2, R1, e2, fun I2 H2 s2 R2 => ⟨w.im I2, env, g2, _, g', R2, e3, fun I3 H3 s3 R3 => ?_⟩⟩
      have s2 : Same I1 I2 := s2
      have s3 : Same I2 I3 := s3
      cases p1 with
      | lst hb rb hy =>
        obtain ⟨p', us, sj', hp', hi, h0, hf, ra, hx⟩ := R3.own ej
        rw [sj] at sj'
        cases sj'
        have hb3 := s3 _ _ (s2 _ _ hb)
        refine ⟨p, _, us, _, a, c, rfl, rfl, rfl, rfl, hp', R3.eI _ _ hb3, fun z => ?_, hz.1, hz.2.1, by rw [ra.len]; exact hz.2.2.1, by rw [ra.len, rb.len]; exact hz.2.2.2, ?_⟩
        · have hi : I3 p = none := hi
          rw [z, hb3] at hi; cases hi
        · refine k σ I3 _ (s1.trans (s2.trans s3)) (R3.setOw ej sj hp' hi h0 hf (((rpa_take ra _).append (rb.mono (s2.trans s3))).append (rpa_drop ra _)) ?_)
          have := hz.2.2.2
          rw [List.length_append, List.length_append, List.length_take, List.length_drop]
          omega
    · cases e
  · cases e
/-- x[lo:hi] of a list of one's own -/
def mSlOw (j : Nat) (lo hi : MO G) : ML G := fun env g => bD (lo env g) fun l g2 => bD (hi env g2) fun h g3 => match env.at j with
  | .ow ds => some (cut ds l h, g3)
  | _ => none
theorem df_sliceOw (j : Nat) {x : Str} {xp p2 : Pos} {lo hi : Option Expr} {mlo mhi : MO G} (hl : DO X S lo mlo) (hh : DO X S hi mhi) (hN : X.N[j]? = some x := by rfl) (hv : Vis X.env.scope x := by first | exact Or.inl rfl | exact Or.inr (Or.inl rfl) | exact Or.inr (Or.inr rfl)) (hd : (x == ("__debug__" : Str)) = false := by decide)
    (hcd : (x == ("__classdict__" : Str)) = false := by decide) : DF X S (.Subscript (.Name x xp) (.Slice lo hi none p2) pos) (mSlOw j mlo mhi) := PE.imp (pe_slice sl_list (pe_var hN hv hd hcd) hl.po hh.po) fun σ H Q q => by
  obtain ⟨w, env, g, d, g', R, e, k⟩ := q
  obtain ⟨l, g2, e2, e⟩ := bD_some e
  obtain ⟨h, g3, e3, e⟩ := bD_some e
  split at e
  · rename_i ds ej
    cases e
    obtain ⟨p, vs, sj, hp, _⟩ := R.own ej
    refine ⟨_, sj, w, env, g, l, g2, R, e2, fun I2 H2 s2 R2 => ⟨w.im I2, env, g2, h, g', R2, e3, fun I3 H3 s3 R3 => ?_⟩⟩
    have s2 : Same w.I I2 := s2
    have s3 : Same I2 I3 := s3
    obtain ⟨p', us, sj', hp', hi, h0, hf, ra, hx⟩ := R3.own ej
    rw [sj] at sj'
    cases sj'
    refine ⟨_, _, rfl, SqL.of hp', fun p h0 => ?_⟩
    exact k p _ I3 _ (s2.trans s3) (R3.alloc h0) (R3.nob h0) upd_same (cut_rp ra l h) (Nat.le_trans (cut_le ds l h) hx)
  · cases e
/-! ### a new list by a test -/
theorem df_if (hc : DT X S c mt) (ha : DF X S a ml) (hb : DF X S b mk) : DF X S (.IfExp c a b pos) (mIf mt ml mk) := PE.imp (pe_ifExp hc ha hb) fun σ H Q q => by
  obtain ⟨w, env, g, d, g', R, e, k⟩ := q
  obtain ⟨x, g1, e1, e⟩ := bD_some e
  refine ⟨w, env, g, x, g1, R, e1, fun I1 H1 s1 R1 => ?_⟩
  cases x with
  | true => exact ⟨w.im I1, env, g1, d, g', R1, e, fun p vs I2 H2 s2 R2 => k p vs I2 H2 (s1.trans s2) R2⟩
  | false => exact ⟨w.im I1, env, g1, d, g', R1, e, fun p vs I2 H2 s2 R2 => k p vs I2 H2 (s1.trans s2) R2⟩
end
end Pd
namespace Pd
open PySem
section
variable {G : Type} {env e1 e2 : Env} {g g1 g2 g3 : G}
theorem lendT_e {js : List Nat} {mt : MT G} {r} (h0 : (env.lend js).noOw = true) (h : mt (env.lend js) g = r) : mLendT js mt env g = r := by unfold mLendT; rw [if_pos h0]; exact h
theorem frz_e {j : Nat} {m : MS G} {r} (h : m (env.frz j) g = r) : mFrz j m env g = r := h
theorem slOw_e {j : Nat} {lo hi : MO G} {l h : Option Int} {ds : List D} (hl : lo env g = some (l, g1)) (hh : hi env g1 = some (h, g2)) (hj : env.at j = .ow ds) : mSlOw j lo hi env g = some (cut ds l h, g2) := by
  unfold mSlOw; rw [hl]; dsimp only [bD]; rw [hh]; dsimp only [bD]; rw [hj]
theorem catOw_e {j : Nat} {mb : ME G} {ds ys : List D} (hb : mb env g = some (.list ys, g1)) (hj : env.at j = .ow ds) (hl : ds.length + ys.length ≤ sizeLine) : mCatOw j mb env g = some (ds ++ ys, g1) := by
  unfold mCatOw; rw [hb]; dsimp only [bD]; rw [hj]; exact if_pos hl
end
end Pd

/-! Pd: sorted. -/
namespace Pd
open PySem PySem.Spec L2
section
variable {G : Type} {X : Cx} {S : Gs G} {K : PySem.W.Frag}
def rSortD (K : PySem.W.Frag) : List V → Hp → VK → Prop := fun vs H Q => ∃ a xs ds, vs = [.ref a] ∧ SqL K H a xs ∧ DpAll K H xs ds ∧ PySem.W.AllAlike ds ∧ PySem.W.Sortable ds ∧ (∀ d ∈ ds, d.depth ≤ 60) ∧
  ∀ p, H p = none → Q (.ref p) (upd H p (.lst (((xs.zip ds).mergeSort (PySem.W.dataLe false Prod.snd)).map (·.1))))
theorem each_rel {xs : List V} {us : List Value} (h : Vals xs us) : ∀ {ds : List D}, ds.length = xs.length → PySem.W.EachIs (fun (v : Value) (b : V × D) => RelV b.1 v) us (xs.zip ds) := by
  induction h with
  | nil => intro ds _; exact .nil
  | cons r t ih =>
    intro ds hl
    cases ds with
    | nil => cases hl
    | cons d ds => exact .cons r (ih (by simpa using hl))
theorem each_reads {h : Heap} : ∀ {us : List Value} {ds : List D} {as : List Addr} {xs : List V}, ReadsAll h us ds as → xs.length = ds.length → PySem.W.EachIs (fun (v : Value) (b : V × D) => ∃ as, Reads h v b.2 as) us (xs.zip ds)
  | _, [], _, xs, r, hl => by
    cases r
    cases xs with
    | nil => exact .nil
    | cons _ _ => cases hl
  | _, d :: ds, _, xs, r, hl => by
    cases r with
    | cons r1 r2 =>
      cases xs with
      | nil => cases hl
      | cons x xs => exact .cons ⟨_, r1⟩ (each_reads r2 (by simpa using hl))
theorem vals_each {us : List Value} {bs : List (V × D)} (h : PySem.W.EachIs (fun (v : Value) (b : V × D) => RelV b.1 v) us bs) : Vals (bs.map (·.1)) us := by
  induction h with
  | nil => exact .nil
  | cons r _ ih => exact .cons r ih
theorem cr_sortD (hu : X.A.units + 65 < cLine) : CallR X (.builtin "sorted") (rSortD X.K) := by
  intro pins s σ H vs us Q I r h
  obtain ⟨a, xs, ds, rfl, hs, hd, hal, hso, hde, q⟩ := h
  obtain ⟨its, rv, hl, hz⟩ := I.list hs
  obtain ⟨u, rfl, ru⟩ := vals1 r
  obtain rfl : u = Value.ref a := ru
  obtain ⟨as, rd⟩ := Dp.readsAll I ds xs its hd rv
  have hlen : ∀ {vs : List V} {ds : List D}, DpAll X.K H vs ds → ds.length = vs.length := fun {vs ds} h => by
    induction vs generalizing ds with
    | nil => cases h; rfl
    | cons v vs ih => cases h with | cons h1 h2 => rw [List.length_cons, List.length_cons, ih h2]
  have hl2 := hlen hd
  have em : (xs.zip ds).map Prod.snd = ds := List.map_snd_zip (by omega)
  refine PySem.W.sorted_data (vs := its) (bs := xs.zip ds) (enc := Prod.snd) (R := fun v b => RelV b.1 v) hl.isList (each_rel rv hl2) (each_reads rd hl2.symm) (by rw [em]; exact hal) (by rw [em]; exact hso) (by rw [List.length_zip]; omega) (fun b hb => ?_) fun out ho eo => ?_
  · have := hde b.2 (by rw [← em]; exact List.mem_map.mpr ⟨b, hb, rfl⟩)
    omega
  · obtain ⟨n, hn⟩ := PyProof.Rows.sortedAll_at s.heap its out.toArray
    refine ⟨.ref (s.heap.objs.size + 1), upd H _ (.lst _), I.laid (t' := s.toks) (fun b o e => PyProof.Rows.sortedAll_old e) (Nat.le_succ _) ⟨?_, out, n, vals_each eo, hn⟩, rfl, q _ (I.hok.fresh (Nat.le_succ _))⟩
    rw [List.length_map, (List.mergeSort_perm _ _).length_eq, List.length_zip]; omega
/-- the premises, as tests -/
def alikeB (ds : List D) : Bool := ds.all fun d => ds.all fun d' => PySem.W.alike d d'
def isTupNe : D → Bool
  | .tuple (_ :: _) => true
  | _ => false
def notTup : D → Bool
  | .tuple _ => false
  | .none => false
  | _ => true
def dSorted : List D → Option (List D)
  | [.list ds] => if alikeB ds = true ∧ ((ds.all isTupNe) = true ∨ (ds.all notTup) = true) ∧ (ds.all fun d => decide (d.depth ≤ 60)) = true then some (ds.mergeSort (PySem.W.dataLe false id)) else none
  | _ => none
theorem alikeB_of {ds : List D} (h : alikeB ds = true) : PySem.W.AllAlike ds := fun d hd d' hd' => List.all_eq_true.mp (List.all_eq_true.mp h d hd) d' hd'
theorem sortable_of {ds : List D} (h : (ds.all isTupNe) = true ∨ (ds.all notTup) = true) : PySem.W.Sortable ds := by
  rcases h with h | h
  · refine .inl fun d hd => ?_
    have := List.all_eq_true.mp h d hd
    cases d with
    | tuple xs =>
      cases xs with
      | nil => cases this
      | cons x r => exact ⟨x, r, rfl⟩
    | _ => cases this
  · refine .inr fun d hd => ?_
    have := List.all_eq_true.mp h d hd
    constructor
    · rintro rfl; cases this
    · rintro xs rfl; cases this
theorem RpA.zip_map {I : Hp} {xs : List V} {ds : List D} (h : RpA K I xs ds) : ∀ b ∈ xs.zip ds, Rp K I b.1 b.2 := by
  induction xs generalizing ds with
  | nil => intro b hb; rw [List.zip_nil_left] at hb; cases hb
  | cons x xs ih =>
    cases h with
    | cons h1 h2 =>
      intro b hb
      rw [List.zip_cons_cons] at hb
      rcases List.mem_cons.mp hb with e | e
      · rw [e]; exact h1
      · exact ih h2 b e
theorem rpa_pairs {I : Hp} : ∀ {bs : List (V × D)}, (∀ b ∈ bs, Rp K I b.1 b.2) → RpA K I (bs.map (·.1)) (bs.map (·.2))
  | [], _ => .nil
  | b :: bs, h => .cons (h b (by simp)) (rpa_pairs fun b' hb => h b' (List.mem_cons_of_mem _ hb))
theorem RpA.dpAll {I : Hp} : ∀ {xs : List V} {ds : List D}, RpA K I xs ds → DpAll K I xs ds
  | _, _, .nil => .nil
  | _, _, .cons a b => .cons a.dp b.dpAll
theorem cf_sorted : CallF K (rSortD K) dSorted := by
  intro I H xs ds zs s p hz Q k
  cases p with
  | nil => cases hz
  | cons a b =>
    cases b with
    | cons _ _ => cases a <;> cases hz
    | nil =>
      cases a with
      | lst hp ra hl =>
        rename_i p us es
        have hz : (if _ then _ else none) = some zs := hz
        split at hz
        · rename_i hc
          cases hz
          refine ⟨_, us, es, rfl, SqL.of (s _ _ hp), (ra.mono s).dpAll, alikeB_of hc.1, sortable_of hc.2.1, fun d hd => of_decide_eq_true (List.all_eq_true.mp hc.2.2 d hd), fun p h0 => ?_⟩
          have hlen := ra.len
          have em : (us.zip es).map Prod.snd = es := List.map_snd_zip (by omega)
          have e2 : es.mergeSort (PySem.W.dataLe false id) = ((us.zip es).mergeSort (PySem.W.dataLe false Prod.snd)).map (·.2) := by
            have := List.map_mergeSort (r := PySem.W.dataLe false (Prod.snd : V × D → D)) (s := PySem.W.dataLe false (id : D → D)) (f := Prod.snd) (l := us.zip es) fun _ _ _ _ => rfl
            rw [em] at this
            exact this.symm
          refine k p _ _ h0 (same_new h0) upd_same ?_ ?_
          · rw [e2]
            exact rpa_pairs fun b hb => RpA.zip_map ra b ((List.mergeSort_perm _ _).mem_iff.mp hb)
          · rw [(List.mergeSort_perm _ _).length_eq]; exact hl
        · cases hz
      | _ => cases hz
end
end Pd

/-! Pd: defs that call themselves; slices of tuples; is with truth values; index in a list; draws of the kind C. -/
namespace Pd
open PySem PySem.Spec L2
section
variable {G : Type} {X : Cx} {S : Gs G} {P : Program} {wd : World} {K : PySem.W.Frag} {mg : Str → Option Value} {base : Heap} {a b c e : Expr} {es : List Expr} {pos : Pos} {ma mb me : ME G} {ml : ML G}
variable {w : Wd} {env env' : Env} {g g' g1 g2 g3 : G} {σ : St} {H H' I' : Hp}
/-! ### a def whose promise promises nothing (no fuel is left) -/
theorem def_no {x qual : Str} {st : Stmt} {N ps : List Str} {k : Nat} {sp : Sp} (h : Dfn K mg x qual st ps) (Sc : FnScope N ps (defScope st)) (hn : ∀ vs H Q E, ¬ sp vs H Q E) : Def1 P wd K mg base x ps (k + 1) sp := by
  obtain ⟨f, fd, F, hm, hB⟩ := h.ex
  exact ⟨f, fd, F.ok Sc (fun vs H Q E q => (hn _ _ _ _ q).elim) (fun cdv A outer s H vs Q E hr q => (hn _ _ _ _ q).elim), hm, F.kp, hB⟩
theorem spP_no (vs : List V) (H : Hp) (Q : VK) (E : XK) : ¬ spP K (fun _ => none) vs H Q E := fun ⟨_, _, _, _, _, e, _⟩ => by cases e
theorem spN_no (vs : List V) (H : Hp) (Q : VK) (E : XK) : ¬ spN K (fun _ => none) vs H Q E := fun ⟨_, _, _, _, _, e, _⟩ => by cases e
theorem spG_no (vs : List V) (H : Hp) (Q : VK) (E : XK) : ¬ spG K S (fun _ _ => none) vs H Q E := fun ⟨_, _, _, _, _, _, _, _, _, e, _⟩ => by cases e
/-! ### a tuple's slice -/
def partT {α : Type} (xs : List α) (lo hi : Option Int) : Bool := !(decide (HT.sIx xs.length 0 lo = 0) && decide (HT.sIx xs.length xs.length hi = xs.length))
def mSlT (ma : ME G) (lo hi : MO G) : ME G := fun env g => bD (ma env g) fun x g1 => bD (lo env g1) fun l g2 => bD (hi env g2) fun h g3 => match x with
  | .tuple ds => if partT ds l h = true then some (.tuple (cut ds l h), g3) else none
  | _ => none
theorem de_sliceT {lo hi : Option Expr} {ml mh : MO G} {p2 : Pos} (ha : DE X S a ma) (hl : DO X S lo ml) (hh : DO X S hi mh) : DE X S (.Subscript a (.Slice lo hi none p2) pos) (mSlT ma ml mh) := PE.imp (pe_slice sl_tup ha hl.po hh.po) fun σ H Q q => by
  obtain ⟨w, env, g, d, g', R, e, k⟩ := q
  obtain ⟨x, g1, e1, e⟩ := bD_some e
  obtain ⟨l, g2, e2, e⟩ := bD_some e
  obtain ⟨h, g3, e3, e⟩ := bD_some e
  cases x with
  | tuple ds =>
    have e : (if partT ds l h = true then some (PyData.tuple (cut ds l h), g3) else none) = some (d, g') := e
    split at e
    · rename_i hw
      cases e
      refine ⟨w, env, g, _, g1, R, e1, fun v I1 H1 s1 R1 p1 => ⟨w.im I1, env, g1, l, g2, R1, e2, fun I2 H2 s2 R2 => ⟨w.im I2, env, g2, h, g', R2, e3, fun I3 H3 s3 R3 => ?_⟩⟩⟩
      cases p1 with
      | tup hp ra hz =>
        rename_i ad xs
        refine ⟨_, _, rfl, same_t R3.eI (same_t s3 (same_t s2 hp)), ?_, fun p h0 => ?_⟩
        · rw [ra.len]
          intro z
          unfold partT at hw
          rw [decide_eq_true z.1, decide_eq_true z.2] at hw
          cases hw
        · have n := R3.nob (o := .tup (cutV xs l h)) h0
          have R4 := (R3.alloc (o := .tup (cutV xs l h)) h0).freeze n upd_same
          refine k (.ref p) _ _ (s1.trans (s2.trans (s3.trans (same_new n.i)))) R4 ?_
          exact .tup (SqT.of upd_same) ((cut_rp (ra.mono (s2.trans s3)) l h).mono (same_new n.i)) (Nat.le_trans (cut_le ds l h) hz)
    · cases e
  | _ => cases e
theorem slT_e {lo hi : MO G} {xs : List D} {l h : Option Int} (ha : ma env g = some (.tuple xs, g1)) (hl : lo env g1 = some (l, g2)) (hh : hi env g2 = some (h, g3)) (hp : partT xs l h = true) : mSlT ma lo hi env g = some (.tuple (cut xs l h), g3) := by
  unfold mSlT
  rw [ha]; dsimp only [bD]; rw [hl]; dsimp only [bD]; rw [hh]; dsimp only [bD]; rw [if_pos hp]
/-! ### is True, is False -/
theorem op_isB : OpR X (compareOp .Is) (fun x y H Q => (∃ b, y = .bl b) ∧ Q (.bl (decide (x = y))) H) := by
  intro pins s σ H x y v u Q I rx ry h
  obtain ⟨⟨b, rfl⟩, q⟩ := h
  cases (show u = Value.bool b from ry)
  by_cases e : x = .bl b
  · subst e
    cases (show v = Value.bool b from rx)
    exact wpAny_is_self rfl ⟨.bl true, H, I, rfl, by simpa using q⟩
  · have q : Q (.bl false) H := by simpa [e] using q
    refine wpAny_is_other (a := v) (b := .bool b) ?_ (fun z => ?_) ⟨.bl false, H, I, rfl, q⟩
    · cases x <;> first | (cases rx; rfl) | (obtain ⟨t, rfl⟩ := rx; rfl)
    · subst z
      cases x <;> first | (cases rx; done) | (obtain ⟨t, z⟩ := rx; cases z; done) | skip
      cases (show Value.bool b = Value.bool _ from rx)
      exact e rfl
theorem op_isNB : OpR X (compareOp .IsNot) (fun x y H Q => (∃ b, y = .bl b) ∧ Q (.bl (!decide (x = y))) H) := by
  intro pins s σ H x y v u Q I rx ry h
  obtain ⟨⟨b, rfl⟩, q⟩ := h
  cases (show u = Value.bool b from ry)
  by_cases e : x = .bl b
  · subst e
    cases (show v = Value.bool b from rx)
    exact wpAny_isNot_self rfl ⟨.bl false, H, I, rfl, by simpa using q⟩
  · have q : Q (.bl true) H := by simpa [e] using q
    refine wpAny_isNot_other (a := v) (b := .bool b) ?_ (fun z => ?_) ⟨.bl true, H, I, rfl, q⟩
    · cases x <;> first | (cases rx; rfl) | (obtain ⟨t, rfl⟩ := rx; rfl)
    · subst z
      cases x <;> first | (cases rx; done) | (obtain ⟨t, z⟩ := rx; cases z; done) | skip
      cases (show Value.bool b = Value.bool _ from rx)
      exact e rfl
def isBd (b : Bool) : D → Bool
  | .bool c => c == b
  | _ => false
def dIsB : D → D → Option D
  | x, .bool b => some (.bool (isBd b x))
  | _, _ => none
def dIsNB : D → D → Option D
  | x, .bool b => some (.bool (!isBd b x))
  | _, _ => none
theorem isBd_rp {I : Hp} {v : V} {d : D} {b : Bool} (h : Rp K I v d) : decide (v = .bl b) = isBd b d := by
  cases h with
  | bl c => cases b <;> cases c <;> rfl
  | _ => simp [isBd]
theorem od_isB : OpD K (fun x y H Q => (∃ b, y = .bl b) ∧ Q (.bl (decide (x = y))) H) dIsB := by
  intro I H x y d e z s p q hz Q k
  cases q with
  | bl b => cases hz; exact ⟨⟨b, rfl⟩, by rw [isBd_rp p]; exact k _ I H (Pst.refl s) (.bl _)⟩
  | _ => cases hz
theorem od_isNB : OpD K (fun x y H Q => (∃ b, y = .bl b) ∧ Q (.bl (!decide (x = y))) H) dIsNB := by
  intro I H x y d e z s p q hz Q k
  cases q with
  | bl b => cases hz; exact ⟨⟨b, rfl⟩, by rw [isBd_rp p]; exact k _ I H (Pst.refl s) (.bl _)⟩
  | _ => cases hz
/-! ### xs.index(x), xs a list of data -/
def dIndexL : D → D → Option D
  | .list ds, d => if d.depth ≤ 64 ∧ (PyData.list ds).depth ≤ 64 then (ds.findIdx? fun z => PyData.eqv z d).map fun (j : Nat) => PyData.int (j : Int) else none
  | _, _ => none
theorem find_at {p : D → Bool} : ∀ {ds : List D} {j : Nat}, ds.findIdx? p = some j → (∃ z, ds[j]? = some z ∧ p z = true) ∧ ∀ (m : Nat) (z : D), m < j → ds[m]? = some z → p z = false := by
  intro ds j h
  obtain ⟨hl, hp, hn⟩ := List.findIdx?_eq_some_iff_getElem.mp h
  refine ⟨⟨_, List.getElem?_eq_getElem hl, hp⟩, fun m z hm hz => ?_⟩
  have := hn m hm
  obtain ⟨h1, h2⟩ := List.getElem?_eq_some_iff.mp hz
  rw [h2] at this
  simpa using this
theorem de_indexL {ap : Pos} (hu : X.A.units + 65 < cLine) (ho : DE X S a ma) (he : DE X S e me)
    (hbase : attributeBase a "index" X.env (eval a X.env) = eval a X.env := by rfl)
    (hfew : ((backTo pos (starEach [e] X.env)).all (fun x => !x.1) && (backToKw pos (keywordEach [] X.env)).all (fun x => x.1.isSome)
      && decide ([e].length + ([] : List Keyword).length + (if ([] : List Keyword).isEmpty then 0 else 1) < 30)) = true := by rfl)
    (hline : (ap.endLine == pos.line) = true := by rfl) (hs : starEach [e] X.env = (false, eval e X.env) :: starEach [] X.env := by rfl) (hplain : (backTo pos (starEach [] X.env)).any (·.1) = false := by rfl) :
    DE X S (.Call (.Attribute a "index" ap) [e] [] pos) (mOp dIndexL ma me) :=
  PE.imp (pe_bm PySem.F.plainAttrs_list PySem.F.slot_list_index PySem.F.type_list_index (mt_indexD hu) ho (da_cons (S := S) he da_nil hs) hbase hfew hline hs hplain) fun σ H Q q => by
    obtain ⟨w, env, g, d, g', R, e, k⟩ := q
    obtain ⟨x, g1, e1, e⟩ := bD_some e
    obtain ⟨y, g2, e2, e⟩ := bD_some e
    obtain ⟨e3, rfl⟩ := map_some e
    refine ⟨w, env, g, x, g1, R, e1, fun v I1 H1 s1 R1 p1 => ?_⟩
    cases x with
    | list ds =>
      have e3 : (if y.depth ≤ 64 ∧ (PyData.list ds).depth ≤ 64 then (ds.findIdx? fun z => PyData.eqv z y).map fun (j : Nat) => PyData.int (j : Int) else none) = some d := e3
      split at e3
      · rename_i hc
        obtain ⟨j, ej, rfl⟩ := Option.map_eq_some_iff.mp e3
        obtain ⟨⟨z, hz, hzj⟩, hno⟩ := find_at ej
        cases p1 with
        | lst hp ra hl =>
          refine ⟨.inl ⟨rfl, _, SqL.of (R1.eI _ _ hp)⟩, w.im I1, env, g1, [y], g', R1, ?_, fun us I2 H2 s2 R2 rb => ?_⟩
          · show bD (me env g1) (fun x g1 => bD (mNil env g1) fun xs g2 => some (x :: xs, g2)) = some ([y], g')
            rw [e2]; rfl
          · cases rb with
            | cons r q =>
              cases q
              have pl : Rp X.K I2 _ (PyData.list ds) := .lst (s2 _ _ hp) (ra.mono s2) hl
              exact ⟨_, _, y, ds, j, z, rfl, rfl, (pl.mono R2.eI).dp, (r.mono R2.eI).dp, shaped_of pl hc.2, shaped_of r hc.1, hz, hzj, hno, k _ I2 H2 (s1.trans s2) R2 (.int _)⟩
      · cases e3
    | _ => cases e3
end
end Pd

/-! Pd: draws of the kind C: a list of two numbers, the script as it is. -/
namespace Pd
open PySem PySem.Spec L2
structure Dc where
  s : Addr
  c : Addr
  tr : Bool
  a : Int
  b : Int
  ns : List Int
/-- the script stands: known to the heap, or one of the text's own objects -/
def ScrOk (K : PySem.W.Frag) (g : Dc) (H : Hp) : Prop := if g.tr = true then Rd H g.c (.lst (g.ns.map V.int)) else ∀ H' : Hp, SqL K H' g.c (g.ns.map V.int)
def drC (K : PySem.W.Frag) : Gs Dc where
  fp := fun g x => x = g.s ∨ (x = g.c ∧ g.tr = true)
  ok := fun g H => H g.s = some (.lst [.int g.a, .int g.b]) ∧ (g.tr = true → g.s ≠ g.c) ∧ ScrOk K g H
  root := fun g => .ref g.s
  loc := fun {g H H'} h ⟨h1, h2, h3⟩ => ⟨(h _ (.inl rfl)).trans h1, h2, by
    unfold ScrOk at h3 ⊢
    by_cases z : g.tr = true
    · rw [if_pos z] at h3 ⊢
      unfold Rd at h3 ⊢
      rw [h _ (.inr ⟨rfl, z⟩)]
      exact h3
    · rw [if_neg z] at h3 ⊢
      exact h3⟩
  dom := fun {g H x} ⟨h1, h2, h3⟩ hx => by
    rcases hx with rfl | ⟨rfl, z⟩
    · rw [h1]; simp
    · unfold ScrOk at h3
      rw [if_pos z] at h3
      rcases h3 with h | ⟨o, h⟩ <;> rw [h] <;> simp
theorem ScrOk.sq {K : PySem.W.Frag} {g : Dc} {H : Hp} (h : ScrOk K g H) : SqL K H g.c (g.ns.map V.int) := by
  unfold ScrOk at h
  by_cases z : g.tr = true
  · rw [if_pos z] at h; exact .inl h
  · rw [if_neg z] at h; exact h H
section
variable {X : Cx} {P : Program} {wd : World} {K : PySem.W.Frag} {mg : Str → Option Value} {base : Heap} {a b c e : Expr} {es : List Expr} {pos : Pos} {ma mb me mi : ME Dc} {ml : ML Dc}
variable {w : Wd} {env env' : Env} {g g' g1 g2 g3 : Dc} {σ : St} {H H' I' : Hp}
theorem Rel.stA {j : Nat} (R : Rel K (drC K) w env g σ H) (e : env.at j = .st) : σ[j]? = some (some (.ref g.s)) := by
  have q := R.slot j
  rw [e] at q
  have q : σ[j]? = some (some w.rt) := q
  rw [q, ← R.grt]
  rfl
/-- the state behind a write -/
theorem drC_set {xa xb : Int} (R : Rel K (drC K) w env g σ H) : Rel K (drC K) w env { g with a := xa, b := xb } σ (upd H g.s (.lst [.int xa, .int xb])) := by
  have n0 : w.I g.s = none := R.fI g.s ((R.gfp g.s).mp (.inl rfl))
  have nH : w.H0 g.s = none := R.f0 g.s ((R.gfp g.s).mp (.inl rfl))
  obtain ⟨h1, h2, h3⟩ := R.gok
  have ks := R.keepS (w' := w) (H' := upd H g.s (.lst [.int xa, .int xb])) (Same.refl _) rfl fun i a f => by
    obtain ⟨a1, a2, a3, _⟩ := (R.slot i).fr f
    exact ⟨upd_ne fun z => a3 (by rw [z]; exact (R.gfp g.s).mp (.inl rfl)), a1, a2, a3⟩
  exact {
    e0 := fun x o q => by rw [upd_ne fun z => by rw [z, nH] at q; cases q]; exact R.e0 x o q
    eI := fun x o q => by rw [upd_ne fun z => by rw [z, n0] at q; cases q]; exact R.eI x o q
    ag := R.ag
    ge := R.ge
    gfp := R.gfp
    grt := R.grt
    gok := ⟨upd_same, h2, by
      unfold ScrOk at h3 ⊢
      by_cases z : g.tr = true
      · have z' : ({ g with a := xa, b := xb } : Dc).tr = true := z
        rw [if_pos z] at h3
        rw [if_pos z']
        show Rd (upd H g.s _) g.c (.lst (g.ns.map V.int))
        unfold Rd at h3 ⊢
        rw [upd_ne (h2 z).symm]
        exact h3
      · have z' : ¬ ({ g with a := xa, b := xb } : Dc).tr = true := z
        rw [if_neg z] at h3
        rw [if_neg z']
        exact h3⟩
    fI := R.fI
    f0 := R.f0
    len := R.len
    slot := ks.1
    dis := ks.2 }
/-- state[i] -/
def mStIx (j : Nat) (mi : ME Dc) : ME Dc := fun env g => bD (mi env g) fun i g1 => match env.at j, i with
  | .st, .int i => if i = 0 then some (.int g1.a, g1) else if i = 1 then some (.int g1.b, g1) else none
  | _, _ => none
theorem de_stIx (j : Nat) {x : Str} {xp : Pos} {i : Expr} {mi : ME Dc} (hi : DE X (drC X.K) i mi) (hN : X.N[j]? = some x := by rfl) (hv : Vis X.env.scope x := by first | exact Or.inl rfl | exact Or.inr (Or.inl rfl) | exact Or.inr (Or.inr rfl)) (hd : (x == ("__debug__" : Str)) = false := by decide)
    (hcd : (x == ("__classdict__" : Str)) = false := by decide) (hs : PlainIx i := by exact fun _ _ => rfl) : DE X (drC X.K) (.Subscript (.Name x xp) i pos) (mStIx j mi) := PE.imp (pe_ix ix_list (pe_var hN hv hd hcd) hi hs) fun σ H Q ⟨w, env, g, d, g', R, e, k⟩ => by
  obtain ⟨i, g1, e1, e⟩ := bD_some e
  split at e
  · rename_i _ i ej
    have sj := R.stA ej
    refine ⟨_, sj, w, env, g, _, g1, R, e1, fun u I2 H2 s2 R2 p2 => ?_⟩
    cases p2
    have sj2 := R2.stA ej
    rw [sj] at sj2
    have eg : g.s = g1.s := by injection sj2 with z; injection z with z; injection z
    by_cases h0 : i = 0
    · rw [if_pos h0] at e
      cases e
      subst h0
      exact ⟨_, _, 0, _, rfl, rfl, by rw [eg]; exact SqL.of R2.gok.1, rfl, k _ I2 H2 s2 R2 (.int _)⟩
    · rw [if_neg h0] at e
      by_cases h1 : i = 1
      · rw [if_pos h1] at e
        cases e
        subst h1
        exact ⟨_, _, 1, _, rfl, rfl, by rw [eg]; exact SqL.of R2.gok.1, rfl, k _ I2 H2 s2 R2 (.int _)⟩
      · rw [if_neg h1] at e
        cases e
  · cases e
/-- state[i] = e -/
def mStSet (j : Nat) (mi me : ME Dc) : MS Dc := fun env g => bD (me env g) fun d g1 => bD (mi env g1) fun i g2 => match env.at j, i, d with
  | .st, .int i, .int v => if i = 0 then some (.nx, env, { g2 with a := v }) else if i = 1 then some (.nx, env, { g2 with b := v }) else none
  | _, _, _ => none
theorem ts_stSet {j : Nat} {D : Ends} (h : tS K (drC K) (mStSet j mi me) D σ H) : tAsg (tE K (drC K) me) (gSub (tVar j) (tE K (drC K) mi) rSetL) D σ H := by
  obtain ⟨w, env, g, c, env', g', R, e, k⟩ := h
  obtain ⟨d, g1, e1, e⟩ := bD_some e
  obtain ⟨i, g2, e2, e⟩ := bD_some e
  cases ej : env.at j with
  | st =>
    rw [ej] at e
    cases i with
    | int i =>
      cases d with
      | int v =>
        refine ⟨w, env, g, _, g1, R, e1, fun u I1 H1 s1 R1 p1 => ?_⟩
        cases p1
        have sj := R1.stA ej
        refine ⟨_, sj, w.im I1, env, g1, _, g2, R1, e2, fun u I2 H2 s2 R2 p2 => ?_⟩
        cases p2
        have sj2 := R2.stA ej
        rw [sj] at sj2
        have eg : g1.s = g2.s := by injection sj2 with z; injection z with z; injection z
        have e : (if i = 0 then some (Ct.nx, env, { g2 with a := v }) else if i = 1 then some (Ct.nx, env, { g2 with b := v }) else none) = some (c, env', g') := e
        by_cases h0 : i = 0
        · rw [if_pos h0] at e
          cases e
          subst h0
          refine ⟨_, _, 0, 0, rfl, rfl, by rw [eg]; exact R2.gok.1, rfl, ?_⟩
          rw [eg]
          exact k σ I2 _ (s1.trans s2) (drC_set R2)
        · rw [if_neg h0] at e
          by_cases h1 : i = 1
          · rw [if_pos h1] at e
            cases e
            subst h1
            refine ⟨_, _, 1, 1, rfl, rfl, by rw [eg]; exact R2.gok.1, rfl, ?_⟩
            rw [eg]
            exact k σ I2 _ (s1.trans s2) (drC_set R2)
          · rw [if_neg h1] at e
            cases e
      | _ => cases e
    | _ => cases e
  | _ => rw [ej] at e; cases e
theorem ds_stSet (j : Nat) {x : Str} {xp sp : Pos} {i : Expr} {mi : ME Dc} (hi : DE X (drC X.K) i mi) (he : DE X (drC X.K) e me) (hN : X.N[j]? = some x := by rfl) (hv : Vis X.env.scope x := by first | exact Or.inl rfl | exact Or.inr (Or.inl rfl) | exact Or.inr (Or.inr rfl)) (hd : (x == ("__debug__" : Str)) = false := by decide)
    (hcd : (x == ("__classdict__" : Str)) = false := by decide)
    (ha : ∀ v, assign (.Subscript (.Name x xp) i sp) X.env v = (do
      let ov ← holding [v] (eval (.Name x xp) X.env)
      let iv ← holding [v, ov] (eval i X.env)
      standAt sp
      holding [v, ov, iv] (setItem ov iv v)
      release [v, ov, iv] []) := by intro _; rfl)
    (hs : swapsWithSole [.Subscript (.Name x xp) i sp] e pos.line X.env = pure false := by rfl) (hw : swappedStores [.Subscript (.Name x xp) i sp] e X.env = pure none := by rfl)
    (h1 : (assignEach [.Subscript (.Name x xp) i sp] X.env).map (·.2) = [assign (.Subscript (.Name x xp) i sp) X.env] := by rfl) :
    DS X (drC X.K) (.Assign [.Subscript (.Name x xp) i sp] e pos) (mStSet j mi me) := PS.imp (ps_asg he (pg_sub (pe_var hN hv hd hcd) hi set_list ha) hs hw h1) fun _ _ _ h => ts_stSet h
/-- script[i], len(script) -/
def mRawIx (j : Nat) (mi : ME Dc) : ME Dc := fun env g => bD (mi env g) fun i g1 => match env.at j, i with
  | .raw (.ref p), .int i => if p = g1.c then (atI g1.ns i).map fun v => (.int v, g1) else none
  | _, _ => none
theorem Rel.rawA {j : Nat} {v : V} (R : Rel K (drC K) w env g σ H) (e : env.at j = .raw v) : σ[j]? = some (some v) := by
  have q := R.slot j
  rw [e] at q
  exact q
theorem atI_map {ns : List Int} {i v : Int} (h : atI ns i = some v) : atI (ns.map V.int) i = some (.int v) := by
  unfold atI at h ⊢
  rw [List.length_map]
  obtain ⟨j, h1, h2⟩ := Option.bind_eq_some_iff.mp h
  rw [h1]
  show (ns.map V.int)[j]? = _
  rw [List.getElem?_map, h2]
  rfl
theorem de_rawIx (j : Nat) {x : Str} {xp : Pos} {i : Expr} {mi : ME Dc} (hi : DE X (drC X.K) i mi) (hN : X.N[j]? = some x := by rfl) (hv : Vis X.env.scope x := by first | exact Or.inl rfl | exact Or.inr (Or.inl rfl) | exact Or.inr (Or.inr rfl)) (hd : (x == ("__debug__" : Str)) = false := by decide)
    (hcd : (x == ("__classdict__" : Str)) = false := by decide) (hs : PlainIx i := by exact fun _ _ => rfl) : DE X (drC X.K) (.Subscript (.Name x xp) i pos) (mRawIx j mi) := PE.imp (pe_ix ix_list (pe_var hN hv hd hcd) hi hs) fun σ H Q ⟨w, env, g, d, g', R, e, k⟩ => by
  obtain ⟨i, g1, e1, e⟩ := bD_some e
  split at e
  · rename_i _ p i ej
    split at e
    · rename_i hp
      obtain ⟨v, e3, e⟩ := Option.map_eq_some_iff.mp e
      cases e
      refine ⟨_, R.rawA ej, w, env, g, _, g', R, e1, fun u I2 H2 s2 R2 p2 => ?_⟩
      cases p2
      exact ⟨p, _, i, _, rfl, rfl, by rw [hp]; exact ScrOk.sq R2.gok.2.2, atI_map e3, k _ I2 H2 s2 R2 (.int _)⟩
    · cases e
  · cases e
def mRawLen (j : Nat) : ME Dc := fun env g => match env.at j with
  | .raw (.ref p) => if p = g.c then some (.int g.ns.length, g) else none
  | _ => none
theorem de_rawLen (j : Nat) {x : Str} {xp p : Pos} (hg : Gl X "len") (hm : X.mg "len" = none) (hN : X.N[j]? = some x := by rfl) (hv : Vis X.env.scope x := by first | exact Or.inl rfl | exact Or.inr (Or.inl rfl) | exact Or.inr (Or.inr rfl)) (hd : (x == ("__debug__" : Str)) = false := by decide)
    (hcd : (x == ("__classdict__" : Str)) = false := by decide) (hs : starEach [.Name x xp] X.env = (false, eval (.Name x xp) X.env) :: starEach [] X.env := by rfl) (hpl : (backTo pos (starEach [] X.env)).any (·.1) = false := by rfl) :
    DE X (drC X.K) (.Call (.Name "len" p) [.Name x xp] [] pos) (mRawLen j) := PE.imp (pe_callB call_len_seq hg hm PySem.boot_len (pa_cons (pe_var hN hv hd hcd) pa_nil hs)) fun σ H Q ⟨w, env, g, d, g', R, e, k⟩ => by
  unfold mRawLen at e
  split at e
  · rename_i p ej
    split at e
    · rename_i hp
      cases e
      refine ⟨_, R.rawA ej, ?_⟩
      refine ⟨p, _, rfl, .inl (by rw [hp]; exact ScrOk.sq R.gok.2.2), ?_⟩
      rw [List.length_map]
      exact k _ w.I H (Same.refl _) R (.int _)
    · cases e
  · cases e
end
end Pd

/-! Pd: a law whose frame knows that no text is being made of anything (for repr of data). -/
namespace Pd
open PySem PySem.Spec L2
/-- a def's run in one surrounding that is known -/
theorem run_at {CX : CXT} {P : Program} {wd : World} {K : PySem.W.Frag} {mg : Str → Option Value} {base : Heap} {k : Nat} {f : Addr} {nm qual : Str} {pars : Arguments} {bd : List Stmt} {sc : Scope} {dV kV doc pm cdv ct oc : Value} {an od : Option Addr}
    {osl : Array (Option Value)} {N ps : List Str} (lk : K.lookup f = some ⟨oc, od, .func (PySem.W.fnOf nm qual pars bd sc dV kV doc pm an cdv ct), osl⟩) (hc : PySem.W.codeIn K cdv qual = true) (Sc : FnScope N ps sc)
    {A : Around} {fr : List PySem.Env} {s0 : Shared} {H0 : Hp} {args : Args} {us : List Value} {vs : List V} {Q : VK} {E : XK} (hroom : Room (k + 1) A) (e0 : Env0 P wd K mg base A fr s0 H0)
    (bnd : BindsTo s0 (PySem.W.fnOf nm qual pars bd sc dV kV doc pm an cdv ct) args (ps.zip us)) (rv : Vals vs us) (len : vs.length = ps.length)
    (hb : ∃ t, PSs (cxOf CX P wd K mg base N qual sc f cdv A fr s0 H0 E) bd t ∧ t { nx := fun _ H1 => Q .non H1, rt := Q } (start N vs) H0) :
    codeAny (model P wd) A (.call (.ref f) args) (CR CX fr P wd H0 s0 Q E) s0 := by
  have inK : K.In s0.heap := e0.mod.kin.keeps fun x u q => And.left (e0.bs x u q)
  have noL : s0.heap.NoLimit := e0.mod.nolimit.keeps fun x u q => And.left (e0.bs x u q)
  have kinds : ∀ p ∈ ps.zip us, sc.names.lookup p.1 = some .local ∨ (sc.names.lookup p.1 = some .cell ∧ ((cellsFrom (s0.heap.objs.size + 1) sc.names []).lookup p.1).isSome = true) := by
    rintro ⟨n, v⟩ hp
    cases Sc.par n (List.of_mem_zip hp).1 with
    | inl q => exact .inl q
    | inr q => exact .inr ⟨q, PySem.W.cellsFrom_some _ _ _ (.inl q)⟩
  apply codeAny_call_function hroom.depth (inK _ _ lk) rfl Sc.co Sc.gen rfl (PySem.W.codeRec_of inK hc)
  apply bnd
  apply wpAny_newFunctionEnv_cells Sc.kind kinds
  intro env he s1 x
  subst he
  obtain ⟨t, ht, hq⟩ := hb
  have I : Inv (cxOf CX P wd K mg base N qual sc f cdv A fr s0 H0 E) [] (start N vs) H0 s1 := inv_start Sc hroom.hd e0 len rv x
  have done : ∀ {σ1 : St} {H1 : Hp} {v : V} {u : Value} {s2 : Shared}, Inv (cxOf CX P wd K mg base N qual sc f cdv A fr s0 H0 E) [] σ1 H1 s2 → RelV v u → Q v H1 → CE fr P wd H0 s0 Q u s2 := by
    intro σ1 H1 v u s2 J rw_ q
    exact ⟨v, H1, J.os, J.bare, J.base, J.hok, rw_, q⟩
  refine ⟨noL.keeps x.toInCall.keep, codeAny_func (wpAny_mono (ht.run [] s1 (start N vs) H0 _ I hq) ?_ fun _ _ z => z)⟩
  intro fl s2 z
  cases fl with
  | brk => obtain ⟨_, _, _, q⟩ := z; exact q.elim
  | cont => obtain ⟨_, _, _, q⟩ := z; exact q.elim
  | next => obtain ⟨_, _, J, q⟩ := z; exact done (v := V.non) (u := Value.none) J rfl q
  | ret u => obtain ⟨_, _, _, J, r1, q⟩ := z; exact done J r1 q
/-- what a heap must be at the law's call: it knows of the script at most -/
structure Bare1 (P : Program) (wd : World) (K : PySem.W.Frag) (a : Addr) (ns : List Int) (h : Heap) (H : Hp) : Prop where
  one : ∀ x u, H x = some u → x = a ∧ K.lookup a = none ∧ ∃ o xs, u = .frz o (.lst xs)
  scr : SqL K H a (ns.map V.int)
  ok : HOk P wd H h
theorem Bare1.free {P : Program} {wd : World} {K : PySem.W.Frag} {a x : Addr} {ns : List Int} {h : Heap} {H : Hp} (B : Bare1 P wd K a ns h H) (hx : x = a → K.lookup a ≠ none) : H x = none := by
  cases q : H x with
  | none => rfl
  | some u => exact absurd (B.one x u q).2.1 (hx (B.one x u q).1)
/-- the two heaps: the script is an object of the text, or one that the heap knows -/
theorem bare_ex {P : Program} {wd : World} {K : PySem.W.Frag} {a : Addr} {vs : List Value} {ns : List Int} {h : Heap} (KX : K.In h) (ho : h.get? a = some { cls := .type "list", data := .seq vs.toArray }) (hi : PyProof.Rows.IntsAre vs ns) (hl : ns.length ≤ sizeLine) : ∃ H, Bare1 P wd K a ns h H := by
  have ev := vals_ints hi
  have el := hi.length
  cases hk : K.lookup a with
  | some o =>
    have e : h.get? a = some o := KX a o hk
    cases ho.symm.trans e
    refine ⟨fun _ => none, ⟨fun x u z => (nomatch (show (none : Option HO) = some u from z)), .inr ⟨_, vs.toArray, _, hk, rfl, rfl, rfl, ?_, ?_⟩, fun x u z => (nomatch (show (none : Option HO) = some u from z))⟩⟩
    · rw [List.size_toArray]; omega
    · simpa using ev
  | none =>
    refine ⟨fun x => if x = a then some (.frz { cls := .type "list", data := .seq vs.toArray } (.lst (ns.map V.int))) else none, ⟨fun x u z => ?_, .inl (.inr ⟨_, if_pos rfl⟩), fun x u z => ?_⟩⟩
    · split at z
      · rename_i q; cases z; exact ⟨q, hk, _, _, rfl⟩
      · cases z
    · split at z
      · rename_i q
        cases z
        subst q
        exact ⟨ho, by rw [List.length_map]; exact hl, vs, _, ev, ho⟩
      · cases z
theorem law_at {P : Program} {wd : World} {K : PySem.W.Frag} {mg mb : Str → Option Value} {fa a : Addr} {s1 : Shared} {vs : List Value} {ns : List Int}
    (KX : K.In s1.heap) (hns : s1.heap.Ns mainGlobals mg) (hb : s1.heap.Ns builtinsNs mb) (hbb : ∀ x : Str, x ≠ "__name__" → mb x = bootBuiltins x) (hlim : s1.heap.NoLimit) (hg : s1.gens = #[])
    (ho : s1.heap.get? a = some { cls := .type "list", data := .seq vs.toArray }) (hi : PyProof.Rows.IntsAre vs ns) (hl : ns.length ≤ sizeLine)
    (run : ∀ (base : Heap) (H : Hp), SqL K H a (ns.map V.int) → Env0 P wd K mg base callerA [] s1 H → codeAny (model P wd) callerA (.call (.ref fa) ⟨[.ref a], []⟩) (CR CX0 [] P wd H s1 (fun v _ => v = .bl true) fun _ _ _ => False) s1) :
    codeAny (model P wd) callerA (.call (.ref fa) ⟨[.ref a], []⟩) (fun r s' => r = .ok (.ret (.bool true)) ∧ OldK s1.heap s'.heap ∧ s'.os = s1.os ∧ PyProof.Rows.AllBare s'.gens) s1 := by
  obtain ⟨H, B⟩ := bare_ex (P := P) (wd := wd) KX ho hi hl
  have keepD : ∀ {x : Addr} {o : Obj} {es : Array DictEntry} {ep : Nat}, s1.heap.get? x = some o → o.data = .dict es ep → (hidT s1.heap H).get? x = some o := by
    intro x o es ep e d
    refine hidT_get e ?_
    cases q : H x with
    | none => rfl
    | some u =>
      obtain ⟨rfl, _⟩ := B.one x u q
      rw [ho] at e
      cases e
      exact nomatch (show Data.seq vs.toArray _ = Data.dict es ep from d)
  have keepN : ∀ {x : Addr} {m : Str → Option Value}, s1.heap.Ns x m → (hidT s1.heap H).Ns x m := by
    rintro x m ⟨o, es, ep, e, d, r⟩
    exact ⟨o, es, ep, keepD e d, d, r⟩
  have inB : K.In (hidT s1.heap H) := by
    intro x o e
    refine hidT_get (KX x o e) (B.free fun z => ?_)
    subst z
    rw [e]
    exact fun z => nomatch z
  obtain ⟨mc, l1, l2⟩ := hlim
  have M : Mod K mg (hidT s1.heap H) := ⟨inB, keepN hns, ⟨mb, keepN hb, hbb⟩, ⟨mc, keepN l1, l2⟩⟩
  have nil_ : ∀ {x : Addr}, x ∉ ([] : List Addr) := by simp
  have e0 : Env0 P wd K mg (hidT s1.heap H) callerA [] s1 H := {
    frames := rfl
    mod := M
    bs := fun x o e => of_hidT e
    bsz := Nat.le_of_eq (hidT_size _ _)
    funs := trivial
    frf := fun x z => absurd z nil_
    hok := B.ok
    bare := .of_eq hg }
  refine codeAny_mono (run _ H B.scr e0) ?_
  rintro (e | fl) s2 z
  · exact (show False from z).elim
  · cases fl with
    | next => exact z.elim
    | brk => exact z.elim
    | cont => exact z.elim
    | ret u =>
      obtain ⟨v, H2, os, bare, un, ok2, r2, q⟩ := z
      have q : v = V.bl true := q
      subst q
      have eu : u = Value.bool true := r2
      subst eu
      refine ⟨rfl, OldK.of_keep fun x o e => ?_, os, bare⟩
      cases q : H x with
      | none => exact un.keep x o e q (fun z => nil_ z) (by simp)
      | some u =>
        obtain ⟨_, _, ob, xs, rfl⟩ := B.one x u q
        have f2 := un.frzs x ob _ q
        obtain ⟨w1, _⟩ := B.ok x _ q
        obtain ⟨w2, _⟩ := ok2 x _ f2
        rw [w1] at e
        cases e
        exact w2
/-- a row from the law's run where nothing is being shown -/
theorem walk_at {l : PySem.W.OpenLaw} {n : Nat} {q : Program} {loose : List Str} {XP : (Str → Option Value) → Heap → Prop} {YP : World → Heap → Prop} {d : DefRec} {K : Params → PySem.W.Frag}
    (hn : l.most = some n) (hn2 : n ≤ sizeLine) (hdf : d.params.defaults = []) (hY : ∀ (w : World) (h : Heap), YP w h → (K w.params).In h)
    (F : ∀ (w : World) (mg : Str → Option Value) (fa : Addr) (h : Heap), (K w.params).In h → h.Ns mainGlobals mg → mg d.name = some (.ref fa) →
      ∀ (base : Heap) (H : Hp) (s1 : Shared) (a : Addr) (ns : List Int), ns.length ≤ n → SqL (K w.params) H a (ns.map V.int) → Env0 l.prog w (K w.params) mg base callerA [] s1 H →
        codeAny (model l.prog w) callerA (.call (.ref fa) ⟨[.ref a], []⟩) (CR CX0 [] l.prog w H s1 (fun v _ => v = .bl true) fun _ _ _ => False) s1) :
    PySem.W.WalkO q loose XP YP l.row.toRowW d [] (fun f vs => PySem.call f vs) := by
  apply Att.attach_call hn hdf
  intro w s0 s1 mg mb fa o pm cd doc a vs ns G Y _ _ _ hmg hobj hi hlen hg
  have inK := hY w _ Y
  exact law_at inK G.T.g G.T.b G.T.builtins G.T.nolimit hg hobj hi (Nat.le_trans hlen hn2) fun base H hS e0 => F w mg fa _ inK G.T.g hmg base H s1 a ns hlen hS e0
end Pd

/-! Pd: repr of data; the law's start with draws of the kind C. -/
namespace Pd
open PySem PySem.Spec L2
/-! ### the signs of what repr tells -/
def Cps (x : Str) : Prop := ∀ c ∈ x.cps.toList, c < 0x110000
theorem cps_iff {x : Str} : PyData.canLay0 (.str x) = true ↔ Cps x := by
  simp only [PyData.canLay0]
  unfold PyData.strOk Cps
  rw [← Array.all_toList, List.all_eq_true]
  simp only [decide_eq_true_eq]
theorem cps_of (s : String) : Cps (Str.ofString s) := by
  intro c hc
  rw [Str.ofString_eq_toList] at hc
  obtain ⟨k, _, rfl⟩ := List.mem_map.mp (show c ∈ s.toList.map Char.toNat from hc)
  have := k.valid
  rcases this with h | h
  · exact Nat.lt_trans h (by decide)
  · exact h.2
theorem cps_app {x y : Str} (hx : Cps x) (hy : Cps y) : Cps (x ++ y) := by
  intro c hc
  have hc : c ∈ (x.cps ++ y.cps).toList := hc
  rw [Array.toList_append] at hc
  rcases List.mem_append.mp hc with h | h
  · exact hx c h
  · exact hy c h
theorem cps_from : ∀ (ts : List Str) (k : Nat) (acc : Str), Cps acc → (∀ t ∈ ts, Cps t) → Cps (textFrom k acc ts)
  | [], _, _, h, _ => h
  | t :: ts, k, acc, h, ht => cps_from ts (k + 1) _ (cps_app (cps_app h (cps_of _)) (ht t (List.mem_cons_self ..))) fun u hu => ht u (List.mem_cons_of_mem _ hu)
theorem cps_list {ts : List Str} (ht : ∀ t ∈ ts, Cps t) : Cps (listText ts) := cps_app (cps_from ts 0 _ (cps_of _) ht) (cps_of _)
theorem cps_join : ∀ {ts : List Str}, (∀ t ∈ ts, Cps t) → Cps (Str.join ", " ts)
  | [], _ => cps_of ""
  | [x], h => h x (List.mem_singleton_self _)
  | x :: y :: r, h => by
    show Cps (x ++ ", " ++ Str.join ", " (y :: r))
    exact cps_app (cps_app (h x (List.mem_cons_self ..)) (cps_of _)) (cps_join fun t ht => h t (List.mem_cons_of_mem _ ht))
theorem cps_tuple {ts : List Str} (ht : ∀ t ∈ ts, Cps t) : Cps (tupleText ts) := cps_app (cps_app (cps_of _) (cps_join ht)) (cps_of _)
theorem cps_char {q c : Nat} (hq : q < 0x110000) (hc : c < 0x110000) : ∀ z ∈ Builtin.Str.reprChar q c, z < 0x110000 := by
  have hex : ∀ wd z : Nat, z ∈ List.replicate (wd - ((Nat.toDigits 16 c).map Char.toNat).length) 48 ++ (Nat.toDigits 16 c).map Char.toNat → z < 0x110000 := by
    intro wd z hz
    rcases List.mem_append.mp hz with h | h
    · rw [(List.mem_replicate.mp h).2]; decide
    · obtain ⟨k, _, rfl⟩ := List.mem_map.mp h
      rcases k.valid with h | h
      · exact Nat.lt_trans h (by decide)
      · exact h.2
  intro z hz
  unfold Builtin.Str.reprChar at hz
  simp only at hz
  split at hz
  · simp only [List.mem_cons, List.not_mem_nil, or_false] at hz; rcases hz with rfl | rfl <;> omega
  · split at hz
    · simp only [List.mem_cons, List.not_mem_nil, or_false] at hz; omega
    · split at hz
      · simp only [List.mem_cons, List.not_mem_nil, or_false] at hz; omega
      · split at hz
        · simp only [List.mem_cons, List.not_mem_nil, or_false] at hz; omega
        · split at hz
          · simp only [List.mem_cons, List.not_mem_nil, or_false] at hz; omega
          · split at hz
            · rcases List.mem_append.mp hz with h | h
              · simp only [List.mem_cons, List.not_mem_nil, or_false] at h; omega
              · exact hex _ z h
            · split at hz
              · rcases List.mem_append.mp hz with h | h
                · simp only [List.mem_cons, List.not_mem_nil, or_false] at h; omega
                · exact hex _ z h
              · rcases List.mem_append.mp hz with h | h
                · simp only [List.mem_cons, List.not_mem_nil, or_false] at h; omega
                · exact hex _ z h
theorem cps_fold {q : Nat} (hq : q < 0x110000) : ∀ (l : List Nat) (acc : Array Nat), (∀ c ∈ l, c < 0x110000) → (∀ c ∈ acc.toList, c < 0x110000) → ∀ c ∈ (l.foldl (fun out c => out ++ (Builtin.Str.reprChar q c).toArray) acc).toList, c < 0x110000
  | [], _, _, h => h
  | x :: l, acc, hl, h => cps_fold hq l _ (fun c hc => hl c (List.mem_cons_of_mem _ hc)) fun c hc => by
    rw [Array.toList_append] at hc
    rcases List.mem_append.mp hc with z | z
    · exact h c z
    · exact cps_char hq (hl x (List.mem_cons_self ..)) c z
theorem cps_repr {x : Str} (h : Cps x) : Cps (reprText x) := by
  have hq : reprQuote x < 0x110000 := by unfold reprQuote; split <;> decide
  intro c hc
  unfold reprText at hc
  have hc : c ∈ ((x.cps.foldl (fun out c => out ++ (Builtin.Str.reprChar (reprQuote x) c).toArray) #[reprQuote x]).push (reprQuote x)).toList := hc
  rw [Array.toList_push] at hc
  rcases List.mem_append.mp hc with z | z
  · rw [← Array.foldl_toList] at z
    exact cps_fold hq x.cps.toList _ h (fun c hc => by rw [List.mem_singleton.mp hc]; exact hq) c z
  · rw [List.mem_singleton.mp z]; exact hq
mutual
theorem cps_shown : ∀ d : D, d.canLay0 = true → Cps d.shown
  | .none, _ => by simp only [PyData.shown]; exact cps_of _
  | .bool b, _ => by simp only [PyData.shown]; cases b <;> exact cps_of _
  | .int i, _ => by simp only [PyData.shown]; exact cps_of _
  | .str x, h => by simp only [PyData.shown]; exact cps_repr (cps_iff.mp h)
  | .list xs, h => by simp only [PyData.shown]; exact cps_list (cps_shownA xs (by simpa only [PyData.canLay0] using h))
  | .tuple xs, h => by simp only [PyData.shown]; exact cps_tuple (cps_shownA xs (by simpa only [PyData.canLay0] using h))
  | .dict _, h => by simp [PyData.canLay0] at h
theorem cps_shownA : ∀ ds : List D, PyData.canLayAll0 ds = true → ∀ t ∈ PyData.shownAll ds, Cps t
  | [], _, t, ht => by simp only [PyData.shownAll] at ht; exact nomatch ht
  | d :: ds, h, t, ht => by
    simp only [PyData.canLayAll0, Bool.and_eq_true] at h
    simp only [PyData.shownAll] at ht
    rcases List.mem_cons.mp ht with rfl | z
    · exact cps_shown d h.1
    · exact cps_shownA ds h.2 t z
end
/-- what may be shown -/
def showOk (d : D) : Bool := PyData.layable0 d && (PyData.showable d && PyData.intsShort 13 d)
theorem sok_shown {d : D} (h : showOk d = true) : SOk d.shown := by
  unfold showOk at h
  rw [Bool.and_eq_true, Bool.and_eq_true] at h
  refine ⟨PyData.shown_fits_of_layable0 (B := 13) (by decide) (by decide) h.1 h.2.2, cps_iff.mpr (cps_shown d ?_)⟩
  have := h.1
  unfold PyData.layable0 at this
  rw [Bool.and_eq_true, Bool.and_eq_true] at this
  exact this.1.1
section
variable {X : Cx} {K : PySem.W.Frag}
def rRepr (K : PySem.W.Frag) : List V → Hp → VK → Prop := fun vs H Q => ∃ x d, vs = [x] ∧ Dp K H x d ∧ showOk d = true ∧ Q (.str d.shown) H
theorem cr_repr (hG : X.A.guards = some []) (hu : X.A.units + 65 < cLine) : CallR X (.builtin "repr") (rRepr X.K) := by
  intro pins s σ H xs us Q I r h
  obtain ⟨x, d, rfl, hd, hs, q⟩ := h
  obtain ⟨u, rfl, ru⟩ := vals1 r
  obtain ⟨as, rd⟩ := Dp.reads I d x u hd ru
  have hs0 := hs
  unfold showOk at hs
  rw [Bool.and_eq_true, Bool.and_eq_true] at hs
  have hz : d.shown.length ≤ sizeLine := (sok_shown hs0).1
  have hdep : d.depth ≤ 64 := PyData.depth_le_of_layable hs.1
  have leaf : ∀ (tk : Tok), Q (.str d.shown) H → EP X pins σ Q (.str d.shown s.toks) { s with toks := s.toks + 1 } := fun _ q => ⟨.str _, H, I.tok _, ⟨_, rfl⟩, q⟩
  have ref : ∀ a : Addr, u = .ref a → wpAny (model X.prog X.w) X.A (call (.builtin "repr") [u]) (EP X pins σ Q) X.xe s := by
    rintro a rfl
    refine repr_of_reads' rd hs.2.1 (PyData.noDict_hsm (PyData.hasDict_of_canLay d ?_)) hG (by omega) (fun _ _ e => e) (fun h' u' tk k => ?_) hz
    · have := hs.1
      unfold PyData.layable0 at this
      rw [Bool.and_eq_true, Bool.and_eq_true] at this
      exact this.1.1
    · have I2 : Inv X pins σ H { s with heap := h', toks := s.toks } := I.kept fun b o e => k b o e
      exact ⟨.str _, H, I2.tok _, ⟨_, rfl⟩, q⟩
  cases hd with
  | non =>
    cases ru
    have e : (PyData.none).shown = ("None" : Str) := PyData.shown_none
    rw [e] at q
    exact PySem.P.repr_of_none ⟨.str _, H, I.tok _, ⟨_, rfl⟩, q⟩
  | bl b =>
    cases ru
    rw [PyData.shown_bool] at q
    exact PySem.P.repr_of_bool ⟨.str _, H, I.tok _, ⟨_, rfl⟩, q⟩
  | int i =>
    obtain ⟨t, rfl⟩ := ru
    rw [PyData.shown_int] at q
    have hl : i.natAbs.log2 < 1920 := by simpa only [PyData.showable, decide_eq_true_eq] using hs.2.1
    exact PySem.P.repr_of_int hl ⟨.str _, H, I.tok _, ⟨_, rfl⟩, q⟩
  | str y =>
    obtain ⟨t, rfl⟩ := ru
    rw [PyData.shown_str] at q hz
    exact PySem.P.repr_of_str ⟨.str _, H, I.tok _, ⟨_, rfl⟩, q⟩ hz
  | lst _ _ => exact ref _ ru
  | tup _ _ => exact ref _ ru
def dRepr : List D → Option D
  | [d] => if showOk d = true then some (.str d.shown) else none
  | _ => none
theorem cd_repr : CallD K (rRepr K) dRepr := by
  intro I H xs ds zs s p hz Q k
  cases p with
  | nil => cases hz
  | cons a b =>
    cases b with
    | nil =>
      have hz : (if _ then _ else none) = some zs := hz
      split at hz
      · rename_i hc
        cases hz
        exact ⟨_, _, rfl, (a.mono s).dp, hc, k _ I H (Pst.refl s) (.str (sok_shown hc))⟩
      · cases hz
    | cons _ _ => cases hz
end
/-! ### the law's start -/
def lawEC (N i : Nat) (c : Addr) : Env := ((List.replicate N SV.un).set 0 (.raw (.ref c))).set i .st
theorem law_startC {K : PySem.W.Frag} {N i : Nat} {m : MS Dc} {σ : St} {H : Hp} {g : Dc} {D : Ends} (hl : σ.length = N) (h0 : σ[0]? = some (some (.ref g.c))) (hi : σ[i]? = some (some (.ref g.s))) (ok : (drC K).ok g H) (hm : ∃ e g', m (lawEC N i g.c) g = some (.re (.bool true), e, g')) (k : ∀ H', D.rt (.bl true) H') :
    tS K (drC K) m D σ H := by
  obtain ⟨e, g', hm⟩ := hm
  refine ⟨⟨fun _ => none, fun _ => none, fun _ => none, (drC K).fp g, .ref g.s⟩, lawEC N i g.c, g, .re (.bool true), e, g', ?_, hm, fun v σ' I' H' s' R' p => by cases p; exact k H'⟩
  have at_ : ∀ k, (lawEC N i g.c).at k = .un ∨ (k = i ∧ (lawEC N i g.c).at k = .st) ∨ (k = 0 ∧ (lawEC N i g.c).at k = .raw (.ref g.c)) := fun k => by
    unfold lawEC
    rw [at_set]
    by_cases z : k = i ∧ i < ((List.replicate N SV.un).set 0 (.raw (.ref g.c))).length
    · rw [if_pos z]; exact .inr (.inl ⟨z.1, rfl⟩)
    · rw [if_neg z, at_set]
      by_cases z0 : k = 0 ∧ 0 < (List.replicate N SV.un).length
      · rw [if_pos z0]; exact .inr (.inr ⟨z0.1, rfl⟩)
      · rw [if_neg z0]
        refine .inl ?_
        show (List.replicate N SV.un).getD k .un = .un
        rw [List.getD_eq_getElem?_getD, List.getElem?_replicate]
        split <;> rfl
  exact {
    e0 := fun _ _ z => nomatch z
    eI := fun _ _ z => nomatch z
    ag := fun _ _ z => nomatch z
    ge := Same.refl _
    gfp := fun _ => Iff.rfl
    grt := rfl
    gok := ok
    fI := fun _ _ => rfl
    f0 := fun _ _ => rfl
    len := by unfold lawEC; rw [List.length_set, List.length_set, List.length_replicate]; exact hl
    slot := fun k => by
      rcases at_ k with e | ⟨rfl, e⟩ | ⟨rfl, e⟩
      · rw [e]; trivial
      · rw [e]; exact hi
      · rw [e]; exact h0
    dis := fun k j a _ e1 => by
      rcases at_ k with e | ⟨_, e⟩ | ⟨_, e⟩ <;> rw [e] at e1 <;> exact e1.elim }
/-- the state at the law's start -/
theorem drC_new {K : PySem.W.Frag} {H : Hp} {a q : Addr} {ns : List Int} (hS : SqL K H a (ns.map V.int)) (hq : H q = none) : ∃ g : Dc, g.s = q ∧ g.c = a ∧ g.ns = ns ∧ (drC K).ok g (upd H q (.lst [.int 0, .int 0])) := by
  rcases hS with h | h
  · have ne : q ≠ a := fun z => by subst z; rcases h with h | ⟨o, h⟩ <;> rw [hq] at h <;> cases h
    refine ⟨⟨q, a, true, 0, 0, ns⟩, rfl, rfl, rfl, upd_same, fun _ => ne, ?_⟩
    unfold ScrOk
    rw [if_pos rfl]
    show Rd (upd H q _) a _
    unfold Rd at h ⊢
    rw [upd_ne ne.symm]
    exact h
  · refine ⟨⟨q, a, false, 0, 0, ns⟩, rfl, rfl, rfl, upd_same, (fun z => nomatch z), ?_⟩
    unfold ScrOk
    rw [if_neg (by simp)]
    exact fun H' => .inr h
end Pd

/-! Pd: sorted(set(..)) of numbers, of tuples of numbers. -/
namespace Pd
open PySem PySem.Spec L2
/-! ### the sorted list without doubles, by a key -/
def insK {α : Type} (key : α → Int) (x : α) : List α → List α
  | [] => [x]
  | y :: ys => if key x < key y then x :: y :: ys else if key x = key y then y :: ys else y :: insK key x ys
def sortK {α : Type} (key : α → Int) : List α → List α
  | [] => []
  | x :: xs => insK key x (sortK key xs)
section
variable {α : Type} {key : α → Int}
theorem insK_mem {x z : α} : ∀ {l : List α}, z ∈ insK key x l → z = x ∨ z ∈ l
  | [], h => .inl (List.mem_singleton.mp h)
  | y :: ys, h => by
    unfold insK at h
    split at h
    · exact List.mem_cons.mp h
    · split at h
      · exact .inr h
      · rcases List.mem_cons.mp h with e | e
        · exact .inr (by rw [e]; exact List.mem_cons_self ..)
        · rcases insK_mem e with e | e
          · exact .inl e
          · exact .inr (List.mem_cons_of_mem _ e)
theorem insK_old {x z : α} : ∀ {l : List α}, z ∈ l → z ∈ insK key x l
  | y :: ys, h => by
    unfold insK
    split
    · exact List.mem_cons_of_mem _ h
    · split
      · exact h
      · rcases List.mem_cons.mp h with e | e
        · rw [e]; exact List.mem_cons_self ..
        · exact List.mem_cons_of_mem _ (insK_old e)
theorem insK_new {x : α} : ∀ {l : List α}, ∃ z ∈ insK key x l, key z = key x
  | [] => ⟨x, List.mem_singleton_self _, rfl⟩
  | y :: ys => by
    unfold insK
    split
    · exact ⟨x, List.mem_cons_self .., rfl⟩
    · split
      · rename_i h; exact ⟨y, List.mem_cons_self .., h.symm⟩
      · obtain ⟨z, h1, h2⟩ := insK_new (x := x) (l := ys)
        exact ⟨z, List.mem_cons_of_mem _ h1, h2⟩
theorem sortK_mem : ∀ {l : List α} {z : α}, z ∈ sortK key l → z ∈ l
  | x :: xs, z, h => by
    rcases insK_mem h with e | e
    · rw [e]; exact List.mem_cons_self ..
    · exact List.mem_cons_of_mem _ (sortK_mem e)
theorem sortK_has : ∀ {l : List α} {z : α}, z ∈ l → ∃ y ∈ sortK key l, key y = key z
  | x :: xs, z, h => by
    rcases List.mem_cons.mp h with e | e
    · rw [e]; exact insK_new
    · obtain ⟨y, h1, h2⟩ := sortK_has e
      exact ⟨y, insK_old h1, h2⟩
theorem insK_srt {x : α} : ∀ {l : List α}, l.Pairwise (fun a b => key a < key b) → (insK key x l).Pairwise fun a b => key a < key b
  | [], _ => List.pairwise_singleton _ _
  | y :: ys, h => by
    have h' := List.pairwise_cons.mp h
    unfold insK
    split
    · rename_i hxy
      refine List.pairwise_cons.mpr ⟨fun z hz => ?_, h⟩
      rcases List.mem_cons.mp hz with e | e
      · rw [e]; exact hxy
      · exact Int.lt_trans hxy (h'.1 z e)
    · split
      · exact h
      · rename_i h1 h2
        refine List.pairwise_cons.mpr ⟨fun z hz => ?_, insK_srt h'.2⟩
        rcases insK_mem hz with e | e
        · rw [e]; omega
        · exact h'.1 z e
theorem sortK_srt : ∀ l : List α, (sortK key l).Pairwise fun a b => key a < key b
  | [] => List.Pairwise.nil
  | x :: xs => insK_srt (sortK_srt xs)
theorem insK_len {x : α} : ∀ {l : List α}, (insK key x l).length ≤ l.length + 1
  | [] => Nat.le_refl _
  | y :: ys => by
    unfold insK
    split
    · exact Nat.le_refl _
    · split
      · exact Nat.le_succ _
      · rw [List.length_cons, List.length_cons]
        exact Nat.succ_le_succ insK_len
theorem sortK_len : ∀ l : List α, (sortK key l).length ≤ l.length
  | [] => Nat.le_refl _
  | x :: xs => Nat.le_trans insK_len (Nat.succ_le_succ (sortK_len xs))
/-- two rising lists of the same members are one -/
theorem rise_ext {P : α → Prop} (inj : ∀ a b, P a → P b → key a = key b → a = b) : ∀ {a b : List α}, (∀ x ∈ a, P x) → (∀ x ∈ b, P x) → a.Pairwise (fun x y => key x < key y) → b.Pairwise (fun x y => key x < key y) → (∀ x, x ∈ a ↔ x ∈ b) → a = b
  | [], [], _, _, _, _, _ => rfl
  | [], y :: _, _, _, _, _, h => nomatch (h y).mpr (List.mem_cons_self ..)
  | x :: _, [], _, _, _, _, h => nomatch (h x).mp (List.mem_cons_self ..)
  | x :: a, y :: b, pa, pb, ha, hb, h => by
    have ha' := List.pairwise_cons.mp ha
    have hb' := List.pairwise_cons.mp hb
    have e : x = y := by
      rcases List.mem_cons.mp ((h x).mp (List.mem_cons_self ..)) with e | e
      · exact e
      · rcases List.mem_cons.mp ((h y).mpr (List.mem_cons_self ..)) with e2 | e2
        · exact e2.symm
        · have h1 := hb'.1 x e
          have h2 := ha'.1 y e2
          omega
    subst e
    rw [rise_ext inj (fun z hz => pa z (List.mem_cons_of_mem _ hz)) (fun z hz => pb z (List.mem_cons_of_mem _ hz)) ha'.2 hb'.2 fun z => ⟨fun hz => ?_, fun hz => ?_⟩]
    · rcases List.mem_cons.mp ((h z).mp (List.mem_cons_of_mem _ hz)) with e | e
      · subst e
        have := ha'.1 z hz
        omega
      · exact e
    · rcases List.mem_cons.mp ((h z).mpr (List.mem_cons_of_mem _ hz)) with e | e
      · subst e
        have := hb'.1 z hz
        omega
      · exact e
end
/-- the data: all numbers, or all tuples of d numbers below 64 -/
def tupI : D → Option (List Int)
  | .tuple ds => intsD ds
  | _ => none
def tupsI : List D → Option (List (List Int))
  | [] => some []
  | d :: ds => match tupI d, tupsI ds with
    | some ns, some r => some (ns :: r)
    | _, _ => none
theorem tupsI_some : ∀ {ds : List D} {ks : List (List Int)}, tupsI ds = some ks → ds = ks.map fun ns => .tuple (ns.map .int)
  | [], ks, h => by cases h; rfl
  | d :: ds, ks, h => by
    unfold tupsI at h
    split at h
    · rename_i ns r e1 e2
      cases h
      rw [List.map_cons, ← tupsI_some e2]
      cases d with
      | tuple es => rw [intsD_some (show intsD es = some ns from e1)]
      | _ => cases e1
    · cases h
theorem tupsI_mm : ∀ ks : List (List Int), tupsI (ks.map fun ns => PyData.tuple (ns.map .int)) = some ks
  | [] => rfl
  | ns :: ks => by
    have e : ∀ l : List Int, intsD (l.map PyData.int) = some l := fun l => by
      induction l with
      | nil => rfl
      | cons x l ih => show (intsD (l.map PyData.int)).map (x :: ·) = _; rw [ih]; rfl
    show (match intsD (ns.map PyData.int), tupsI (ks.map fun ns => PyData.tuple (ns.map .int)) with
      | some ns, some r => some (ns :: r)
      | _, _ => none) = _
    rw [e, tupsI_mm ks]
def fitT (d : Nat) (ks : List (List Int)) : Bool := ks.all fun ns => decide (ns.length = d) && ns.all fun m => decide (0 ≤ m) && decide (m < 64)
def widthT : List (List Int) → Nat
  | [] => 1
  | ns :: _ => ns.length
def dSortedSet : List D → Option (List D)
  | [.list ds] => match intsD ds with
    | some ns => if ns.length < 64 then some ((sortK id ns).map .int) else none
    | none => match tupsI ds with
      | some ks => if ks.length < 64 ∧ 1 ≤ widthT ks ∧ fitT (widthT ks) ks = true then some ((sortK (TS.code 64) ks).map fun ns => .tuple (ns.map .int)) else none
      | none => none
  | _ => none
theorem code_eq {B : Int} : ∀ {a b : List Int}, a.length = b.length → TS.Bd B a → TS.Bd B b → TS.code B a = TS.code B b → a = b
  | [], [], _, _, _, _ => rfl
  | [], _ :: _, h, _, _, _ => nomatch h
  | _ :: _, [], h, _, _, _ => nomatch h
  | x :: a, y :: b, h, ha, hb, e => by
    have hl : a.length = b.length := Nat.succ.inj h
    rcases Int.lt_trichotomy x y with z | z | z
    · have := TS.code_lt hl ha.tail hb.tail z
      omega
    · subst z
      have e2 : TS.code B a = TS.code B b := by
        have e : x * B ^ a.length + TS.code B a = x * B ^ b.length + TS.code B b := e
        rw [hl] at e
        omega
      rw [code_eq hl ha.tail hb.tail e2]
    · have := TS.code_lt hl.symm hb.tail ha.tail z
      omega
theorem fitT_of {d : Nat} {ks : List (List Int)} (h : fitT d ks = true) : ∀ ns ∈ ks, ns.length = d ∧ TS.Bd 64 ns := by
  intro ns hn
  have := List.all_eq_true.mp h ns hn
  rw [Bool.and_eq_true, decide_eq_true_eq, List.all_eq_true] at this
  refine ⟨this.1, fun m hm => ?_⟩
  have := this.2 m hm
  rw [Bool.and_eq_true, decide_eq_true_eq, decide_eq_true_eq] at this
  exact this
/-- the tuples' addresses -/
theorem tups_rp {K : PySem.W.Frag} {I : Hp} : ∀ {ks : List (List Int)} {vs : List V}, RpA K I vs (ks.map fun ns => .tuple (ns.map .int)) → ∃ L : List (Addr × List Int), vs = L.map (fun p => V.ref p.1) ∧ L.map (·.2) = ks ∧ ∀ p ∈ L, SqT K I p.1 (p.2.map V.int)
  | [], _, h => by cases h; exact ⟨[], rfl, rfl, fun _ h => nomatch h⟩
  | ns :: ks, _, h => by
    cases h with
    | cons a b =>
      obtain ⟨L, rfl, e2, h⟩ := tups_rp b
      cases a with
      | tup hp ra hz =>
        rename_i ad xs
        have := ra.ints
        subst this
        exact ⟨(ad, ns) :: L, rfl, by rw [List.map_cons, e2], fun p hp' => by
          rcases List.mem_cons.mp hp' with e | e
          · rw [e]; exact hp
          · exact h p e⟩
theorem tups_of {K : PySem.W.Frag} {I : Hp} : ∀ {L : List (Addr × List Int)}, (∀ p ∈ L, SqT K I p.1 (p.2.map V.int) ∧ p.2.length ≤ sizeLine) → RpA K I (L.map fun p => V.ref p.1) ((L.map (·.2)).map fun ns => .tuple (ns.map .int))
  | [], _ => .nil
  | p :: L, h => .cons (.tup (h p (List.mem_cons_self ..)).1 (RpA.of_ints _) (by rw [List.length_map]; exact (h p (List.mem_cons_self ..)).2)) (tups_of fun q hq => h q (List.mem_cons_of_mem _ hq))
def rSST (K : PySem.W.Frag) (P : Program) (w : World) : List V → Hp → VK → Prop := fun vs H Q => rSetOfT K P w vs H fun v H2 => rSortedT K P w [v] H2 Q
theorem rSST_of {K : PySem.W.Frag} {P : Program} {w : World} {I H : Hp} {xs : List V} {ds zs : List D} {ks : List (List Int)} (s : Same I H) (p : RpA K I xs [.list ds]) (ek : tupsI ds = some ks) (hc : ks.length < 64 ∧ 1 ≤ widthT ks ∧ fitT (widthT ks) ks = true) (ez : zs = (sortK (TS.code 64) ks).map fun ns => .tuple (ns.map .int))
    {Q : VK} (k : ∀ p vs H', H p = none → Same H H' → H' p = some (.lst vs) → RpA K I vs zs → zs.length ≤ sizeLine → Q (.ref p) H') : rSST K P w xs H Q := by
  have ed := tupsI_some ek
  cases p with
  | cons a b =>
    cases b
    cases a with
    | lst hp ra hz =>
      rename_i l vs
      rw [ed] at ra hz
      obtain ⟨L, rfl, e2, hL⟩ := tups_rp ra
      have hlen : L.length = ks.length := by rw [← e2, List.length_map]
      have fit := fitT_of hc.2.2
      refine ⟨l, L, rfl, SqL.of (s _ _ hp), fun p hp' => same_t s (hL p hp'), by rw [hlen]; exact hc.1, fun a2 L2 hn hsub hall => ?_⟩
      have hs2 : Same H (upd H a2 (SetTO P w a2 L2)) := same_new hn
      have mem2 : ∀ p ∈ L2, p.2 ∈ ks := fun p hp' => by rw [← e2]; exact List.mem_map.mpr ⟨p, hsub p hp', rfl⟩
      refine ⟨a2, L2, widthT ks, 64, rfl, upd_same, fun p hp' => same_t hs2 (same_t s (hL p (hsub p hp'))), hc.2.1, fun p hp' => fit _ (mem2 p hp'), fun L3 q pm nd hl3 srt hq => ?_⟩
      have hq0 : H q = none := by
        by_cases z : q = a2
        · rw [z]; exact hn
        · rw [upd_ne z] at hq; exact hq
      have mem3 : ∀ p ∈ L3, p ∈ L := fun p hp' => hsub p (pm.mem_iff.mp hp')
      have em : L3.map (·.2) = sortK (TS.code 64) ks := by
        refine rise_ext (key := TS.code 64) (P := fun ns => ns.length = widthT ks ∧ TS.Bd 64 ns) (fun x y hx hy e => code_eq (by rw [hx.1, hy.1]) hx.2 hy.2 e) (fun x hx => ?_) (fun x hx => fit x (sortK_mem hx)) ?_ (sortK_srt _) fun x => ⟨fun hx => ?_, fun hx => ?_⟩
        · obtain ⟨p, hp', rfl⟩ := List.mem_map.mp hx
          exact fit _ (mem2 p (pm.mem_iff.mp hp'))
        · rw [List.pairwise_map]
          have nd' : L3.Pairwise fun p q => p.2 ≠ q.2 := List.pairwise_map.mp nd
          refine (srt.and nd').imp_of_mem fun {p q} hp' hq' h => ?_
          have fp := fit _ (mem2 p (pm.mem_iff.mp hp'))
          have fq := fit _ (mem2 q (pm.mem_iff.mp hq'))
          rcases Int.lt_or_eq_of_le h.1 with z | z
          · exact z
          · exact absurd (code_eq (by rw [fp.1, fq.1]) fp.2 fq.2 z) h.2
        · obtain ⟨p, hp', rfl⟩ := List.mem_map.mp hx
          obtain ⟨y, h1, h2⟩ := sortK_has (key := TS.code 64) (mem2 p (pm.mem_iff.mp hp'))
          have fp := fit _ (mem2 p (pm.mem_iff.mp hp'))
          have fy := fit _ (sortK_mem h1)
          rw [← code_eq (by rw [fy.1, fp.1]) fy.2 fp.2 h2]
          exact h1
        · have hx' := sortK_mem hx
          rw [← e2] at hx'
          obtain ⟨p, hp', rfl⟩ := List.mem_map.mp hx'
          obtain ⟨p2, h1, h2⟩ := List.mem_map.mp (hall p hp')
          exact List.mem_map.mpr ⟨p2, pm.mem_iff.mpr h1, h2⟩
      have hw : ∀ p ∈ L3, p.2.length ≤ sizeLine := fun p hp' => by
        have hm : PyData.tuple (p.2.map .int) ∈ ks.map fun ns => PyData.tuple (ns.map .int) := List.mem_map.mpr ⟨p.2, mem2 p (pm.mem_iff.mp hp'), rfl⟩
        obtain ⟨i, hi⟩ := List.getElem?_of_mem hm
        obtain ⟨v, _, rv⟩ := ra.get hi
        cases rv with
        | tup _ _ hz => rw [List.length_map] at hz; exact hz
      have r3 : RpA K I (L3.map fun p => V.ref p.1) zs := by
        rw [ez, ← em]
        exact tups_of fun p hp' => ⟨hL p (mem3 p hp'), hw p hp'⟩
      refine k q _ _ hq0 (hs2.trans (same_new hq)) upd_same r3 ?_
      rw [ez, List.length_map]
      have := sortK_len (key := TS.code 64) ks
      have : (64 : Nat) ≤ sizeLine := by decide
      omega
end Pd

/-! Pd: set(xs) of a list of numbers, sorted. -/
namespace Pd
open PySem PySem.Spec L2
/-- a set as it is made -/
abbrev bornSet (w : World) : Obj := { cls := .type "set", dict := none, data := .set #[] 0 (.fresh 0 0 (!w.params.followText "set-order")) }
section
variable {P : Program} {w : World} {A : Around} {E : Value → Shared → Prop} {s : Shared}
/-- what set(xs) leaves: the heap, the tokens, how many -/
def SetMade (w : World) (s : Shared) (ns : List Int) (h2 : Heap) (cnt : Nat) : Prop :=
  SetR w h2 s.heap.objs.size (fun j => decide (j ∈ ns)) cnt ∧ cnt ≤ ns.length ∧ ∀ x o, s.heap.get? x = some o → h2.get? x = some o
set_option maxHeartbeats 8000000 in
theorem setOf_ints {l : Addr} {its : Array Value} (ns : List Int) {Q : Value → Shared → Prop} (hd : A.handled = none) (hl : s.heap.IsList l its) (hi : PyProof.Rows.IntsAre its.toList ns) (hb : ns.length + 1 < scanBound)
    (fin : ∀ (h2 : Heap) (tk cnt : Nat), SetMade w s ns h2 cnt → Q (.ref s.heap.objs.size) { s with heap := h2, toks := tk }) : wpAny (model P w) A (call (.type "set") [.ref l]) Q E s := by
  have en : its.size = ns.length := by have := hi.length; simpa using this
  obtain ⟨_, _, m1⟩ := F.called_set.mro
  have m2 := F.called_set.made
  have m3 := F.called_set.sub
  apply wpAny_call
  apply codeAny_of_tree
  show wpAny _ _ (callAny (.type "set") _) _ _ _
  apply wpAny_pure
  refine ⟨Code.quiet_builtin _ (by decide +kernel), ?_⟩
  apply codeAny_builtin F.entry_type_call
  rw [Around.under_plain (weight_type_call_type "set" [.ref l] []) rfl]
  have m4 := F.called_set.notType
  have m5 := F.called_set.canCreate
  have m6 := F.typeCall_set_1 (.ref l)
  repeat (any_goals (first | assumption | wp_step))
  refine codeAny_mono (code_set_led1 (.ref l) (E := E) (Q₁ := fun ob t => ob = .ref s.heap.objs.size ∧ t = { s with heap := s.heap.push (bornSet w) }) ⟨rfl, rfl⟩) ?_
  rintro (e | fl) t z
  · exact z
  cases fl with
  | ret ob =>
    obtain ⟨rfl, rfl⟩ := z
    have at0 : (s.heap.push (bornSet w)).get? s.heap.objs.size = some (bornSet w) := Heap.get?_push_size _ rfl
    have ty0 : Shared.TypeIs { s with heap := s.heap.push (bornSet w) } (.ref s.heap.objs.size) "set" := ⟨_, at0, rfl⟩
    have i1 := F.called_set.init.lookup
    have i2 := F.called_set.init.bind (.ref s.heap.objs.size)
    repeat (any_goals (first | assumption | wp_step))
    refine codeAny_mono (codeAny_call_builtin (R := wants (fun r t => r = .none ∧ ∃ h2 tk cnt, t = { s with heap := h2, toks := tk } ∧ SetMade w s ns h2 cnt) E) F.called_set.init.plain F.entry_set_init (check_set_init_1 ty0 ?_)) ?_
    · obtain ⟨⟨lc, ld, ldt, lsl⟩, hol, hcl, nl, hdl⟩ := hl
      simp only at hcl hdl
      subst hcl
      subst hdl
      have at1 : (s.heap.push (bornSet w)).get? l = some { cls := .type "list", dict := ld, data := .seq its nl, slots := lsl } := Heap.get?_push_of_some _ hol
      have u1 := F.sub_list_set
      have u2 := F.sub_list_frozenset
      have u3 : (Value.type "list" == Value.type "dict") = false := by decide
      have isl : (s.heap.push (bornSet w)).IsList l its := ⟨_, at1, rfl, nl, rfl⟩
      unfold Builtin.«set.__init__» noKeywords Builtin.Frozenset.updateFrom
      generalize ep : pyIter = PI
      wp_walk
      subst ep
      refine wpAny_pyIter_list isl ?_
      apply wpAny_bind
      apply wpAny_runValue
      have lt : l < s.heap.objs.size := Heap.lt_size hol
      have q3 : A.in1.in1.in1.handled = none := by simp [hd]
      have sz : (s.heap.push (bornSet w)).objs.size = s.heap.objs.size + 1 := Heap.size_push ..
      have n1 : l ≠ (s.heap.push (bornSet w)).objs.size := by rw [sz]; exact Nat.ne_of_lt (Nat.lt_succ_of_lt lt)
      have n2 : s.heap.objs.size ∉ [(s.heap.push (bornSet w)).objs.size, l] := by
        rw [sz]
        simp only [List.mem_cons, List.not_mem_nil, or_false, not_or]
        exact ⟨Nat.ne_of_lt (Nat.lt_succ_self _), Nat.ne_of_gt lt⟩
      have each : ∀ (i : Nat) (v : Value), its[i]? = some v → ∃ k t, ns[i]? = some k ∧ v = .int k t := by
        intro i v hv
        have lt2 : i < ns.length := by rw [← en]; exact (Array.getElem?_eq_some_iff.mp hv).1
        obtain ⟨t, e⟩ := PyProof.Rows.IntsAre.int_at hi i v (by rw [Array.getElem?_toList]; exact hv)
        have eg := List.getElem?_eq_getElem lt2
        rw [List.getD_eq_getElem?_getD, eg] at e
        exact ⟨_, t, eg, e⟩
      refine set_update_ints ((Walks.list q3 _ l n1 its).toS) s.heap.objs.size n2 ns en hb each (its.size - 0) 0 _ (by omega) (Nat.zero_le _)
        ⟨⟨_, Heap.get?_push_size _ rfl, rfl, rfl⟩, (isl.push _)⟩ ⟨0, Nat.le_refl 0, setR_new_at (Heap.get?_push_of_some _ at0)⟩ ?_
      rintro ⟨h2, g2, d2, tk2, os2⟩ cnt mv hc hS
      have x1 : g2 = s.gens := mv.gens
      have x2 : d2 = s.drawn := mv.drawn
      have x3 : os2 = s.os := mv.os
      subst x1
      subst x2
      subst x3
      show wpAny _ _ _ _ _ _
      apply wpAny_pure
      show wpAny _ _ (ret Value.none) _ _ _
      apply wpAny_pure
      refine ⟨rfl, h2, tk2, cnt, rfl, hS, by omega, fun x o e => ?_⟩
      have lt3 : x < s.heap.objs.size := Heap.lt_size e
      refine mv.heap x o ?_ (Heap.get?_push_of_some _ (Heap.get?_push_of_some _ e))
      rw [sz]
      simp only [List.mem_cons, List.not_mem_nil, or_false, not_or]
      exact ⟨Nat.ne_of_lt lt3, Nat.ne_of_lt (Nat.lt_succ_of_lt lt3)⟩
    · rintro (e | f2) t z
      · exact z
      cases f2 with
      | ret r =>
        obtain ⟨rfl, h2, tk, cnt, rfl, made⟩ := z
        repeat (any_goals (first | assumption | wp_step))
        exact fin _ _ _ made
      | _ => exact z.elim
  | _ => exact z.elim
end
section
variable {G : Type} {X : Cx} {S : Gs G} {K : PySem.W.Frag}
def rSetI (K : PySem.W.Frag) (w : World) : List V → Hp → VK → Prop := fun xs H Q => ∃ (l : Addr) (ns : List Int), xs = [V.ref l] ∧ SqL K H l (ns.map V.int) ∧ ns.length < 64 ∧
  ∀ a cnt, H a = none → cnt ≤ ns.length → Q (.ref a) (upd H a (SetO w a (fun j => decide (j ∈ ns)) cnt))
theorem cr_setI (hc : X.calm = true) : CallR X (.type "set") (rSetI X.K X.w) := by
  intro pins s σ H xs us Q I r h
  obtain ⟨l, ns, rfl, hl, h64, q⟩ := h
  rw [Vals.ref1 r]
  obtain ⟨its, rv, pl, hz⟩ := I.list hl
  have hn : H s.heap.objs.size = none := I.hok.fresh (Nat.le_refl _)
  refine setOf_ints (P := X.prog) (w := X.w) ns (I.ok.hd hc) pl.isList (by simpa using rv.ints) (by unfold scanBound; omega) fun h2 tk cnt hm => ?_
  obtain ⟨hS, hcnt, kp⟩ := hm
  exact ⟨.ref s.heap.objs.size, _, I.laid (t' := tk) kp (Nat.le_refl _) (setO_new hS), rfl, q _ cnt hn hcnt⟩
def rSSI (K : PySem.W.Frag) (w : World) : List V → Hp → VK → Prop := fun vs H Q => rSetI K w vs H fun v H2 => rSortedSet w [v] H2 Q
theorem rSSI_of {w : World} {I H : Hp} {xs : List V} {ds zs : List D} {ns : List Int} (s : Same I H) (p : RpA K I xs [.list ds]) (en : intsD ds = some ns) (hc : ns.length < 64) (ez : zs = (sortK id ns).map .int)
    {Q : VK} (k : ∀ p vs H', H p = none → Same H H' → H' p = some (.lst vs) → RpA K I vs zs → zs.length ≤ sizeLine → Q (.ref p) H') : rSSI K w xs H Q := by
  have ed := intsD_some en
  cases p with
  | cons a b =>
    cases b
    cases a with
    | lst hp ra hz =>
      rename_i l vs
      rw [ed] at ra hz
      have := ra.ints
      subst this
      refine ⟨l, ns, rfl, SqL.of (s _ _ hp), hc, fun a2 cnt hn hcnt => ?_⟩
      refine ⟨a2, _, cnt, rfl, upd_same, by omega, fun out q srt mem hl hq => ?_⟩
      have hq0 : H q = none := by
        by_cases z : q = a2
        · rw [z]; exact hn
        · rw [upd_ne z] at hq; exact hq
      have em : out = sortK id ns := by
        refine rise_ext (key := id) (P := fun _ => True) (fun x y _ _ e => e) (fun _ _ => trivial) (fun _ _ => trivial) srt (sortK_srt _) fun x => ⟨fun hx => ?_, fun hx => ?_⟩
        · have hx := (mem x).mp hx
          obtain ⟨y, h1, h2⟩ := sortK_has (key := id) (of_decide_eq_true hx)
          have h2 : y = x := h2
          rw [← h2]
          exact h1
        · exact (mem x).mpr (decide_eq_true (sortK_mem hx))
      refine k q _ _ hq0 ((same_new hn).trans (same_new hq)) upd_same (by rw [ez, em]; exact RpA.of_ints _) ?_
      rw [ez, List.length_map]
      have := sortK_len (key := id) ns
      have : (64 : Nat) ≤ sizeLine := by decide
      omega
/-- sorted(set(e)) -/
theorem df_sortedSet {e : Expr} {ml : ML G} {p q q2 pos : Pos} (hc : X.calm = true) (hu : X.A.units + 65 < cLine) (hg : Gl X "sorted") (hm : X.mg "sorted" = none) (hg2 : Gl X "set") (hm2 : X.mg "set" = none) (ha : DA X S [e] ml)
    (he : starEach [e] X.env = (false, eval e X.env) :: starEach [] X.env := by rfl) (hpl : (backTo q2 (starEach [] X.env)).any (·.1) = false := by rfl)
    (he2 : starEach [.Call (.Name "set" q) [e] [] q2] X.env = (false, eval (.Call (.Name "set" q) [e] [] q2) X.env) :: starEach [] X.env := by rfl) (hpl2 : (backTo pos (starEach [] X.env)).any (·.1) = false := by rfl) :
    DF X S (.Call (.Name "sorted" p) [.Call (.Name "set" q) [e] [] q2] [] pos) (mCallF dSortedSet ml) := by
  have h1 := pe_callB (pos := pos) (p := p) (cr_sortedSet hc) hg hm (by decide +kernel) (pa_cons (pe_callTy (pos := q2) (p := q) (cr_setI hc) hg2 hm2 (by decide +kernel) ha (by decide) (by decide) he hpl) pa_nil he2) (by decide) (by decide) he2 hpl2
  have h2 := pe_callB (pos := pos) (p := p) (cr_sortedT hc) hg hm (by decide +kernel) (pa_cons (pe_callTy (pos := q2) (p := q) (cr_setOfT hc (by omega)) hg2 hm2 (by decide +kernel) ha (by decide) (by decide) he hpl) pa_nil he2) (by decide) (by decide) he2 hpl2
  refine ⟨fun pins s σ H Q I hq => ?_⟩
  obtain ⟨w, env, g, d, g', R, e0, k⟩ := hq
  obtain ⟨xs, g1, e1, e3⟩ := bD_some e0
  obtain ⟨e3, rfl⟩ := map_some e3
  unfold dSortedSet at e3
  split at e3
  · rename_i ds
    split at e3
    · rename_i ns en
      split at e3
      · rename_i hc64
        cases e3
        exact h1.run pins s σ H Q I ⟨w, env, g, _, g', R, e1, fun vs I1 H1 s1 R1 p1 => rSSI_of R1.eI p1 en hc64 rfl fun p us H3 h0 sm hp ra z => k p us I1 H3 s1 (Rel.fresh (p := p) R1 sm) (R1.nobS h0 sm) hp ra z⟩
      · cases e3
    · split at e3
      · rename_i ks ek
        split at e3
        · rename_i hcc
          cases e3
          exact h2.run pins s σ H Q I ⟨w, env, g, _, g', R, e1, fun vs I1 H1 s1 R1 p1 => rSST_of R1.eI p1 ek hcc rfl fun p us H3 h0 sm hp ra z => k p us I1 H3 s1 (Rel.fresh (p := p) R1 sm) (R1.nobS h0 sm) hp ra z⟩
        · cases e3
      · cases e3
  · cases e3
end
end Pd

/-! Pd: in, of data; dicts of texts that stand; a module's tuples. -/
namespace Pd
open PySem PySem.Spec L2
section
variable {G : Type} {X : Cx} {S : Gs G} {K : PySem.W.Frag} {a b e : Expr} {es : List Expr} {pos : Pos} {ma mb me : ME G} {ml : ML G} {mg : Str → Option Value}
variable {w : Wd} {env env' : Env} {g g' g1 g2 g3 : G} {σ : St} {H H' I' : Hp}
/-! ### in, deep -/
def rInDD (K : PySem.W.Frag) (neg : Bool) : R2 := fun x y H Q => ∃ d ds, Dp K H x d ∧ (Dp K H y (.list ds) ∨ (neg = false ∧ Dp K H y (.tuple ds))) ∧ SeqAt.shaped d = true ∧ SeqAt.shaped (.list ds) = true ∧ Q (.bl (if neg then !ds.any (fun z => PyData.eqv z d) else ds.any fun z => PyData.eqv z d)) H
theorem op_inDD (hu : X.A.units + 65 < cLine) : OpR X (compareOp .In) (rInDD X.K false) := by
  intro pins s σ H x y v u Q I rx ry h
  obtain ⟨d, ds, hd, he, sd, se, q⟩ := h
  obtain ⟨as, r1⟩ := Dp.reads I d x v hd rx
  rcases he with he | ⟨_, he⟩
  · obtain ⟨bs, r2⟩ := Dp.reads I (.list ds) y u he ry
    exact SeqAt.in_list_reads r2 r1 (SeqAt.canLay_of_shaped se) (SeqAt.canLay_of_shaped sd) (PyProof.Rows.room_in_shaped sd hu) ⟨.bl _, H, I, rfl, q⟩
  · obtain ⟨bs, r2⟩ := Dp.reads I (.tuple ds) y u he ry
    exact SeqAt.in_tuple_reads r2 r1 (SeqAt.canLay_of_shaped se) (SeqAt.canLay_of_shaped sd) (PyProof.Rows.room_in_shaped sd hu) ⟨.bl _, H, I, rfl, q⟩
theorem op_notInDD (hu : X.A.units + 65 < cLine) : OpR X (compareOp .NotIn) (rInDD X.K true) := by
  intro pins s σ H x y v u Q I rx ry h
  obtain ⟨d, ds, hd, he, sd, se, q⟩ := h
  obtain ⟨as, r1⟩ := Dp.reads I d x v hd rx
  rcases he with he | ⟨z, _⟩
  · obtain ⟨bs, r2⟩ := Dp.reads I (.list ds) y u he ry
    exact SeqAt.notIn_list_reads r2 r1 (SeqAt.canLay_of_shaped se) (SeqAt.canLay_of_shaped sd) (PyProof.Rows.room_in_shaped sd hu) ⟨.bl _, H, I, rfl, q⟩
  · cases z
def dInD (neg : Bool) : D → D → Option D
  | x, .list ds => if x.depth ≤ 64 ∧ (PyData.list ds).depth ≤ 64 then some (.bool (if neg then !ds.any (fun z => PyData.eqv z x) else ds.any fun z => PyData.eqv z x)) else none
  | x, .tuple ds => if neg = false ∧ x.depth ≤ 64 ∧ (PyData.list ds).depth ≤ 64 then some (.bool (if neg then !ds.any (fun z => PyData.eqv z x) else ds.any fun z => PyData.eqv z x)) else none
  | _, _ => none
theorem shaped_list {I : Hp} {vs : List V} {ds : List D} (ra : RpA K I vs ds) (hd : (PyData.list ds).depth ≤ 64) : SeqAt.shaped (.list ds) = true := by
  unfold SeqAt.shaped
  rw [Bool.and_eq_true]
  refine ⟨?_, by simpa using hd⟩
  simp only [PyData.canLay0]
  exact ra.lay
theorem od_inD (neg : Bool) : OpD K (rInDD K neg) (dInD neg) := by
  intro I H x y d e z s p q hz Q k
  cases q with
  | lst hq ra hl =>
    have hz : (if _ then _ else none) = some z := hz
    split at hz
    · rename_i hc
      cases hz
      exact ⟨d, _, (p.mono s).dp, .inl (Rp.mono s (.lst hq ra hl)).dp, shaped_of p hc.1, shaped_list ra hc.2, k _ I H (Pst.refl s) (.bl _)⟩
    · cases hz
  | tup hq ra hl =>
    have hz : (if _ then _ else none) = some z := hz
    split at hz
    · rename_i hc
      cases hz
      exact ⟨d, _, (p.mono s).dp, .inr ⟨hc.1, (Rp.mono s (.tup hq ra hl)).dp⟩, shaped_of p hc.2.1, shaped_list ra hc.2.2, k _ I H (Pst.refl s) (.bl _)⟩
    · cases hz
  | _ => cases hz
/-! ### a dict of texts -/
theorem Rel.putKd {i : Nat} {v : V} {kvs : List (Str × D)} (R : Rel K S w env g σ H) (r : KdOk K w.I v kvs) : Rel K S w (env.set i (.kd kvs)) g (σ.set i (some v)) H :=
  R.put (fun k e _ => ⟨v, e, r⟩) fun a z => z.elim
def tKd {G : Type} (K : PySem.W.Frag) (S : Gs G) (ks : List Str) (ml : ML G) : St → Hp → (List (V × V) → Hp → Prop) → Prop := fun σ H Q => ∃ w env g ds g', Rel K S w env g σ H ∧ ml env g = some (ds, g') ∧ ds.length = ks.length ∧
  ∀ vs I' H', Same w.I I' → Rel K S (w.im I') env g' σ H' → RpA K I' vs ds → Q ((ks.zip vs).map fun p => (V.str p.1, p.2)) H'
structure DPs {G : Type} (X : Cx) (S : Gs G) (pos : Pos) (keys : List (Option Expr)) (values : List Expr) (ks : List Str) (ml : ML G) : Prop where
  pp : ∃ trs, PPs X pos keys values trs ∧ ∀ σ H Q, tKd X.K S ks ml σ H Q → tPairs trs σ H Q
theorem dps_nil : DPs X S pos [] [] [] mNil := ⟨[], pps_nil, fun σ H Q ⟨w, env, g, ds, g', R, e, _, k⟩ => by
  cases e
  exact k [] w.I H (Same.refl _) R .nil⟩
theorem dps_cons {k : Str} {j : Nat} {kp : Pos} {keys : List (Option Expr)} {v : Expr} {values : List Expr} {ks : List Str} {mv : ME G} (hv : DE X S v mv) (hr : DPs X S pos keys values ks ml) : DPs X S pos (some (.Constant (.str k) j kp) :: keys) (v :: values) (k :: ks) (mCons mv ml) := by
  obtain ⟨trs, hp, ht⟩ := hr.pp
  refine ⟨_, pps_cons pe_str hv hp, fun σ H Q ⟨w, env, g, ds, g', R, e, hl, kk⟩ => ?_⟩
  obtain ⟨x, g1, e1, e⟩ := bD_some e
  obtain ⟨xs, g2, e2, e⟩ := bD_some e
  cases e
  refine ⟨w, env, g, x, g1, R, e1, fun u I1 H1 s1 R1 p1 => ht _ _ _ ⟨w.im I1, env, g1, xs, g', R1, e2, Nat.succ.inj hl, fun vs I2 H2 s2 R2 ra => kk (u :: vs) I2 H2 (s1.trans s2) R2 (.cons (p1.mono s2) ra)⟩⟩
theorem merge_nd : ∀ (more acc : List (Key × V)), ((acc ++ more).map (·.1)).Nodup → mergeK acc more = acc ++ more
  | [], acc, _ => by rw [List.append_nil]; rfl
  | p :: more, acc, h => by
    have h2 : putK acc p.1 p.2 = acc ++ [p] := by
      unfold putK
      rw [if_neg]
      intro z
      obtain ⟨q, hq, e⟩ := List.any_eq_true.mp z
      have e := of_decide_eq_true e
      rw [List.map_append, List.nodup_append] at h
      exact h.2.2 q.1 (List.mem_map.mpr ⟨q, hq, rfl⟩) p.1 (List.mem_map.mpr ⟨p, List.mem_cons_self .., rfl⟩) e
    show mergeK (putK acc p.1 p.2) more = _
    rw [h2, merge_nd more (acc ++ [p]) (by rw [List.append_assoc]; exact h), List.append_assoc]
    rfl
def mSetKd (i : Nat) (ks : List Str) (ml : ML G) : MS G := fun env g => bD (ml env g) fun ds g1 => if ds.length = ks.length then some (.nx, env.set i (.kd (ks.zip ds)), g1) else none
theorem zip_fst {α β : Type} : ∀ {l : List α} {m : List β}, l.length = m.length → (l.zip m).map (·.1) = l
  | [], _, _ => rfl
  | _ :: _, [], h => nomatch h
  | x :: l, y :: m, h => by rw [List.zip_cons_cons, List.map_cons, zip_fst (Nat.succ.inj h)]
theorem zip_snd {α β : Type} : ∀ {l : List α} {m : List β}, l.length = m.length → (l.zip m).map (·.2) = m
  | [], [], _ => rfl
  | [], _ :: _, h => nomatch h
  | _ :: _, [], h => nomatch h
  | x :: l, y :: m, h => by rw [List.zip_cons_cons, List.map_cons, zip_snd (Nat.succ.inj h)]
theorem ds_setKd {i : Nat} {x : Str} {pos' dp : Pos} {keys : List (Option Expr)} {values : List Expr} {ks : List Str} (hN : X.N.Nodup) (hi : X.N[i]? = some x) (hx : Loc X.env.scope x) (hd : DPs X S dp keys values ks ml)
    (hks : ks.Nodup ∧ ks.length ≤ 15) (hall : keys.all (·.isSome) = true := by rfl) (hl : keys.length = values.length := by rfl) (h0 : keys ≠ [] := by simp) (h15 : keys.length ≤ 15 := by decide)
    (hs : swapsWith (.Dict keys values dp) (some (.Name x pos')) pos.line X.env = pure false := by rfl) (hf : X.fn x = true ∨ X.env.scope.names.lookup x = some .local := by first | exact .inl rfl | exact .inr rfl | assumption) :
    DS X S (.Assign [.Name x pos'] (.Dict keys values dp) pos) (mSetKd i ks ml) := by
  obtain ⟨trs, hp, ht⟩ := hd.pp
  refine PS.imp (ps_set hN hi hx (pe_disp hp hall hl h0 h15) hs hf) fun D σ H h => ?_
  obtain ⟨w, env, g, c, env', g', R, e, k⟩ := h
  obtain ⟨ds, g1, e1, e⟩ := bD_some e
  split at e
  · rename_i hlen
    cases e
    intro p h0
    have n := R.nob (o := .dK []) h0
    have R1 := (R.alloc (o := .dK []) h0).hold n upd_same
    refine ht _ _ _ ⟨w.hold p (.dK []), env, g, ds, g', R1, e1, hlen, fun vs I1 H1 s1 R2 ra => ?_⟩
    have hvl : ks.length = vs.length := by rw [ra.len, hlen]
    let kvs : List (Key × V) := (ks.zip vs).map fun q => (Sum.inr q.1, q.2)
    have hk1 : kvs.map (·.1) = ks.map Sum.inr := by
      show ((ks.zip vs).map fun q => ((Sum.inr q.1 : Key), q.2)).map (·.1) = _
      rw [List.map_map]
      have : ((·.1) ∘ fun q : Str × V => ((Sum.inr q.1 : Key), q.2)) = (Sum.inr ∘ (·.1)) := rfl
      rw [this, ← List.map_map, zip_fst hvl]
    have hk2 : kvs.map (·.2) = vs := by
      show ((ks.zip vs).map fun q => ((Sum.inr q.1 : Key), q.2)).map (·.2) = _
      rw [List.map_map]
      exact zip_snd hvl
    have hm : mergeK [] kvs = kvs := merge_nd kvs [] (by
      rw [List.nil_append, hk1]
      exact List.pairwise_map.mpr (hks.1.imp fun h e => h (Sum.inr.inj e)))
    have R2' : Rel X.K S ((w.im I1).hold p (.dK [])) env g' σ H1 := R2
    obtain ⟨R3, n3, hp1⟩ := R2'.unhold (u := .dK (mergeK [] kvs)) n.h0 (R.ge.free n.i)
    refine ⟨hp1, kvs, ?_, ?_, ?_⟩
    · show (ks.zip vs).map (fun q => (V.str q.1, q.2)) = ((ks.zip vs).map fun q => ((Sum.inr q.1 : Key), q.2)).map fun kv => (kV kv.1, kv.2)
      rw [List.map_map]
      rfl
    · show ((ks.zip vs).map _).length ≤ 15
      rw [List.length_map, List.length_zip]
      have := hks.2
      omega
    · have R4 := R3.freeze n3 upd_same
      have s2 : Same w.I (upd I1 p (.dK (mergeK [] kvs))) := Same.trans s1 (same_new n3.i)
      refine k _ _ _ s2 (R4.putKd ⟨p, kvs, rfl, ?_, ?_, ?_⟩)
      · show upd I1 p _ p = _
        rw [upd_same, hm]
      · rw [hk1]
        rw [show (ks.zip ds).map (fun q => (Sum.inr q.1 : Key)) = ((ks.zip ds).map (·.1)).map Sum.inr by rw [List.map_map]; rfl, zip_fst hlen.symm]
      · rw [hk2, zip_snd hlen.symm]
        exact ra.mono (same_new n3.i)
  · cases e
def mKdIx (j : Nat) (mi : ME G) : ME G := fun env g => bD (mi env g) fun i g1 => match env.at j, i with
  | .kd kvs, .str s => (kvs.find? fun p => decide (p.1 = s)).map fun p => (p.2, g1)
  | _, _ => none
theorem kd_find : ∀ {kvs : List (Str × D)} {vs : List (Key × V)} {s : Str} {q : Str × D} {I : Hp}, vs.map (·.1) = kvs.map (fun p => Sum.inr p.1) → RpA K I (vs.map (·.2)) (kvs.map (·.2)) → kvs.find? (fun p => decide (p.1 = s)) = some q → ∃ v, valV vs (Sum.inr s) = some v ∧ Rp K I v q.2
  | p :: kvs, [], s, q, I, h, _, _ => nomatch h
  | p :: kvs, u :: vs, s, q, I, h, r, hf => by
    rw [List.map_cons, List.map_cons] at h r
    obtain ⟨h1, h2⟩ := List.cons.inj h
    cases r with
    | cons r1 r2 =>
      by_cases e : p.1 = s
      · rw [List.find?_cons_of_pos (by simpa using e)] at hf
        cases hf
        exact ⟨u.2, valV_pos (by rw [h1, e]), r1⟩
      · rw [List.find?_cons_of_neg (by simpa using e)] at hf
        obtain ⟨v, e1, e2⟩ := kd_find h2 r2 hf
        exact ⟨v, (valV_neg (by rw [h1]; exact fun z => e (Sum.inr.inj z))).trans e1, e2⟩
theorem de_kdIx (j : Nat) {x : Str} {xp : Pos} {i : Expr} {mi : ME G} (hu : X.A.units + 65 < cLine) (hi : DE X S i mi) (hN : X.N[j]? = some x := by rfl) (hv : Vis X.env.scope x := by first | exact Or.inl rfl | exact Or.inr (Or.inl rfl) | exact Or.inr (Or.inr rfl)) (hd : (x == ("__debug__" : Str)) = false := by decide)
    (hcd : (x == ("__classdict__" : Str)) = false := by decide) (hs : NoSl i := by exact fun _ _ => rfl) : DE X S (.Subscript (.Name x xp) i pos) (mKdIx j mi) := PE.imp (pe_dget (by omega) (pe_var hN hv hd hcd) hi hs) fun σ H Q ⟨w, env, g, d, g', R, e, k⟩ => by
  obtain ⟨i, g1, e1, e⟩ := bD_some e
  split at e
  · rename_i kvs s ej
    obtain ⟨q, hq, e⟩ := Option.map_eq_some_iff.mp e
    cases e
    have sl := R.slot j
    rw [ej] at sl
    obtain ⟨v, sj, _⟩ := sl
    refine ⟨_, sj, w, env, g, _, g', R, e1, fun u I2 H2 s2 R2 p2 => ?_⟩
    cases p2 with
    | str hs =>
      have sl2 := R2.slot j
      rw [ej] at sl2
      obtain ⟨v2, sj2, a, vs, e3, e4, e5, r⟩ := sl2
      rw [sj] at sj2
      cases sj2
      obtain ⟨v', h1, h2⟩ := kd_find e5 r hq
      refine ⟨a, v', e3, ?_, k v' I2 H2 s2 R2 h2⟩
      rw [← h1]
      exact DGet.k (k := Sum.inr s) (R2.eI _ _ e4)
  · cases e
/-! ### a module's tuple -/
theorem Cst.tup {x : Str} {a : Addr} {od : Option Addr} {sl : Array (Option Value)} {n : Nat} {its : Array Value} {vs : List V} {ds : List D} (h : mg x = some (.ref a)) (lk : K.lookup a = some ⟨.type "tuple", od, .seq its n, sl⟩) (hv : Vals vs its.toList) (hd : ∀ H, RpA K H vs ds)
    (hl : its.size ≤ sizeLine := by exact Nat.le_of_ble_eq_true rfl) (hl2 : ds.length ≤ sizeLine := by exact Nat.le_of_ble_eq_true rfl) : Cst K mg x (.tuple ds) := ⟨_, .ref a, h, rfl, fun H => .tup (.inr ⟨_, its, n, lk, rfl, rfl, hl, hv⟩) (hd H) hl2⟩
end
end Pd

/-! Pd: > of scalars. -/
namespace Pd
open PySem PySem.Spec L2
section
variable {X : Cx} {K : PySem.W.Frag}
theorem op_gt_bl : OpR X (compareOp .Gt) (fun x y H Q => ∃ p q, x = .bl p ∧ y = .bl q ∧ Q (.bl (p && !q)) H) := by
  intro pins s σ H x y v u Q I rx ry h
  obtain ⟨p, q, rfl, rfl, k⟩ := h
  cases (show v = Value.bool p from rx)
  cases (show u = Value.bool q from ry)
  refine PyProof.Rows.gt_bool ⟨.bl (p && !q), H, I, ?_, k⟩
  cases p <;> cases q <;> rfl
abbrev rGtS : R2 := fun x y H Q => rI0 (fun i j => .bl (decide (j < i))) x y H Q ∨ ((∃ i j, x = .str i ∧ y = .str j ∧ Q (.bl (decide (j.cps.toList < i.cps.toList))) H) ∨ ∃ p q, x = .bl p ∧ y = .bl q ∧ Q (.bl (p && !q)) H)
theorem op_gtS : OpR X (compareOp .Gt) rGtS := op_gt.or (op_gt_str.or op_gt_bl)
def dGtS : D → D → Option D
  | .int i, .int j => some (.bool (decide (j < i)))
  | .str i, .str j => some (.bool (decide (j.cps.toList < i.cps.toList)))
  | .bool p, .bool q => some (.bool (p && !q))
  | _, _ => none
theorem od_gtS : OpD K rGtS dGtS := by
  intro I H x y d e z s p q hz Q k
  cases p with
  | int i =>
    cases q with
    | int j => cases hz; exact .inl ⟨i, j, rfl, rfl, k _ I H (Pst.refl s) (.bl _)⟩
    | _ => cases hz
  | str h =>
    cases q with
    | str h' => cases hz; exact .inr (.inl ⟨_, _, rfl, rfl, k _ I H (Pst.refl s) (.bl _)⟩)
    | _ => cases hz
  | bl a =>
    cases q with
    | bl b => cases hz; exact .inr (.inr ⟨a, b, rfl, rfl, k _ I H (Pst.refl s) (.bl _)⟩)
    | _ => cases hz
  | _ => cases hz
end
end Pd

/-! Pd: dicts of one's own: locked for one look. -/
namespace Pd
open PySem PySem.Spec L2
/-! ### I without a place -/
def drp (I : Hp) (a : Addr) : Hp := fun b => if b = a then none else I b
theorem drp_ne {I : Hp} {a b : Addr} (h : b ≠ a) : drp I a b = I b := if_neg h
theorem drp_eq {I : Hp} {a : Addr} : drp I a a = none := if_pos rfl
theorem drp_sub {I : Hp} {a : Addr} : Same (drp I a) I := fun b u q => by
  by_cases z : b = a
  · rw [z, drp_eq] at q; cases q
  · rw [drp_ne z] at q; exact q
section
variable {K : PySem.W.Frag} {I : Hp} {a : Addr} {od : Obj} {ks : List (Key × V)}
mutual
theorem Rp.shr (h : I a = some (.frz od (.dK ks))) : ∀ {d : D} {v : V}, Rp K I v d → Rp K (drp I a) v d
  | .none, _, r => by cases r; exact .non
  | .bool _, _, r => by cases r; exact .bl _
  | .int _, _, r => by cases r; exact .int _
  | .str _, _, r => by cases r with | str z => exact .str z
  | .list ds, _, r => by
    cases r with
    | lst x y z =>
      exact .lst ((drp_ne fun e => by rw [e, h] at x; cases x).trans x) (RpA.shr h y) z
  | .tuple ds, _, r => by
    cases r with
    | @tup b xs _ x y z =>
      refine .tup ?_ (RpA.shr h y) z
      rcases x with (x | ⟨o, x⟩) | x
      · exact .inl (.inl ((drp_ne fun e => by rw [e, h] at x; cases x).trans x))
      · exact .inl (.inr ⟨o, (drp_ne fun e => by rw [e, h] at x; cases x).trans x⟩)
      · exact .inr x
  | .dict _, _, r => by cases r
theorem RpA.shr (h : I a = some (.frz od (.dK ks))) : ∀ {ds : List D} {vs : List V}, RpA K I vs ds → RpA K (drp I a) vs ds
  | [], _, r => by cases r; exact .nil
  | _ :: _, _, r => by cases r with | cons x y => exact .cons (Rp.shr h x) (RpA.shr h y)
end
theorem T1Ok.shr {H : Hp} {v : V} {t : T1} (h : I a = some (.frz od (.dK ks))) (r : T1Ok K I H v t) : T1Ok K (drp I a) H v t := by
  cases t with
  | lf d => exact Rp.shr h r
  | ls xs => obtain ⟨p, vs, e, hp, r, z⟩ := r; exact ⟨p, vs, e, hp, r.shr h, z⟩
  | dc kvs => obtain ⟨p, vs, e, hp, hs, r, z⟩ := r; exact ⟨p, vs, e, hp, hs, r.shr h, z⟩
  | lk kvs => obtain ⟨p, vs, o, e, hp, hs, r, z⟩ := r; exact ⟨p, vs, o, e, hp, hs, r.shr h, z⟩
theorem T2Ok.shr {H : Hp} {v : V} {t : T2} (h : I a = some (.frz od (.dK ks))) (r : T2Ok K I H v t) : T2Ok K (drp I a) H v t := by
  cases t with
  | one t => exact T1Ok.shr h r
  | ls ts =>
    obtain ⟨p, vs, e, hp, hl, hz, h1, h2⟩ := r
    exact ⟨p, vs, e, hp, hl, hz, fun k u t hu ht => ⟨(h1 k u t hu ht).1.shr h, (h1 k u t hu ht).2⟩, h2⟩
end
section
variable {G : Type} {X : Cx} {S : Gs G} {a b c e : Expr} {es : List Expr} {pos : Pos} {ma mb me : ME G} {mt mu : MT G} {ml : ML G}
variable {K : PySem.W.Frag} {w : Wd} {env env' : Env} {g g' : G} {σ : St} {H H' I' : Hp}
/-- the dict of a slot is locked -/
theorem Rel.lockD {j : Nat} {kvs : List (Key × D)} (R : Rel K S w env g σ H) (ej : env.at j = .tr (.one (.dc kvs))) : ∃ a vs, σ[j]? = some (some (.ref a)) ∧ H a = some (.dK vs) ∧ w.I a = none ∧ w.H0 a = none ∧ ¬ w.fp a ∧ vs.map (·.1) = kvs.map (·.1) ∧ RpA K w.I (vs.map (·.2)) (kvs.map (·.2)) ∧ kvs.length ≤ sizeLine ∧
    ∀ od, Rel K S (w.im (upd w.I a (.frz od (.dK vs)))) (env.set j (.fz kvs)) g σ (upd H a (.frz od (.dK vs))) := by
  have q := R.slot j
  rw [ej] at q
  obtain ⟨v, sj, ⟨a, vs, rfl, ha, hk, ra, hz⟩, own⟩ := q
  obtain ⟨hi, h0, hf⟩ := own a ⟨rfl, rfl⟩
  refine ⟨a, vs, sj, ha, hi, h0, hf, hk, ra, hz, fun od => ?_⟩
  have hj := slot_lt R sj
  have fo : fpt H σ j (env.at j) a := by rw [ej]; exact ⟨_, sj, rfl, rfl⟩
  have R1 : Rel K S w (env.set j .un) g σ (upd H a (.frz od (.dK vs))) := R.write hj (fun b z => by
    by_cases h : b = a
    · exact .inr (h ▸ fo)
    · exact absurd (upd_ne h) z) (fun b o q z => by
    by_cases h : b = a
    · rw [h, upd_same] at z; cases z
    · rw [upd_ne h, q] at z; cases z) trivial (fun b f => f.elim)
  have n1 : Nob w (env.set j .un) σ (upd H a (.frz od (.dK vs))) a := ⟨hi, h0, hf, fun i f => by
    rw [at_set] at f
    by_cases h : i = j ∧ j < env.length
    · rw [if_pos h] at f; exact f
    · rw [if_neg h] at f
      have hij : i ≠ j := fun z => h ⟨z, hj⟩
      have kp := (R.slot i).keep (σ' := σ) (w' := w) (H' := upd H a (.frz od (.dK vs))) rfl (Same.refl _) rfl fun b fb => by
        obtain ⟨a1, a2, a3, _⟩ := (R.slot i).fr fb
        exact ⟨upd_ne fun z => R.dis i j b hij fb (z ▸ fo), a1, a2, a3⟩
      exact R.dis i j a hij ((kp.2 a).mp f) fo⟩
  have R2 := (R1.freeze n1 upd_same).know (j := j) (sv := .fz kvs) sj ⟨.ref a, sj, a, vs, od, rfl, upd_same, hk, ra.mono (same_new hi), hz⟩ fun b f => f
  rw [List.set_set] at R2
  exact R2
/-- .. and unlocked -/
theorem Rel.unlockD {j : Nat} {kvs : List (Key × D)} {p : Addr} {vs : List (Key × V)} {od : Obj} {I2 : Hp} (R : Rel K S w env g σ H) (ej : env.at j = .tr (.one (.dc kvs))) (sj : σ[j]? = some (some (.ref p))) (hp : H p = some (.dK vs)) (hi : w.I p = none) (h0 : w.H0 p = none) (hf : ¬ w.fp p)
    (hk : vs.map (·.1) = kvs.map (·.1)) (ra : RpA K w.I (vs.map (·.2)) (kvs.map (·.2))) (hz : kvs.length ≤ sizeLine) (R2 : Rel K S (w.im I2) (env.set j (.fz kvs)) g' σ H') (s : Same (upd w.I p (.frz od (.dK vs))) I2) :
    Rel K S (w.im (drp I2 p)) env g' σ (upd H' p (.dK vs)) ∧ Same w.I (drp I2 p) ∧ I2 p = some (.frz od (.dK vs)) := by
  have hI2 : I2 p = some (.frz od (.dK vs)) := s _ _ upd_same
  have sw : Same w.I (drp I2 p) := fun b u q => by
    have ne : b ≠ p := fun z => by rw [z, hi] at q; cases q
    rw [drp_ne ne]
    exact s b u ((upd_ne ne).trans q)
  have hj := slot_lt R sj
  have at2 : ∀ k, k ≠ j → Env.at (env.set j (.fz kvs)) k = env.at k := fun k hk => by rw [at_set, if_neg fun z => hk z.1]
  have kp : ∀ k, k ≠ j → SlotOk K (w.im (drp I2 p)) σ (upd H' p (.dK vs)) k (env.at k) ∧ (∀ b, fpt (upd H' p (.dK vs)) σ k (env.at k) b ↔ fpt H' σ k (env.at k) b) ∧ ∀ b, fpt H' σ k (env.at k) b → b ≠ p := fun k hk => by
    have q2 := R2.slot k
    rw [at2 k hk] at q2
    have nb : ∀ b, fpt H' σ k (env.at k) b → b ≠ p := fun b f z => by
      have := (q2.fr f).1
      have this : I2 b = none := this
      rw [z, hI2] at this; cases this
    -- in the smaller I
    have q3 : SlotOk K (w.im (drp I2 p)) σ H' k (env.at k) := by
      have q := R.slot k
      cases ek : env.at k with
      | un => trivial
      | sh d => rw [ek] at q; obtain ⟨v, e1, r⟩ := q; exact ⟨v, e1, r.mono sw⟩
      | kd d => rw [ek] at q; obtain ⟨v, e1, r⟩ := q; exact ⟨v, e1, r.mono sw⟩
      | fz d => rw [ek] at q; obtain ⟨v, e1, r⟩ := q; exact ⟨v, e1, r.mono sw⟩
      | fl d => rw [ek] at q; obtain ⟨v, e1, r⟩ := q; exact ⟨v, e1, r.mono sw⟩
      | st => rw [ek] at q; exact q
      | raw v => rw [ek] at q; exact q
      | ow ds =>
        rw [ek] at q2
        obtain ⟨b, us, e1, hb, bi, b0, bf, r, z⟩ := q2
        exact ⟨b, us, e1, hb, (drp_ne fun z => by have bi : I2 b = none := bi; rw [z, hI2] at bi; cases bi).trans bi, b0, bf, r.shr hI2, z⟩
      | tr t =>
        rw [ek] at q2
        obtain ⟨v, e1, ok, k2⟩ := q2
        refine ⟨v, e1, ok.shr hI2, fun b f => ?_⟩
        obtain ⟨b1, b2, b3⟩ := k2 b f
        exact ⟨(drp_ne fun z => by have b1 : I2 b = none := b1; rw [z, hI2] at b1; cases b1).trans b1, b2, b3⟩
    obtain ⟨k1, k2⟩ := q3.keep (σ' := σ) (w' := w.im (drp I2 p)) (H' := upd H' p (.dK vs)) rfl (Same.refl _) rfl fun b f => by
      obtain ⟨a1, a2, a3, _⟩ := q3.fr f
      exact ⟨upd_ne (nb b f), a1, a2, a3⟩
    exact ⟨k1, k2, nb⟩
  have own : ∀ b, fpt (upd H' p (.dK vs)) σ j (env.at j) b → b = p := fun b f => by
    rw [ej] at f
    obtain ⟨v, e1, f1, f2⟩ := f
    rw [sj] at e1; cases e1
    cases f2; rfl
  refine ⟨?_, sw, hI2⟩
  exact {
    e0 := fun b o q => by
      have ne : b ≠ p := fun z => by have q : w.H0 b = some o := q; rw [z, h0] at q; cases q
      rw [upd_ne ne]; exact R2.e0 b o q
    eI := fun b o q => by
      have ne : b ≠ p := fun z => by have q : drp I2 p b = some o := q; rw [z, drp_eq] at q; cases q
      rw [upd_ne ne]; exact R2.eI b o ((drp_ne ne).symm.trans q)
    ag := fun b o q => by
      have ne : b ≠ p := fun z => by have q : w.H0 b = some o := q; rw [z, h0] at q; cases q
      exact (drp_ne ne).trans (R2.ag b o q)
    ge := R.ge.trans sw
    gfp := R2.gfp
    grt := R2.grt
    gok := S.loc (fun b hb => upd_ne fun z => hf (z ▸ (R2.gfp b).mp hb)) R2.gok
    fI := fun b hb => by
      by_cases z : b = p
      · rw [z]; exact drp_eq
      · exact (drp_ne z).trans (R2.fI b hb)
    f0 := R.f0
    len := R.len
    slot := fun k => by
      by_cases h : k = j
      · rw [h, ej]
        refine ⟨.ref p, sj, ⟨p, vs, rfl, upd_same, hk, ra.mono sw, hz⟩, fun b f => ?_⟩
        obtain ⟨_, e⟩ := f
        cases e
        exact ⟨drp_eq, h0, hf⟩
      · exact (kp k h).1
    dis := fun i k b n f1 f2 => by
      by_cases hi' : i = j
      · have hk' : k ≠ j := fun z => n (hi'.trans z.symm)
        rw [hi'] at f1
        have := own b f1
        exact (kp k hk').2.2 b (((kp k hk').2.1 b).mp f2) this
      · have f1' := ((kp i hi').2.1 b).mp f1
        by_cases hk' : k = j
        · rw [hk'] at f2
          exact (kp i hi').2.2 b f1' (own b f2)
        · have f2' := ((kp k hk').2.1 b).mp f2
          exact R2.dis i k b n (by rw [at2 i hi']; exact f1') (by rw [at2 k hk']; exact f2') }
theorem pt_lock {t : TT} (h : PT X e t) : PT X e (fun σ H Q => ∃ d u, H d = some u ∧ Mut (some u) ∧ ∀ od, t σ (upd H d (.frz od u)) fun v H' => H' d = some (.frz od u) ∧ Q v (upd H' d u)) := by
  refine ⟨fun pins s σ H Q I hw => ?_⟩
  obtain ⟨d, u, hd, mu, hw⟩ := hw
  obtain ⟨od, I1⟩ := I.lock hd mu
  refine thn (h.run pins s σ _ _ I1 (hw od)) fun v s1 ⟨H1, I2, e2, q⟩ => ?_
  exact ⟨_, I2.unlock e2 (I.nofrz hd mu), q⟩
/-- one look at a dict of one's own -/
def mLk {α : Type} (j : Nat) (m : Env → G → Option (α × G)) : Env → G → Option (α × G) := fun env g => match env.at j with
  | .tr (.one (.dc kvs)) => m (env.set j (.fz kvs)) g
  | _ => none
theorem de_lk (j : Nat) (h : DE X S e ma) : DE X S e (mLk j ma) := PE.imp (pe_lock h) fun σ H Q ⟨w, env, g, d, g', R, e, k⟩ => by
  unfold mLk at e
  split at e
  case h_2 => cases e
  rename_i kvs ej
  obtain ⟨a, vs, sj, ha, hi, h0, hf, hk, ra, hz, RL⟩ := R.lockD ej
  refine ⟨a, _, ha, trivial, fun od => ⟨_, _, g, d, g', RL od, e, fun v I2 H' s R2 p => ?_⟩⟩
  obtain ⟨R3, sw, hI⟩ := R.unlockD ej sj ha hi h0 hf hk ra hz R2 s
  exact ⟨R2.eI _ _ hI, k v _ _ sw R3 (Rp.shr hI p)⟩
theorem dt_lk (j : Nat) (h : DT X S e mt) : DT X S e (mLk j mt) := PT.imp (pt_lock h) fun σ H Q ⟨w, env, g, d, g', R, e, k⟩ => by
  unfold mLk at e
  split at e
  case h_2 => cases e
  rename_i kvs ej
  obtain ⟨a, vs, sj, ha, hi, h0, hf, hk, ra, hz, RL⟩ := R.lockD ej
  refine ⟨a, _, ha, trivial, fun od => ⟨_, _, g, d, g', RL od, e, fun I2 H' s R2 => ?_⟩⟩
  obtain ⟨R3, sw, hI⟩ := R.unlockD ej sj ha hi h0 hf hk ra hz R2 s
  exact ⟨R2.eI _ _ hI, k _ _ sw R3⟩
end
end Pd

/-! Pd: what a locked dict is asked. -/
namespace Pd
open PySem PySem.Spec L2
def keyD : D → Option Key
  | .int i => some (.inl i)
  | .str s => some (.inr s)
  | _ => none
def dKey : Key → D
  | .inl i => .int i
  | .inr s => .str s
def findK (kvs : List (Key × D)) (k : Key) : Option D := (kvs.find? fun p => decide (p.1 = k)).map (·.2)
def hasK (kvs : List (Key × D)) (k : Key) : Bool := kvs.any fun p => decide (p.1 = k)
section
variable {K : PySem.W.Frag} {I : Hp}
theorem keyD_rp {v : V} {d : D} {k : Key} (r : Rp K I v d) (h : keyD d = some k) : v = kV k := by
  cases r with
  | int i => cases h; rfl
  | str s => cases h; rfl
  | _ => cases h
theorem find_rp {k : Key} : ∀ {kvs : List (Key × D)} {vs : List (Key × V)} {d : D}, vs.map (·.1) = kvs.map (·.1) → RpA K I (vs.map (·.2)) (kvs.map (·.2)) → findK kvs k = some d → ∃ v, valV vs k = some v ∧ Rp K I v d
  | [], vs, d, _, _, h => nomatch h
  | p :: kvs, [], d, h, _, _ => nomatch h
  | p :: kvs, u :: vs, d, h, r, hf => by
    rw [List.map_cons, List.map_cons] at h r
    obtain ⟨h1, h2⟩ := List.cons.inj h
    cases r with
    | cons r1 r2 =>
      unfold findK at hf
      by_cases e : p.1 = k
      · rw [List.find?_cons_of_pos (by simpa using e)] at hf
        cases hf
        exact ⟨u.2, valV_pos (by rw [h1, e]), r1⟩
      · rw [List.find?_cons_of_neg (by simpa using e)] at hf
        obtain ⟨v, e1, e2⟩ := find_rp h2 r2 hf
        exact ⟨v, (valV_neg (by rw [h1]; exact e)).trans e1, e2⟩
theorem has_eq {k : Key} : ∀ {kvs : List (Key × D)} {vs : List (Key × V)}, vs.map (·.1) = kvs.map (·.1) → (valV vs k).isSome = hasK kvs k := by
  intro kvs vs h
  rw [← valV_any]
  have : ∀ {α β : Type} (l : List (Key × α)), (l.any fun p => decide (p.1 = k)) = (l.map (·.1)).any fun q => decide (q = k) := fun {α β} l => by rw [List.any_map]; rfl
  rw [this (β := Unit) vs, h, ← this (β := Unit) kvs]
  rfl
end
section
variable {G : Type} {X : Cx} {S : Gs G} {a b c e : Expr} {es : List Expr} {pos : Pos} {ma mb me : ME G} {mt mu : MT G} {ml : ML G}
variable {K : PySem.W.Frag} {w : Wd} {env env' : Env} {g g' : G} {σ : St} {H H' I' : Hp}
theorem Rel.fzA {j : Nat} {kvs : List (Key × D)} (R : Rel K S w env g σ H) (ej : env.at j = .fz kvs) : ∃ a vs o, σ[j]? = some (some (.ref a)) ∧ w.I a = some (.frz o (.dK vs)) ∧ H a = some (.frz o (.dK vs)) ∧ vs.map (·.1) = kvs.map (·.1) ∧ RpA K w.I (vs.map (·.2)) (kvs.map (·.2)) ∧ kvs.length ≤ sizeLine := by
  have q := R.slot j
  rw [ej] at q
  obtain ⟨v, sj, a, vs, o, rfl, hi, hk, ra, hz⟩ := q
  exact ⟨a, vs, o, sj, hi, R.eI _ _ hi, hk, ra, hz⟩
/-! ### in -/
def mInFz (neg : Bool) (j : Nat) (me : ME G) : ME G := fun env g => bD (me env g) fun d g1 => match env.at j, keyD d with
  | .fz kvs, some k => some (.bool (if neg then !hasK kvs k else hasK kvs k), g1)
  | _, _ => none
def mInFzT (neg : Bool) (j : Nat) (me : ME G) : MT G := fun env g => bD (me env g) fun d g1 => match env.at j, keyD d with
  | .fz kvs, some k => some (if neg then !hasK kvs k else hasK kvs k, g1)
  | _, _ => none
theorem te_inFz {j : Nat} {Q : VK} (h : tE K S (mInFz false j me) σ H Q) : tDIn (tE K S me) (tVar j) σ H Q := by
  obtain ⟨w, env, g, d, g', R, e, k⟩ := h
  obtain ⟨x, g1, e1, e⟩ := bD_some e
  split at e
  · rename_i kvs ky ej ek
    cases e
    refine ⟨w, env, g, x, g', R, e1, fun v I1 H1 s1 R1 p1 => ?_⟩
    obtain ⟨a, vs, o, sj, hi, ha, hk, ra, hz⟩ := R1.fzA ej
    refine ⟨_, sj, a, valV vs ky, rfl, .inl ⟨vs, ky, .inr ⟨o, ha⟩, keyD_rp p1 ek, rfl⟩, ?_⟩
    rw [has_eq hk]
    exact k _ I1 H1 s1 R1 (.bl _)
  · cases e
theorem te_ninFz {j : Nat} {Q : VK} (h : tE K S (mInFz true j me) σ H Q) : tDNotIn (tE K S me) (tVar j) σ H Q := by
  obtain ⟨w, env, g, d, g', R, e, k⟩ := h
  obtain ⟨x, g1, e1, e⟩ := bD_some e
  split at e
  · rename_i kvs ky ej ek
    cases e
    refine ⟨w, env, g, x, g', R, e1, fun v I1 H1 s1 R1 p1 => ?_⟩
    obtain ⟨a, vs, o, sj, hi, ha, hk, ra, hz⟩ := R1.fzA ej
    refine ⟨_, sj, a, valV vs ky, rfl, .inl ⟨vs, ky, .inr ⟨o, ha⟩, keyD_rp p1 ek, rfl⟩, ?_⟩
    rw [has_eq hk]
    exact k _ I1 H1 s1 R1 (.bl _)
  · cases e
theorem tt_of {t : TE} {neg : Bool} {j : Nat} (h : ∀ {σ H} {Q : VK}, tE K S (mInFz neg j me) σ H Q → t σ H Q) {Q : Bool → Hp → Prop} (q : tT K S (mInFzT neg j me) σ H Q) : tB t σ H Q := by
  obtain ⟨w, env, g, d, g', R, e, k⟩ := q
  refine h ⟨w, env, g, .bool d, g', R, ?_, fun v I' H' s R' p => by cases p; exact ⟨d, rfl, k I' H' s R'⟩⟩
  unfold mInFzT at e
  unfold mInFz
  obtain ⟨x, g1, e1, e⟩ := bD_some e
  rw [e1]
  dsimp only [bD]
  split at e
  · cases e
    rfl
  · cases e
theorem de_inFz (j : Nat) {x : Str} {xp : Pos} (hu : X.A.units + 65 < cLine) (he : DE X S e me) (hN : X.N[j]? = some x := by rfl) (hv : Vis X.env.scope x := by first | exact Or.inl rfl | exact Or.inr (Or.inl rfl) | exact Or.inr (Or.inr rfl)) (hd : (x == ("__debug__" : Str)) = false := by decide)
    (hcd : (x == ("__classdict__" : Str)) = false := by decide) : DE X S (.Compare e [.In] [.Name x xp] pos) (mInFz false j me) := PE.imp (pe_cmp (pc_din (by omega) he (pe_var hN hv hd hcd)) rfl) fun _ _ _ h => te_inFz h
theorem dt_inFz (j : Nat) {x : Str} {xp : Pos} (hu : X.A.units + 65 < cLine) (he : DE X S e me) (hN : X.N[j]? = some x := by rfl) (hv : Vis X.env.scope x := by first | exact Or.inl rfl | exact Or.inr (Or.inl rfl) | exact Or.inr (Or.inr rfl)) (hd : (x == ("__debug__" : Str)) = false := by decide)
    (hcd : (x == ("__classdict__" : Str)) = false := by decide) : DT X S (.Compare e [.In] [.Name x xp] pos) (mInFzT false j me) := PT.imp (pt_cmp (pc_din (by omega) he (pe_var hN hv hd hcd)) rfl) fun _ _ _ h => tt_of te_inFz h
theorem dt_ninFz (j : Nat) {x : Str} {xp : Pos} (hu : X.A.units + 65 < cLine) (he : DE X S e me) (hN : X.N[j]? = some x := by rfl) (hv : Vis X.env.scope x := by first | exact Or.inl rfl | exact Or.inr (Or.inl rfl) | exact Or.inr (Or.inr rfl)) (hd : (x == ("__debug__" : Str)) = false := by decide)
    (hcd : (x == ("__classdict__" : Str)) = false := by decide) : DT X S (.Compare e [.NotIn] [.Name x xp] pos) (mInFzT true j me) := PT.imp (pt_cmp (pc_dnotin (by omega) he (pe_var hN hv hd hcd)) rfl) fun _ _ _ h => tt_of te_ninFz h
/-! ### d[k] -/
def mFzIx (j : Nat) (mi : ME G) : ME G := fun env g => bD (mi env g) fun i g1 => match env.at j, keyD i with
  | .fz kvs, some k => (findK kvs k).map (·, g1)
  | _, _ => none
theorem de_fzIx (j : Nat) {x : Str} {xp : Pos} {i : Expr} {mi : ME G} (hu : X.A.units + 65 < cLine) (hi : DE X S i mi) (hN : X.N[j]? = some x := by rfl) (hv : Vis X.env.scope x := by first | exact Or.inl rfl | exact Or.inr (Or.inl rfl) | exact Or.inr (Or.inr rfl)) (hd : (x == ("__debug__" : Str)) = false := by decide)
    (hcd : (x == ("__classdict__" : Str)) = false := by decide) (hs : NoSl i := by exact fun _ _ => rfl) : DE X S (.Subscript (.Name x xp) i pos) (mFzIx j mi) := PE.imp (pe_dget (by omega) (pe_var hN hv hd hcd) hi hs) fun σ H Q ⟨w, env, g, d, g', R, e, k⟩ => by
  obtain ⟨i, g1, e1, e⟩ := bD_some e
  split at e
  · rename_i kvs ky ej ek
    obtain ⟨e3, rfl⟩ := map_some e
    obtain ⟨a, vs, o, sj, _⟩ := R.fzA ej
    refine ⟨_, sj, w, env, g, i, g', R, e1, fun u I1 H1 s1 R1 p1 => ?_⟩
    obtain ⟨a', vs', o', sj', hi, ha, hk, ra, hz⟩ := R1.fzA ej
    rw [sj] at sj'
    cases sj'
    obtain ⟨v, e4, rv⟩ := find_rp hk ra e3
    exact ⟨a, v, rfl, .inl ⟨vs', ky, .inr ⟨o', ha⟩, keyD_rp p1 ek, e4.symm⟩, k v I1 H1 s1 R1 rv⟩
  · cases e
/-! ### the keys, one by one -/
def mItFz (j : Nat) : ML G := fun env g => match env.at j with
  | .fz kvs => if kvs.all (fun p => decide (keyD (dKey p.1) = some p.1)) = true ∧ (kvs.all fun p => match p.1 with | .inl _ => true | .inr _ => false) = true then some (kvs.map fun p => dKey p.1, g) else none
  | _ => none
theorem itk_ok {I : Hp} {a : Addr} {o : Obj} {vs : List (Key × V)} {kvs : List (Key × D)} (hi : I a = some (.frz o (.dK vs))) (hk : vs.map (·.1) = kvs.map (·.1)) (hint : ∀ p ∈ kvs, ∃ i, p.1 = Sum.inl i) : ItOk K (Itk a o vs) I (kvs.map fun p => dKey p.1) where
  go := fun i I' H' h s1 s2 => ⟨s2 _ _ (s1 _ _ hi), by
    have := congrArg List.length hk
    rw [List.length_map, List.length_map] at this
    rw [List.length_map] at h
    omega⟩
  yl := fun i I' H' x H'' d hd s1 s2 y => by
    obtain ⟨rfl, k, v, e, rfl⟩ := y
    refine ⟨I', Pst.refl s2, ?_⟩
    have e1 : (vs.map (·.1))[i]? = some k := by rw [List.getElem?_map, e]; rfl
    rw [hk, List.getElem?_map] at e1
    rw [List.getElem?_map] at hd
    cases e2 : kvs[i]? with
    | none => rw [e2] at hd; cases hd
    | some p =>
      rw [e2] at hd e1
      cases hd; cases e1
      obtain ⟨z, hz⟩ := hint p (List.mem_of_getElem? e2)
      show Rp K I' (kV p.1) (dKey p.1)
      rw [hz]
      exact .int z
  st := fun i I' H' h s1 s2 => ⟨s2 _ _ (s1 _ _ hi), by
    have := congrArg List.length hk
    rw [List.length_map, List.length_map] at this
    rw [List.length_map] at h
    omega⟩
theorem di_fz (j : Nat) {tg : Expr} {x : Str} {xp : Pos} (hN : X.N[j]? = some x := by rfl) (hv : Vis X.env.scope x := by first | exact Or.inl rfl | exact Or.inr (Or.inl rfl) | exact Or.inr (Or.inr rfl)) (hd : (x == ("__debug__" : Str)) = false := by decide)
    (hcd : (x == ("__classdict__" : Str)) = false := by decide) : DI X S tg (.Name x xp) (mItFz j) := PI.imp (pi_keys (pe_var hN hv hd hcd)) fun σ H R ⟨w, env, g, ds, g', Re, e, k⟩ => by
  unfold mItFz at e
  split at e
  · rename_i kvs ej
    split at e
    · rename_i hc
      cases e
      obtain ⟨a, vs, o, sj, hi, ha, hk, ra, hz⟩ := Re.fzA ej
      have hint : ∀ p ∈ kvs, ∃ i, p.1 = Sum.inl i := fun p hp => by
        have := List.all_eq_true.mp hc.2 p hp
        cases e : p.1 with
        | inl i => exact ⟨i, rfl⟩
        | inr s => rw [e] at this; cases this
      exact ⟨_, sj, a, o, rfl, .inl ⟨vs, ha, k _ w.I H (Same.refl _) Re (itk_ok hi hk hint) (by rw [List.length_map]; exact hz)⟩⟩
    · cases e
  · cases e
/-! ### calls with the dict alone -/
def FzD (K : PySem.W.Frag) (r : List V → Hp → VK → Prop) (f : List (Key × D) → Option D) : Prop := ∀ {I H : Hp} {v : V} {kvs : List (Key × D)} {z : D}, Same I H → FzOk K I v kvs → f kvs = some z → ∀ {Q : VK}, (∀ u I' H', Pst I H I' H' → Rp K I' u z → Q u H') → r [v] H Q
def FzF (K : PySem.W.Frag) (r : List V → Hp → VK → Prop) (f : List (Key × D) → Option (List D)) : Prop := ∀ {I H : Hp} {v : V} {kvs : List (Key × D)} {zs : List D}, Same I H → FzOk K I v kvs → f kvs = some zs →
  ∀ {Q : VK}, (∀ p vs H', H p = none → Same H H' → H' p = some (.lst vs) → RpA K I vs zs → zs.length ≤ sizeLine → Q (.ref p) H') → r [v] H Q
def mFz (f : List (Key × D) → Option D) (j : Nat) : ME G := fun env g => match env.at j with
  | .fz kvs => (f kvs).map (·, g)
  | _ => none
def mFzF (f : List (Key × D) → Option (List D)) (j : Nat) : ML G := fun env g => match env.at j with
  | .fz kvs => (f kvs).map (·, g)
  | _ => none
theorem Rel.fzV {j : Nat} {kvs : List (Key × D)} (R : Rel K S w env g σ H) (ej : env.at j = .fz kvs) : ∃ v, σ[j]? = some (some v) ∧ FzOk K w.I v kvs := by
  have q := R.slot j
  rw [ej] at q
  exact q
theorem de_fzB {x y : Str} {id : String} {r : List V → Hp → VK → Prop} {f : List (Key × D) → Option D} {p yp : Pos} (j : Nat) (hc : CallR X (.builtin id) r) (hf : FzD X.K r f) (hg : Gl X x) (hm : X.mg x = none) (hv : bootBuiltins x = some (.builtin id))
    (hN : X.N[j]? = some y := by rfl) (hvy : Vis X.env.scope y := by first | exact Or.inl rfl | exact Or.inr (Or.inl rfl) | exact Or.inr (Or.inr rfl)) (hd : (y == ("__debug__" : Str)) = false := by decide) (hcd : (y == ("__classdict__" : Str)) = false := by decide)
    (hn : x ≠ "__name__" := by decide) (hdb : (x == ("__debug__" : Str)) = false := by decide)
    (he : starEach [.Name y yp] X.env = (false, eval (.Name y yp) X.env) :: starEach [] X.env := by rfl) (hpl : (backTo pos (starEach [] X.env)).any (·.1) = false := by rfl) : DE X S (.Call (.Name x p) [.Name y yp] [] pos) (mFz f j) :=
  PE.imp (pe_callB hc hg hm hv (pa_cons (pe_var hN hvy hd hcd) pa_nil he) hn hdb he hpl) fun σ H Q ⟨w, env, g, d, g', R, e, k⟩ => by
    unfold mFz at e
    split at e
    · rename_i kvs ej
      obtain ⟨e3, rfl⟩ := map_some e
      obtain ⟨v, sj, ok⟩ := R.fzV ej
      exact ⟨v, sj, hf R.eI ok e3 fun u I' H' ps p => k u I' H' ps.eI (R.pst ps) p⟩
    · cases e
theorem df_fzB {x y : Str} {id : String} {r : List V → Hp → VK → Prop} {f : List (Key × D) → Option (List D)} {p yp : Pos} (j : Nat) (hc : CallR X (.builtin id) r) (hf : FzF X.K r f) (hg : Gl X x) (hm : X.mg x = none) (hv : bootBuiltins x = some (.builtin id))
    (hN : X.N[j]? = some y := by rfl) (hvy : Vis X.env.scope y := by first | exact Or.inl rfl | exact Or.inr (Or.inl rfl) | exact Or.inr (Or.inr rfl)) (hd : (y == ("__debug__" : Str)) = false := by decide) (hcd : (y == ("__classdict__" : Str)) = false := by decide)
    (hn : x ≠ "__name__" := by decide) (hdb : (x == ("__debug__" : Str)) = false := by decide)
    (he : starEach [.Name y yp] X.env = (false, eval (.Name y yp) X.env) :: starEach [] X.env := by rfl) (hpl : (backTo pos (starEach [] X.env)).any (·.1) = false := by rfl) : DF X S (.Call (.Name x p) [.Name y yp] [] pos) (mFzF f j) :=
  PE.imp (pe_callB hc hg hm hv (pa_cons (pe_var hN hvy hd hcd) pa_nil he) hn hdb he hpl) fun σ H Q ⟨w, env, g, d, g', R, e, k⟩ => by
    unfold mFzF at e
    split at e
    · rename_i kvs ej
      obtain ⟨e3, rfl⟩ := map_some e
      obtain ⟨v, sj, ok⟩ := R.fzV ej
      exact ⟨v, sj, hf R.eI ok e3 fun p vs H' h0 sm hp ra z => k p vs w.I H' (Same.refl _) (Rel.fresh (p := p) R sm) (R.nobS h0 sm) hp ra z⟩
    · cases e
theorem df_fzTy {x y : Str} {T : String} {r : List V → Hp → VK → Prop} {f : List (Key × D) → Option (List D)} {p yp : Pos} (j : Nat) (hc : CallR X (.type T) r) (hf : FzF X.K r f) (hg : Gl X x) (hm : X.mg x = none) (hv : bootBuiltins x = some (.type T))
    (hN : X.N[j]? = some y := by rfl) (hvy : Vis X.env.scope y := by first | exact Or.inl rfl | exact Or.inr (Or.inl rfl) | exact Or.inr (Or.inr rfl)) (hd : (y == ("__debug__" : Str)) = false := by decide) (hcd : (y == ("__classdict__" : Str)) = false := by decide)
    (hn : x ≠ "__name__" := by decide) (hdb : (x == ("__debug__" : Str)) = false := by decide)
    (he : starEach [.Name y yp] X.env = (false, eval (.Name y yp) X.env) :: starEach [] X.env := by rfl) (hpl : (backTo pos (starEach [] X.env)).any (·.1) = false := by rfl) : DF X S (.Call (.Name x p) [.Name y yp] [] pos) (mFzF f j) :=
  PE.imp (pe_callTy hc hg hm hv (pa_cons (pe_var hN hvy hd hcd) pa_nil he) hn hdb he hpl) fun σ H Q ⟨w, env, g, d, g', R, e, k⟩ => by
    unfold mFzF at e
    split at e
    · rename_i kvs ej
      obtain ⟨e3, rfl⟩ := map_some e
      obtain ⟨v, sj, ok⟩ := R.fzV ej
      exact ⟨v, sj, hf R.eI ok e3 fun p vs H' h0 sm hp ra z => k p vs w.I H' (Same.refl _) (Rel.fresh (p := p) R sm) (R.nobS h0 sm) hp ra z⟩
    · cases e
/-- len(d) -/
def rLenK : List V → Hp → VK → Prop := fun vs H Q => ∃ a kvs, vs = [V.ref a] ∧ Rd H a (.dK kvs) ∧ Q (.int kvs.length) H
theorem cr_lenK : CallR X (.builtin "len") rLenK := by
  intro pins s σ H vs us Q I r h
  obtain ⟨a, kvs, rfl, ha, q⟩ := h
  rw [Vals.ref1 r]
  exact d_len I ha fun t s' I' => ⟨.int _, H, I', ⟨t, rfl⟩, q⟩
def dLenK (kvs : List (Key × D)) : Option D := some (.int kvs.length)
theorem fz_len : FzD K rLenK dLenK := by
  intro I H v kvs z s ok e Q k
  obtain ⟨a, vs, o, rfl, hi, hk, ra, hz⟩ := ok
  cases e
  have hl : vs.length = kvs.length := by have := congrArg List.length hk; rwa [List.length_map, List.length_map] at this
  refine ⟨a, vs, rfl, .inr ⟨o, s _ _ hi⟩, ?_⟩
  rw [hl]
  exact k _ I H (Pst.refl s) (.int _)
/-- the keys, all numbers -/
def intK : List (Key × D) → Option (List Int)
  | [] => some []
  | (.inl i, _) :: r => (intK r).map (i :: ·)
  | (.inr _, _) :: _ => none
theorem intK_map : ∀ {kvs : List (Key × D)} {is : List Int}, intK kvs = some is → kvs.map (·.1) = is.map Sum.inl
  | [], is, h => by cases h; rfl
  | (.inl i, d) :: r, is, h => by
    obtain ⟨js, h1, rfl⟩ := Option.map_eq_some_iff.mp h
    rw [List.map_cons, List.map_cons, intK_map h1]
  | (.inr _, _) :: _, is, h => nomatch h
def maxI : List Int → Int
  | [] => 0
  | [i] => i
  | i :: r => max i (maxI r)
theorem maxI_mem : ∀ {is : List Int}, is ≠ [] → maxI is ∈ is ∧ ∀ j ∈ is, j ≤ maxI is
  | [i], _ => ⟨by simp [maxI], fun j hj => by rw [List.mem_singleton.mp hj]; exact Int.le_refl _⟩
  | i :: k :: r, _ => by
    obtain ⟨h1, h2⟩ := maxI_mem (is := k :: r) (by simp)
    show max i (maxI (k :: r)) ∈ _ ∧ ∀ j ∈ _, j ≤ max i (maxI (k :: r))
    refine ⟨?_, fun j hj => ?_⟩
    · rcases Int.le_total i (maxI (k :: r)) with h | h
      · rw [Int.max_eq_right h]; exact List.mem_cons_of_mem _ h1
      · rw [Int.max_eq_left h]; exact List.mem_cons_self ..
    · rcases List.mem_cons.mp hj with rfl | hj
      · exact Int.le_max_left _ _
      · exact Int.le_trans (h2 j hj) (Int.le_max_right _ _)
theorem maxI_uni {is : List Int} {m : Int} (hm : m ∈ is) (h : ∀ j ∈ is, j ≤ m) : m = maxI is := by
  obtain ⟨h1, h2⟩ := maxI_mem (is := is) (fun z => by rw [z] at hm; cases hm)
  exact Int.le_antisymm (h2 m hm) (h _ h1)
/-- max(d), the keys numbers -/
def rMaxK : List V → Hp → VK → Prop := fun vs H Q => ∃ (a : Addr) (kvs : List (Key × V)) (is : List Int), vs = [V.ref a] ∧ Rd H a (.dK kvs) ∧ kvs.map (·.1) = is.map Sum.inl ∧ is ≠ [] ∧ Q (.int (maxI is)) H
theorem cr_maxK (hc : X.calm = true) : CallR X (.builtin "max") rMaxK := by
  intro pins s σ H vs us Q I r h
  obtain ⟨a, kvs, is, rfl, ha, hv, hne, q⟩ := h
  rw [Vals.ref1 r]
  obtain ⟨_, hsys, vs, rel, dof⟩ := dk_rd I.hok ha
  obtain ⟨ep, dat⟩ := dof.dictAt
  obtain ⟨ob, es, ho, hex, hdat, hko, hpr, hnd⟩ := id dat
  have hlt : a < s.heap.objs.size := Heap.lt_size ho
  have hkeys : vs.map (·.1) = is.map Sum.inl := (KV.keys rel).symm.trans hv
  have hlv : vs.length = is.length := by
    have e1 := congrArg List.length hkeys
    rw [List.length_map, List.length_map] at e1
    exact e1
  have hlen : 0 < vs.length := by
    rw [hlv]
    exact List.length_pos_iff.mpr hne
  have hval : ∀ (i : Nat) (v : Value), (∃ k x, vs[i]? = some (k, x) ∧ (mixKind X.prog X.w).is k v = true) → ∃ t, v = Value.int (is.getD i 0) t := fun i v ⟨k, x, hk, hkey⟩ => by
    have e1 : (vs.map (·.1))[i]? = some k := by rw [List.getElem?_map, hk] <;> rfl
    rw [hkeys, List.getElem?_map] at e1
    obtain ⟨j, hj, e2⟩ := Option.map_eq_some_iff.mp e1
    subst e2
    have hi : Value.isInt j v = true := hkey
    obtain ⟨t, e3⟩ := Value.isInt_shape (k := j) (v := v) hi
    refine ⟨t, ?_⟩
    rw [e3, List.getD_eq_getElem?_getD, hj] <;> rfl
  refine call_max_walk (wpAny_pyIter_dict (knd := mixKind X.prog X.w) hsys dat ?_)
  refine ⟨_, _, _, _, _, _, _, rfl, Walks.dictKeys (knd := mixKind X.prog X.w) (A := X.A.in1) (I.ok.hd hc) s.heap.objs.size a (Nat.ne_of_lt hlt) vs ep,
    ⟨⟨_, Heap.get?_push_size _ rfl, rfl, rfl⟩, dat.keep fun b u e => Heap.get?_push_of_some _ e⟩, fun b hb => ?_, hlen, CmpOf.ints_gt (fun i => is.getD i 0) hval, fun v h' tk hP hk => ?_⟩
  · show b < (s.heap.push _).objs.size
    rw [Heap.size_push]
    rcases List.mem_cons.mp hb with e | hb
    · rw [e]
      exact Nat.lt_succ_self _
    · rw [List.mem_singleton.mp hb]
      exact Nat.lt_succ_of_lt hlt
  · obtain ⟨t, rfl⟩ := hval _ v hP
    obtain ⟨b1, b2⟩ := argBest_gt (fun i => is.getD i 0) (vs.length - 1)
    have hb : argBest (fun i j => decide (is.getD i 0 > is.getD j 0)) (vs.length - 1) < is.length := by omega
    have hm : is.getD (argBest (fun i j => decide (is.getD i 0 > is.getD j 0)) (vs.length - 1)) 0 = maxI is := maxI_uni (by
      rw [List.getD_eq_getElem?_getD, List.getElem?_eq_getElem hb]
      exact List.getElem_mem hb) fun j hj => by
      obtain ⟨i, hi, e⟩ := List.mem_iff_getElem.mp hj
      have e2 : is.getD i 0 = j := by rw [List.getD_eq_getElem?_getD, List.getElem?_eq_getElem hi, ← e] <;> rfl
      rw [← e2]
      exact b2 i (by omega)
    refine ⟨.int _, H, I.kept (t' := tk) fun b u e => hk b u (fun hmem => ?_) (Heap.get?_push_of_some _ e), ⟨t, rfl⟩, by rw [hm]; exact q⟩
    have e1 : b = s.heap.objs.size := List.mem_singleton.mp hmem
    have e2 := Heap.lt_size e
    rw [e1] at e2
    exact absurd e2 (Nat.lt_irrefl _)
def dMaxK (kvs : List (Key × D)) : Option D := match intK kvs with
  | some (i :: r) => some (.int (maxI (i :: r)))
  | _ => none
theorem fz_max : FzD K rMaxK dMaxK := by
  intro I H v kvs z s ok e Q k
  obtain ⟨a, vs, o, rfl, hi, hk, ra, hz⟩ := ok
  unfold dMaxK at e
  split at e
  · rename_i i r ei
    cases e
    exact ⟨a, vs, i :: r, rfl, .inr ⟨o, s _ _ hi⟩, hk.trans (intK_map ei), by simp, k _ I H (Pst.refl s) (.int _)⟩
  · cases e
/-- list(d) -/
def rListK : List V → Hp → VK → Prop := fun xs H Q => ∃ (a : Addr) (kvs : List (Key × V)), xs = [.ref a] ∧ Rd H a (.dK kvs) ∧ ∀ p, H p = none → Q (.ref p) (upd H p (.lst (kvs.map fun kv => kV kv.1)))
def dListK (kvs : List (Key × D)) : Option (List D) := (intK kvs).map fun is => is.map .int
theorem fz_list : FzF K rListK dListK := by
  intro I H v kvs zs s ok e Q k
  obtain ⟨a, vs, o, rfl, hi, hk, ra, hz⟩ := ok
  obtain ⟨is, ei, rfl⟩ := Option.map_eq_some_iff.mp e
  have hl : kvs.length = is.length := by have := congrArg List.length (intK_map ei); rwa [List.length_map, List.length_map] at this
  refine ⟨a, vs, rfl, .inr ⟨o, s _ _ hi⟩, fun p h0 => k p _ _ h0 (same_new h0) upd_same ?_ (by rw [List.length_map]; omega)⟩
  have e2 : (vs.map fun kv => kV kv.1) = is.map V.int := by
    have : (vs.map fun kv => kV kv.1) = (vs.map (·.1)).map kV := by rw [List.map_map]; rfl
    rw [this, hk, intK_map ei, List.map_map]
    rfl
  rw [e2]
  exact RpA.of_ints is
/-- max(xs), numbers -/
def dMaxL : List D → Option D
  | [.list ds] => match intsD ds with
    | some (i :: r) => some (.int (maxI (i :: r)))
    | _ => none
  | _ => none
theorem intsD_of : ∀ {ds : List D} {is : List Int}, intsD ds = some is → ds = is.map .int
  | [], is, h => by cases h; rfl
  | d :: ds, is, h => by
    cases d with
    | int i =>
      obtain ⟨js, h1, rfl⟩ := Option.map_eq_some_iff.mp (show (intsD ds).map (i :: ·) = some is from h)
      rw [List.map_cons, intsD_of h1]
    | _ => cases h
theorem cd_maxL : CallD K (rMax K) dMaxL := by
  intro I H xs ds z s p hz Q k
  cases p with
  | nil => cases hz
  | cons a b =>
    cases b with
    | cons _ _ => cases a <;> cases hz
    | nil =>
      cases a with
      | lst hp ra hl =>
        rename_i p us es
        have hz : (match intsD es with | some (i :: r) => some (PyData.int (maxI (i :: r))) | _ => none) = some z := hz
        split at hz
        · rename_i i r ei
          cases hz
          rw [intsD_of ei] at ra
          have := ra.ints
          refine ⟨p, i :: r, rfl, SqL.of (this ▸ s _ _ hp), by simp, fun m hm hle => ?_⟩
          rw [maxI_uni hm hle]
          exact k _ I H (Pst.refl s) (.int _)
        · cases hz
      | _ => cases hz
/-! ### arguments -/
def gConsF (i : Nat) (ml : MG G) : MG G := fun env g => match env.at i with
  | .fz kvs => bD (ml env g) fun xs g2 => some (.fz kvs :: xs, g2)
  | _ => none
theorem dg_fz {mg : MG G} {i : Nat} {x : Str} {pos' : Pos} (hr : DG X S es mg) (hN : X.N[i]? = some x := by rfl) (hv : Vis X.env.scope x := by first | exact Or.inl rfl | exact Or.inr (Or.inl rfl) | exact Or.inr (Or.inr rfl)) (hd : (x == ("__debug__" : Str)) = false := by decide)
    (hcd : (x == ("__classdict__" : Str)) = false := by decide) (hs : starEach (.Name x pos' :: es) X.env = (false, eval (.Name x pos') X.env) :: starEach es X.env := by rfl) : DG X S (.Name x pos' :: es) (gConsF i mg) := PA.imp (pa_cons (pe_var hN hv hd hcd) hr hs) fun σ H Q h => by
  obtain ⟨w, env, g, d, g', R, e, k⟩ := h
  unfold gConsF at e
  split at e
  · rename_i kvs ej
    obtain ⟨y, g2, e2, e⟩ := bD_some e
    cases e
    obtain ⟨v, sj, ok⟩ := R.fzV ej
    exact ⟨_, sj, w, env, g, y, g', R, e2, fun vs I2 H2 s2 R2 p2 => k _ I2 H2 s2 R2 (.cons (ok.mono s2) p2)⟩
  · cases e
end
end Pd

/-! Pe: new dicts, stores to a dict of one's own. -/
namespace Pd
open PySem PySem.Spec L2
/-- in its place, or at the end -/
def putKD (kvs : List (Key × D)) (k : Key) (d : D) : List (Key × D) := if hasK kvs k = true then kvs.map (fun p => if p.1 = k then (p.1, d) else p) else kvs ++ [(k, d)]
section
variable {K : PySem.W.Frag} {I : Hp}
theorem putK_rp {k : Key} {v : V} {d : D} (r : Rp K I v d) {kvs : List (Key × D)} {vs : List (Key × V)} (h : vs.map (·.1) = kvs.map (·.1)) (ra : RpA K I (vs.map (·.2)) (kvs.map (·.2))) :
    (putK vs k v).map (·.1) = (putKD kvs k d).map (·.1) ∧ RpA K I ((putK vs k v).map (·.2)) ((putKD kvs k d).map (·.2)) := by
  have ha : (vs.any fun kv => decide (kv.1 = k)) = hasK kvs k := by rw [valV_any]; exact has_eq h
  unfold putK putKD
  rw [ha]
  cases hasK kvs k with
  | true =>
    rw [if_pos rfl, if_pos rfl]
    have key : ∀ {kvs : List (Key × D)} {vs : List (Key × V)}, vs.map (·.1) = kvs.map (·.1) → RpA K I (vs.map (·.2)) (kvs.map (·.2)) →
        (vs.map fun kv => if kv.1 = k then (kv.1, v) else kv).map (·.1) = (kvs.map fun p => if p.1 = k then (p.1, d) else p).map (·.1) ∧ RpA K I ((vs.map fun kv => if kv.1 = k then (kv.1, v) else kv).map (·.2)) ((kvs.map fun p => if p.1 = k then (p.1, d) else p).map (·.2)) := by
      intro kvs
      induction kvs with
      | nil =>
        intro vs h ra
        cases vs with
        | nil => exact ⟨rfl, .nil⟩
        | cons _ _ => cases h
      | cons p kvs ih =>
        intro vs h ra
        cases vs with
        | nil => cases h
        | cons u vs =>
          obtain ⟨h1, h2⟩ := List.cons.inj h
          cases ra with
          | cons r1 r2 =>
            obtain ⟨i1, i2⟩ := ih h2 r2
            have h1 : u.1 = p.1 := h1
            rw [List.map_cons, List.map_cons, List.map_cons, List.map_cons, List.map_cons, List.map_cons, i1]
            by_cases e : p.1 = k
            · rw [if_pos e, if_pos (h1.trans e)]
              exact ⟨by rw [h1], .cons r i2⟩
            · rw [if_neg e, if_neg (fun z => e (h1.symm.trans z))]
              exact ⟨by rw [h1], .cons r1 i2⟩
    exact key h ra
  | false =>
    rw [if_neg (by simp), if_neg (by simp), List.map_append, List.map_append, List.map_append, List.map_append, h]
    exact ⟨rfl, ra.append (.cons r .nil)⟩
theorem putKD_len (kvs : List (Key × D)) (k : Key) (d : D) : (putKD kvs k d).length ≤ kvs.length + 1 := by
  unfold putKD
  split
  · rw [List.length_map]; omega
  · rw [List.length_append]; exact Nat.le_refl _
end
section
variable {G : Type} {X : Cx} {S : Gs G} {a b c e : Expr} {es : List Expr} {pos : Pos} {ma mb me : ME G} {mt mu : MT G} {ml : ML G}
variable {K : PySem.W.Frag} {w : Wd} {env env' : Env} {g g' : G} {σ : St} {H H' I' : Hp}
/-! ### a new dict -/
abbrev MK (G : Type) := Env → G → Option (List (Key × D) × G)
def tK {G : Type} (K : PySem.W.Frag) (S : Gs G) (m : MK G) : TE := fun σ H Q => ∃ w env g kvs g', Rel K S w env g σ H ∧ m env g = some (kvs, g') ∧
  ∀ p vs I' H', Same w.I I' → Rel K S (w.im I') env g' σ H' → Nob (w.im I') env σ H' p → H' p = some (.dK vs) → vs.map (·.1) = kvs.map (·.1) → RpA K I' (vs.map (·.2)) (kvs.map (·.2)) → kvs.length ≤ sizeLine → Q (.ref p) H'
abbrev DK {G : Type} (X : Cx) (S : Gs G) (e : Expr) (m : MK G) : Prop := PE X e (tK X.K S m)
def mNewK : MK G := fun _ g => some ([], g)
theorem dk_new : DK X S (.Dict [] [] pos) mNewK := PE.imp pe_dnewK fun σ H Q ⟨w, env, g, d, g', R, e, k⟩ => by
  cases e
  exact fun p h0 => k p [] w.I _ (Same.refl _) (R.alloc h0) (R.nob h0) upd_same rfl .nil (Nat.zero_le _)
/-- pairs, as a dict: no key twice -/
def pairsK : List D → Option (List (Key × D))
  | [] => some []
  | .tuple [k, d] :: r => match keyD k with
    | some k => (pairsK r).map ((k, d) :: ·)
    | none => none
  | _ :: _ => none
def ndK (kvs : List (Key × D)) : Bool := decide ((kvs.map (·.1)).Nodup)
def mDictOf (ma : ME G) : MK G := fun env g => bD (ma env g) fun x g1 => match x with
  | .list ds => match pairsK ds with
    | some kvs => if ndK kvs = true then some (kvs, g1) else none
    | none => none
  | _ => none
theorem pairs_rp {I : Hp} : ∀ {ds : List D} {vs : List V} {kvs : List (Key × D)}, RpA K I vs ds → pairsK ds = some kvs → ∃ (ps : List Addr) (us : List (Key × V)), vs = ps.map V.ref ∧ Paired (fun p kv => SqT K I p [kV kv.1, kv.2]) ps us ∧ us.map (·.1) = kvs.map (·.1) ∧ RpA K I (us.map (·.2)) (kvs.map (·.2)) ∧ kvs.length = ds.length
  | [], _, kvs, r, h => by
    cases r; cases h
    exact ⟨[], [], rfl, .nil, rfl, .nil, rfl⟩
  | d :: ds, _, kvs, r, h => by
    cases r with
    | @cons v vs _ _ r1 r2 =>
      unfold pairsK at h
      split at h
      · rename_i heq
        cases heq
      · rename_i k d' r heq
        cases heq
        split at h
        · rename_i ky ek
          obtain ⟨kvs', h1, rfl⟩ := Option.map_eq_some_iff.mp h
          obtain ⟨ps, us, rfl, hp, hk, ra, hl⟩ := pairs_rp r2 h1
          cases r1 with
          | @tup q xs _ hq rb _ =>
            cases rb with
            | cons k1 rb =>
              cases rb with
              | cons d1 rb =>
                cases rb
                rw [keyD_rp k1 ek] at hq
                refine ⟨q :: ps, (ky, _) :: us, rfl, .cons hq hp, ?_, .cons d1 ra, ?_⟩
                · rw [List.map_cons, List.map_cons, hk]
                · rw [List.length_cons, List.length_cons, hl]
        · cases h
      · cases h
theorem pair_mono {I I' : Hp} (e : Same I I') : ∀ {ps : List Addr} {us : List (Key × V)}, Paired (fun p kv => SqT K I p [kV kv.1, kv.2]) ps us → Paired (fun p kv => SqT K I' p [kV kv.1, kv.2]) ps us
  | _, _, .nil => .nil
  | _, _, .cons a b => .cons (same_t e a) (pair_mono e b)
theorem dk_dict {x : Str} {p : Pos} (hc : X.calm = true) (hg : Gl X x) (hm : X.mg x = none) (hv : bootBuiltins x = some (.type "dict")) (ha : DE X S e ma) (hn : x ≠ "__name__" := by decide) (hdb : (x == ("__debug__" : Str)) = false := by decide)
    (he : starEach [e] X.env = (false, eval e X.env) :: starEach [] X.env := by rfl) (hpl : (backTo pos (starEach [] X.env)).any (·.1) = false := by rfl) : DK X S (.Call (.Name x p) [e] [] pos) (mDictOf ma) :=
  PE.imp (pe_callTy (call_dictP hc) hg hm hv (pa_cons ha pa_nil he) hn hdb he hpl) fun σ H Q ⟨w, env, g, d, g', R, e, k⟩ => by
    obtain ⟨x, g1, e1, e⟩ := bD_some e
    split at e
    case h_2 => cases e
    rename_i ds
    split at e
    case h_2 => cases e
    rename_i kvs ek
    split at e
    case isFalse => cases e
    rename_i hnd
    cases e
    refine ⟨w, env, g, _, g', R, e1, fun v I' H' s R' p => ?_⟩
    cases p with
    | @lst a xs _ hp ra hl =>
      obtain ⟨ps, us, rfl, hpr, hk, rb, hlen⟩ := pairs_rp ra ek
      have hnd2 : (us.map (·.1)).Nodup := by rw [hk]; exact of_decide_eq_true hnd
      refine ⟨a, ps, us, rfl, SqL.of (R'.eI _ _ hp), pair_mono R'.eI hpr, fun q h0 => ?_⟩
      rw [merge_nd us [] hnd2, List.nil_append]
      exact k q us I' _ s (R'.alloc h0) (R'.nob h0) upd_same hk rb (by rw [hlen]; exact hl)
theorem Rel.putT {i : Nat} {v : V} {t : T2} (R : Rel K S w env g σ H) (ok : T2Ok K w.I H v t) (fr : ∀ a, t.fp H v a → Nob w env σ H a) : Rel K S w (env.set i (.tr t)) g (σ.set i (some v)) H :=
  R.put (fun k e _ => ⟨v, e, ok, fun a f => ⟨(fr a f).i, (fr a f).h0, (fr a f).f⟩⟩) fun a f j => by
    obtain ⟨u, e1, f⟩ := f
    rw [get_set] at e1
    split at e1
    · cases e1; exact (fr a f).o j
    · rename_i hi
      have : i < σ.length := Nat.lt_of_not_le fun hle => by rw [List.getElem?_eq_none hle] at e1; cases e1
      exact absurd ⟨rfl, this⟩ hi
def mSetK (i : Nat) (mk : MK G) : MS G := fun env g => bD (mk env g) fun kvs g1 => some (.nx, env.set i (.tr (.one (.dc kvs))), g1)
theorem ds_setK {i : Nat} {x : Str} {pos' : Pos} {mk : MK G} (hN : X.N.Nodup) (hi : X.N[i]? = some x) (hx : Loc X.env.scope x) (he : DK X S e mk) (hs : swapsWith e (some (.Name x pos')) pos.line X.env = pure false := by rfl)
    (hf : X.fn x = true ∨ X.env.scope.names.lookup x = some .local := by first | exact .inl rfl | exact .inr rfl | assumption) : DS X S (.Assign [.Name x pos'] e pos) (mSetK i mk) := PS.imp (ps_set hN hi hx he hs hf) fun D σ H ⟨w, env, g, c, env', g', R, e, k⟩ => by
  obtain ⟨kvs, g1, e1, e⟩ := bD_some e
  cases e
  exact ⟨w, env, g, kvs, g', R, e1, fun p vs I' H' s' R' n hp hk ra hz => k _ I' H' s' (R'.putT (w := w.im I') ⟨p, vs, rfl, hp, hk, ra, hz⟩ fun a ⟨_, f⟩ => by cases f; exact n)⟩
/-- a, b = e, {} -/
def mParK (i j : Nat) (ma : ME G) : MS G := fun env g => bD (ma env g) fun d g1 => some (.nx, (env.set i (.sh d)).set j (.tr (.one (.dc []))), g1)
theorem ds_parK {i j : Nat} {x y : Str} {px py pt p2 : Pos} {kt k2 pt2} (hc : X.calm = true) (hN : X.N.Nodup) (hi : X.N[i]? = some x) (hj : X.N[j]? = some y) (hij : i ≠ j)
    (hx : X.env.scope.names.lookup x = some .local) (hy : X.env.scope.names.lookup y = some .local) (ha : DE X S a ma)
    (hw : swappedStores [.Tuple [.Name x px, .Name y py] kt pt] (.Tuple [a, .Dict [] [] p2] k2 pt2) X.env = pure (some [x, y]))
    (hs : swapsWithSole [.Tuple [.Name x px, .Name y py] kt pt] (.Tuple [a, .Dict [] [] p2] k2 pt2) pos.line X.env = pure false := by rfl)
    (h1 : starEach [a, .Dict [] [] p2] X.env = (false, eval a X.env) :: starEach [.Dict [] [] p2] X.env := by rfl) (h2 : starEach [.Dict [] [] p2] X.env = (false, eval (.Dict [] [] p2) X.env) :: starEach [] X.env := by rfl) :
    DS X S (.Assign [.Tuple [.Name x px, .Name y py] kt pt] (.Tuple [a, .Dict [] [] p2] k2 pt2) pos) (mParK i j ma) := PS.imp (ps_par hc hN hi hj hij hx hy (pa_cons ha (pa_cons pe_dnewK pa_nil h2) h1) hw hs) fun D σ H ⟨w, env, g, c, env', g', R, e, k⟩ => by
  obtain ⟨d, g1, e1, e⟩ := bD_some e
  cases e
  refine ⟨w, env, g, d, g', R, e1, fun v I' H' s' R' r p h0 => ?_⟩
  have R1 := R'.alloc (o := .dK []) h0
  have n1 := R'.nob (o := .dK []) h0
  have R2 := R1.putD (i := i) r
  refine ⟨_, _, rfl, k _ I' _ s' (R2.putT (w := w.im I') (i := j) (v := .ref p) (t := .one (.dc [])) ⟨p, [], rfl, upd_same, rfl, .nil, Nat.zero_le _⟩ fun b ⟨_, f⟩ => ?_)⟩
  cases f
  refine ⟨n1.i, n1.h0, n1.f, fun q fq => ?_⟩
  rw [at_set] at fq
  by_cases hq : q = i ∧ i < env.length
  · rw [if_pos hq] at fq; exact fq
  · rw [if_neg hq] at fq
    exact n1.o q (fpt_eq (i := q) (by rw [get_set, if_neg (by rw [R'.len]; exact hq)]) fq)
/-- under a lock -/
theorem dk_lk (j : Nat) {mk : MK G} (h : DK X S e mk) : DK X S e (mLk j mk) := PE.imp (pe_lock h) fun σ H Q ⟨w, env, g, kvs2, g', R, e, k⟩ => by
  unfold mLk at e
  split at e
  case h_2 => cases e
  rename_i kvs ej
  obtain ⟨a, vs, sj, ha, hi, h0, hf, hk, ra, hz, RL⟩ := R.lockD ej
  refine ⟨a, _, ha, trivial, fun od => ⟨_, _, g, kvs2, g', RL od, e, fun p us I2 H' s R2 n hp hk2 ra2 hz2 => ?_⟩⟩
  obtain ⟨R3, sw, hI⟩ := R.unlockD ej sj ha hi h0 hf hk ra hz R2 s
  have ne : p ≠ a := fun z => by
    have := n.i
    have this : I2 p = none := this
    rw [z, hI] at this; cases this
  have hj := slot_lt R sj
  refine ⟨R2.eI _ _ hI, k p us _ _ sw R3 ⟨(drp_ne ne).trans n.i, n.h0, n.f, fun i f => ?_⟩ ((upd_ne ne).trans hp) hk2 (ra2.shr hI) hz2⟩
  by_cases h : i = j
  · rw [h, ej] at f
    obtain ⟨v, e1, f1, f2⟩ := f
    rw [sj] at e1; cases e1
    cases f2
    exact ne rfl
  · have e2 : Env.at (env.set j (.fz kvs)) i = env.at i := by rw [at_set, if_neg fun z => h z.1]
    have q2 := R2.slot i
    rw [e2] at q2
    have kp := q2.keep (σ' := σ) (w' := w.im I2) (H' := upd H' a (.dK vs)) rfl (Same.refl _) rfl fun b fb => by
      obtain ⟨a1, a2, a3, _⟩ := q2.fr fb
      exact ⟨upd_ne (fun z => by have a1 : I2 b = none := a1; rw [z, hI] at a1; cases a1), a1, a2, a3⟩
    exact n.o i (by rw [e2]; exact (kp.2 p).mp f)
/-! ### d[k] = e -/
def mPutD (j : Nat) (mi me : ME G) : MS G := fun env g => bD (me env g) fun d g1 => bD (mi env g1) fun i g2 => match env.at j, keyD i with
  | .tr (.one (.dc kvs)), some k => if kvs.length < sizeLine then some (.nx, env.set j (.tr (.one (.dc (putKD kvs k d)))), g2) else none
  | _, _ => none
theorem ds_putD (j : Nat) {x : Str} {xp sp : Pos} {i : Expr} {mi : ME G} (hu : X.A.units + 65 < cLine) (hi : DE X S i mi) (he : DE X S e me) (hN : X.N[j]? = some x := by rfl) (hv : Vis X.env.scope x := by first | exact Or.inl rfl | exact Or.inr (Or.inl rfl) | exact Or.inr (Or.inr rfl)) (hd : (x == ("__debug__" : Str)) = false := by decide)
    (hcd : (x == ("__classdict__" : Str)) = false := by decide) (hs : swapsWith e (some (.Subscript (.Name x xp) i sp)) pos.line X.env = pure false := by rfl) :
    DS X S (.Assign [.Subscript (.Name x xp) i sp] e pos) (mPutD j mi me) := PS.imp (ps_dput (by omega) (pe_var hN hv hd hcd) hi he hs) fun D σ H ⟨w, env, g, c, env', g', R, e, k⟩ => by
  obtain ⟨d, g1, e1, e⟩ := bD_some e
  obtain ⟨i, g2, e2, e⟩ := bD_some e
  split at e
  case h_2 => cases e
  rename_i kvs ky ej ek
  split at e
  case isFalse => cases e
  rename_i hlt
  cases e
  refine ⟨w, env, g, d, g1, R, e1, fun v I1 H1 s1 R1 p1 => ?_⟩
  have q1 := R1.slot j
  rw [ej] at q1
  obtain ⟨u, sj, ⟨a, vs, rfl, ha, hk, ra, hz⟩, own⟩ := q1
  refine ⟨_, sj, w.im I1, env, g1, i, g', R1, e2, fun y I2 H2 s2 R2 p2 => ?_⟩
  have q2 := R2.slot j
  rw [ej] at q2
  obtain ⟨u2, sj2, ⟨a2, vs2, rfl, ha2, hk2, ra2, hz2⟩, own2⟩ := q2
  rw [sj] at sj2
  cases sj2
  have hl2 : vs2.length = kvs.length := by have := congrArg List.length hk2; rwa [List.length_map, List.length_map] at this
  obtain ⟨r1, r2⟩ := putK_rp (k := ky) (p1.mono s2) hk2 ra2
  rw [keyD_rp p2 ek]
  refine ⟨_, _, rfl, DPut.k ha2 (by omega), k σ I2 _ (Same.trans s1 s2) ?_⟩
  have fo : fpt H2 σ j (env.at j) a := by rw [ej]; exact ⟨_, sj, rfl, rfl⟩
  refine R2.write (slot_lt R2 sj) (fun b z => ?_) (fun b o q z => ?_) ⟨_, sj, ⟨a, _, rfl, upd_same, r1, r2, Nat.le_trans (putKD_len _ _ _) (by omega)⟩, fun b ⟨_, f⟩ => by cases f; exact own2 a ⟨rfl, rfl⟩⟩ fun b f => ?_
  · by_cases h : b = a
    · exact .inr (h ▸ fo)
    · exact absurd (upd_ne h) z
  · by_cases h : b = a
    · rw [h, upd_same] at z; cases z
    · rw [upd_ne h, q] at z; cases z
  · obtain ⟨u, e3, _, f⟩ := f
    rw [sj] at e3; cases e3
    cases f
    exact .inr fo
end
end Pd

/-! Pe: sorted(d.items()). -/
namespace Pd
open PySem PySem.Spec PyProof.Rows L2
def tupD (p : Key × D) : D := .tuple [dKey p.1, p.2]
section
variable {X : Cx}
/-- d.items(), a view -/
def rItemsK : V → List V → Hp → VK → Prop := fun x xs H Q => ∃ (a : Addr) (kvs : List (Key × V)), x = .ref a ∧ xs = [] ∧ Rd H a (.dK kvs) ∧ ∀ p, H p = none → Q (.ref p) (upd H p (DX.itemsO p a))
theorem mt_itemsK : MtR X "dict.items" rItemsK := by
  intro pins s σ H x xs v us Q I rx rxs h
  obtain ⟨a, kvs, rfl, rfl, ha, q⟩ := h
  cases rx
  cases rxs
  obtain ⟨z, hd, vs, rel, dof⟩ := dk_rd I.hok ha
  obtain ⟨ep, dat⟩ := dof.dictAt
  obtain ⟨o, es, ho, hx, hdat, _⟩ := dat
  refine DT.callItems (es := es) (ep := ep) hd ⟨o, ho, hx, hdat⟩ ?_
  have hf : H s.heap.objs.size = none := I.hok.fresh (Nat.le_refl _)
  exact ⟨.ref s.heap.objs.size, upd H s.heap.objs.size (DX.itemsO s.heap.objs.size a), I.laid (t' := s.toks) (fun b u e => Heap.get?_push_of_some _ e) (Nat.le_refl _) (DX.itemsO_ok (Heap.get?_push_size _ rfl)), rfl, q _ hf⟩
def rSortK (K : PySem.W.Frag) : List V → Hp → VK → Prop := fun vs H Q => ∃ (p a : Addr) (kvs : List (Key × V)) (xs : List (Key × D)), vs = [.ref p] ∧ H p = some (DX.itemsO p a) ∧ Rd H a (.dK kvs) ∧ kvs.map (·.1) = xs.map (·.1) ∧ DpAll K H (kvs.map (·.2)) (xs.map (·.2)) ∧
  PySem.W.AllAlike (xs.map tupD) ∧ PySem.W.Sortable (xs.map tupD) ∧ (∀ x ∈ xs, (tupD x).depth ≤ 60) ∧
  ∀ (H' : Hp) (l : Addr) (zs : List (Addr × Nat)), (∀ b o, H b = some o → H' b = some o) → H l = none → (∀ z ∈ zs, H z.1 = none ∧ z.1 ≠ l) → H' l = some (.lst (zs.map fun z => V.ref z.1)) →
    (∀ z ∈ zs, ∃ e x, kvs[z.2]? = some e ∧ xs[z.2]? = some x ∧ H' z.1 = some (.tup [kV e.1, e.2])) → (zs.map fun z => tupD (xs.getD z.2 (.inl 0, .none))) = (xs.map tupD).mergeSort (PySem.W.dataLe false id) → Q (.ref l) H'
theorem reads_key {h : Heap} {P : Program} {w : World} {k : Key} {u : Value} (e : (mixKind P w).is k u = true) : Reads h u (dKey k) [] := by
  rcases keyIs_shape (show keyIs k u = true from e) with ⟨i, t, rfl, rfl⟩ | ⟨x, t, rfl, rfl⟩
  · exact Reads.int i t
  · exact Reads.str x t
theorem cr_sortK (hc : X.calm = true) (hu : X.A.units + 65 < cLine) : CallR X (.builtin "sorted") (rSortK X.K) := by
  intro pins s σ H ys us Q I r h
  obtain ⟨p, a, kvs, xs, rfl, hp, ha, hk, hd, hal, hso, hdep, q⟩ := h
  obtain rfl := Vals.ref1 r
  have view : s.heap.IsItemsView p a := (show ObjOk X.prog X.w H s.heap p (DX.itemsO p a) from I.hok p _ hp).1
  obtain ⟨hz, hsys, vs, rel, dof⟩ := dk_rd I.hok ha
  obtain ⟨ep, dat⟩ := dof.dictAt
  obtain ⟨ob, es, ho, hex, hdat, hko, hpr, hnd⟩ := id dat
  have l0 : kvs.length = xs.length := by have := congrArg List.length hk; rwa [List.length_map, List.length_map] at this
  have l1 : kvs.length = vs.length := KV.length rel
  have l2 : es.size = vs.length := by rw [← Array.length_toList]; exact hpr.length
  have hh : X.A.handled = none := I.ok.hd hc
  refine DT.sortedI (es := es) (ep := ep) hh view ⟨ob, ho, hex, hdat⟩ (by omega) fun h' tk as hkp hlt hl hG => ?_
  have lak : as.length = xs.length := by omega
  have nd : as.Nodup := List.Pairwise.imp (fun h => Nat.ne_of_lt h) hG.rise
  -- the pairs that were made
  have pr : ∀ (j : Nat) (b : Addr), as[j]? = some b → ∃ (e : Key × V) (x : Key × D) (key v : Value), kvs[j]? = some e ∧ xs[j]? = some x ∧ e.1 = x.1 ∧ Dp X.K H e.2 x.2 ∧ (mixKind X.prog X.w).is e.1 key = true ∧ RelV e.2 v ∧ h'.get? b = some { cls := .type "tuple", data := .seq #[key, v] } := by
    intro j b hj
    obtain ⟨en, he, hg⟩ := hG.pairs j b hj
    have hjl : j < as.length := (List.getElem?_eq_some_iff.mp hj).1
    have hjv : j < vs.length := by omega
    have hjk : j < kvs.length := by omega
    have hjx : j < xs.length := by omega
    obtain ⟨h1, h2⟩ := Pairs.get? hpr (i := j) (e := en) (k := vs[j].1) (v := vs[j].2) (by rw [Array.getElem?_toList]; exact he) (List.getElem?_eq_getElem hjv)
    obtain ⟨y, g1, g2⟩ := kv_get rel (i := j) (k := kvs[j].1) (v := kvs[j].2) (List.getElem?_eq_getElem hjk)
    rw [List.getElem?_eq_getElem hjv] at g1
    have g1 : vs[j] = (kvs[j].1, y) := Option.some.inj g1
    rw [g1] at h1 h2
    have ek : kvs[j].1 = xs[j].1 := by
      have e1 : (kvs.map (·.1))[j]? = (xs.map (·.1))[j]? := by rw [hk]
      rw [List.getElem?_map, List.getElem?_map, List.getElem?_eq_getElem hjk, List.getElem?_eq_getElem hjx] at e1
      exact Option.some.inj e1
    have dp : ∀ {l : List V} {m : List D} {j : Nat} {v : V} {d : D}, DpAll X.K H l m → l[j]? = some v → m[j]? = some d → Dp X.K H v d := fun {l m j v d} hh => by
      induction l generalizing m j with
      | nil => intro h; simp at h
      | cons u l ih =>
        intro h1 h2
        cases hh with
        | cons a b =>
          cases j with
          | zero => simp at h1 h2; subst h1; subst h2; exact a
          | succ j => exact ih b (by simpa using h1) (by simpa using h2)
    refine ⟨kvs[j], xs[j], en.key, en.val, List.getElem?_eq_getElem hjk, List.getElem?_eq_getElem hjx, ek, dp hd (j := j) (by rw [List.getElem?_map, List.getElem?_eq_getElem hjk]; rfl) (by rw [List.getElem?_map, List.getElem?_eq_getElem hjx]; rfl), h1, ?_, hg⟩
    rw [h2]
    exact g2
  -- the heap of the sort
  have hob : (h'.push { cls := .type "list", data := .seq (as.map Value.ref).toArray }).get? h'.objs.size = some (seqObj "list" (as.map Value.ref).toArray 0) := Heap.get?_push_size _ rfl
  have kb : ∀ b o, s.heap.get? b = some o → (h'.push { cls := .type "list", data := .seq (as.map Value.ref).toArray }).get? b = some o := fun b o e => Heap.get?_push_of_some _ (hkp b o e)
  have ne0 : ∀ b o, h'.get? b = some o → b ≠ h'.objs.size := fun b o e => Nat.ne_of_lt (Heap.lt_size e)
  have ka : ∀ b o, h'.get? b = some o → (h'.push { cls := .type "list", data := .seq (as.map Value.ref).toArray }).get? b = some o := fun b o e => Heap.get?_push_of_some _ e
  generalize hh2 : h'.push { cls := .type "list", data := .seq (as.map Value.ref).toArray } = h2 at hob kb ka ⊢
  let bs : List (Addr × Nat) := as.zip (List.range as.length)
  have ml : (List.range as.length).length = as.length := List.length_range
  have m1 : bs.map (·.1) = as := List.map_fst_zip (by omega)
  let enc : Addr × Nat → D := fun z => tupD (xs.getD z.2 (.inl 0, .none))
  have idx : ∀ z ∈ bs, as[z.2]? = some z.1 := fun z hz' => by
    obtain ⟨j, hj⟩ := List.mem_iff_getElem?.mp hz'
    obtain ⟨j1, j2⟩ := List.getElem?_zip_eq_some.mp hj
    have : z.2 = j := by
      have hjl : j < as.length := (List.getElem?_eq_some_iff.mp j1).1
      rw [List.getElem?_range hjl] at j2
      exact (Option.some.inj j2).symm
    rw [this]; exact j1
  have encs : bs.map enc = xs.map tupD := by
    apply List.ext_getElem?
    intro j
    rw [List.getElem?_map, List.getElem?_map]
    by_cases hj : j < as.length
    · have e1 : bs[j]? = some (as[j], j) := List.getElem?_zip_eq_some.mpr ⟨List.getElem?_eq_getElem hj, List.getElem?_range hj⟩
      have hjx : j < xs.length := by omega
      rw [e1, List.getElem?_eq_getElem hjx]
      show some (tupD (xs.getD j _)) = some (tupD xs[j])
      rw [List.getD_eq_getElem?_getD, List.getElem?_eq_getElem hjx]; rfl
    · rw [List.getElem?_eq_none (by rw [List.length_zip, ml]; omega), List.getElem?_eq_none (by omega)]
      rfl
  have rds : ∀ z ∈ bs, ∃ as', Reads h2 (.ref z.1) (enc z) as' ∧ h'.objs.size ∉ as' := fun z hz' => by
    obtain ⟨e, x, key, v, q1, q2, q3, q4, q5, q6, q7⟩ := pr z.2 z.1 (idx z hz')
    obtain ⟨rs, rd⟩ := Dp.reads I x.2 e.2 v q4 q6
    have ee : enc z = .tuple [dKey x.1, x.2] := by
      show tupD (xs.getD z.2 _) = _
      rw [List.getD_eq_getElem?_getD, q2]; rfl
    rw [ee]
    rw [q3] at q5
    refine ⟨[] ++ (rs ++ []), Reads.tuple (ka _ _ q7) rfl rfl (.cons (reads_key q5) (.cons (PyProof.Rows.Reads.keeps kb rd) .nil)), fun hm => ?_⟩
    rw [List.nil_append, List.append_nil] at hm
    obtain ⟨o, ho'⟩ := PyProof.On.reads_mem_get rd _ hm
    exact Nat.lt_irrefl _ (Nat.lt_trans (Nat.lt_of_lt_of_le (Heap.lt_size ho') (Nat.le_refl _)) hlt)
  have eachR : PySem.W.EachIs (fun (v : Value) (b : Addr × Nat) => v = .ref b.1) (as.map Value.ref) bs := by
    have : ∀ (l : List (Addr × Nat)), PySem.W.EachIs (fun (v : Value) (b : Addr × Nat) => v = .ref b.1) ((l.map (·.1)).map Value.ref) l := fun l => by
      induction l with
      | nil => exact .nil
      | cons z l ih => exact .cons rfl ih
    have := this bs
    rw [m1] at this
    exact this
  have eachD : PySem.W.EachIs (fun (v : Value) (b : Addr × Nat) => ∃ as', Reads h2 v (enc b) as' ∧ h'.objs.size ∉ as') (as.map Value.ref) bs := by
    have key : ∀ {l : List (Addr × Nat)} {vs : List Value}, PySem.W.EachIs (fun (v : Value) (b : Addr × Nat) => v = .ref b.1) vs l → (∀ z ∈ l, ∃ as', Reads h2 (.ref z.1) (enc z) as' ∧ h'.objs.size ∉ as') → PySem.W.EachIs (fun (v : Value) (b : Addr × Nat) => ∃ as', Reads h2 v (enc b) as' ∧ h'.objs.size ∉ as') vs l := fun {l vs} h => by
      induction h with
      | nil => exact fun _ => .nil
      | cons r _ ih => intro hz'; exact .cons (by rw [r]; exact hz' _ (List.mem_cons_self ..)) (ih fun z hm => hz' z (List.mem_cons_of_mem _ hm))
    exact key eachR rds
  have hbl : bs.length = as.length := by rw [← m1, List.length_map]
  refine PySem.W.list_sort_data (s := { s with heap := h2, toks := tk }) (a := h'.objs.size) (vs := as.map Value.ref) (bs := bs) (enc := enc) (R := fun v b => v = .ref b.1) hob eachR eachD (by rw [encs]; exact hal) (by rw [encs]; exact hso) (by omega) (fun b hb => ?_) fun out ho' eo => ?_
  · have : (enc b).depth ≤ 60 := by
      have : enc b ∈ xs.map tupD := by rw [← encs]; exact List.mem_map.mpr ⟨b, hb, rfl⟩
      obtain ⟨x, hx, e⟩ := List.mem_map.mp this
      rw [← e]; exact hdep x hx
    show X.A.units + 1 + 1 + _ < _
    omega
  · let zs := bs.mergeSort (PySem.W.dataLe false enc)
    have hpz : zs.Perm bs := List.mergeSort_perm _ _
    have hout : out = zs.map fun z => Value.ref z.1 := by
      have : ∀ {l : List (Addr × Nat)} {vs : List Value}, PySem.W.EachIs (fun (v : Value) (b : Addr × Nat) => v = .ref b.1) vs l → vs = l.map fun z => Value.ref z.1 := fun {l vs} h => by
        induction h with
        | nil => rfl
        | cons r _ ih => rw [r, ih]; rfl
      exact this eo
    have hlz : zs.length = as.length := by rw [hpz.length_eq, hbl]
    have kF : ∀ b o, b ≠ h'.objs.size → h2.get? b = some o → (sortedHeap h2 h'.objs.size (as.map Value.ref) (List.toArray out)).get? b = some o := fun b o hb e => (PyProof.Rows.sortedHeap_old hb (Heap.lt_size e)).trans e
    have kS : ∀ b o, s.heap.get? b = some o → (sortedHeap h2 h'.objs.size (as.map Value.ref) (List.toArray out)).get? b = some o := fun b o e => kF b o (ne0 _ _ (hkp b o e)) (kb b o e)
    obtain ⟨eF, heF⟩ := PyProof.Rows.sortedHeap_at (vs := as.map Value.ref) (out := List.toArray out) hob
    show EP X pins σ Q (.ref h'.objs.size) { s with heap := sortedHeap h2 h'.objs.size (as.map Value.ref) (List.toArray out), toks := tk }
    have I1 : Inv X pins σ H { s with heap := sortedHeap h2 h'.objs.size (as.map Value.ref) (List.toArray out), toks := tk } := I.kept (t' := tk) kS
    have hn0 : H h'.objs.size = none := I.hok.fresh (Nat.le_of_lt hlt)
    have hlen : (zs.map fun z => V.ref z.1).length ≤ sizeLine := by rw [List.length_map]; omega
    have rv : Vals (zs.map fun z => V.ref z.1) (List.toArray out).toList := by
      rw [hout]
      have : ∀ l : List (Addr × Nat), Vals (l.map fun z => V.ref z.1) (l.map fun z => Value.ref z.1) := fun l => by
        induction l with
        | nil => exact .nil
        | cons z l ih => exact .cons rfl ih
      exact this zs
    have I2 : Inv X pins σ (upd H h'.objs.size (.lst (zs.map fun z => V.ref z.1))) { s with heap := sortedHeap h2 h'.objs.size (as.map Value.ref) (List.toArray out), toks := tk } :=
      I1.take (h' := sortedHeap h2 h'.objs.size (as.map Value.ref) (List.toArray out)) (t' := tk) (fun b ob _ e => e) (I.fpOk (Nat.le_of_lt hlt) hn0) ⟨hlen, (List.toArray out).toList, eF, rv, heF⟩
    obtain ⟨H2, I3, g, qt⟩ := DX.takeT (P := fun b ws => ∃ (j : Nat) (e : Key × V) (x : Key × D), as[j]? = some b ∧ kvs[j]? = some e ∧ xs[j]? = some x ∧ ws = [kV e.1, e.2]) I as _ I2 nd fun b hb => by
      obtain ⟨j, hj⟩ := List.mem_iff_getElem?.mp hb
      obtain ⟨e, x, key, v, q1, q2, q3, q4, q5, q6, q7⟩ := pr j b hj
      have hbl : s.heap.objs.size ≤ b := Nat.le_of_lt (hG.above b hb)
      refine ⟨hbl, ?_, [kV e.1, e.2], ⟨j, e, x, hj, q1, q2, rfl⟩, fun H3 => ⟨(by show 2 ≤ sizeLine; decide), [key, v], .cons (relV_key (show keyIs e.1 key = true from q5)) (.cons q6 .nil), ⟨_, kF _ _ (ne0 _ _ q7) (ka _ _ q7), rfl, 0, rfl⟩⟩⟩
      rw [upd_ne (ne0 _ _ q7)]
      exact I.hok.fresh hbl
    have gr : ∀ b o, H b = some o → H2 b = some o := fun b o e => g b o (by rw [upd_ne (ne_of_none e hn0)]; exact e)
    have zin : ∀ z ∈ zs, as[z.2]? = some z.1 := fun z hz' => idx z (hpz.mem_iff.mp hz')
    refine ⟨.ref h'.objs.size, H2, I3, rfl, q H2 h'.objs.size zs gr hn0 (fun z hz' => ?_) (g _ _ upd_same) (fun z hz' => ?_) ?_⟩
    · have hb := List.mem_of_getElem? (zin z hz')
      obtain ⟨e, x, key, v, q1, q2, q3, q4, q5, q6, q7⟩ := pr z.2 z.1 (zin z hz')
      exact ⟨I.hok.fresh (Nat.le_of_lt (hG.above z.1 hb)), ne0 _ _ q7⟩
    · obtain ⟨ws, ⟨j, e, x, j1, j2, j3, ev⟩, hH⟩ := qt z.1 (List.mem_of_getElem? (zin z hz'))
      have eij : z.2 = j := (List.getElem?_inj (List.getElem?_eq_some_iff.mp (zin z hz')).1 nd).mp ((zin z hz').trans j1.symm)
      rw [eij, j2, j3]
      exact ⟨e, x, rfl, rfl, by rw [hH, ev]⟩
    · have := List.map_mergeSort (r := PySem.W.dataLe false enc) (s := PySem.W.dataLe false (id : D → D)) (f := enc) (l := bs) fun _ _ _ _ => rfl
      rw [encs] at this
      exact this
end
end Pd

/-! Pe: sorted(d.items()) of a locked dict; lists of dicts of one's own. -/
namespace Pd
open PySem PySem.Spec L2
section
variable {G : Type} {X : Cx} {S : Gs G} {a b c e : Expr} {es : List Expr} {pos : Pos} {ma mb me : ME G} {mt mu : MT G} {ml : ML G} {tg iter : Expr} {st : Stmt}
variable {K : PySem.W.Frag} {w : Wd} {env env' : Env} {g g' : G} {σ : St} {H H' I' : Hp}
/-! ### sorted(d.items()) -/
theorem pe_itemsK {te : TE} {apos cpos : Pos} (he : PE X e te) (hbase : attributeBase e "items" X.env (eval e X.env) = eval e X.env := by rfl) (hline : (apos.endLine == cpos.line) = true := by rfl) :
    PE X (.Call (.Attribute e "items" apos) [] [] cpos) (fun σ H Q => te σ H fun x H1 => rItemsK x [] H1 Q) := by
  refine ⟨fun pins s σ H Q I hq => ?_⟩
  refine wpAny_Call_method (T := "dict") (id := "dict.items") hbase rfl hline F.plainAttrs_dict F.slot_dict_items F.type_dict_items (thn (he.run pins s σ H _ I hq) fun u s1 ⟨x, H1, I1, rx, d, kvs, ex, _, hd, q⟩ => ?_)
  subst ex
  obtain rfl : u = Value.ref d := rx
  obtain ⟨hz, hs0, vs, kv, hdo⟩ := dk_rd I1.hok hd
  obtain ⟨ep, hat⟩ := hdo.dictAt
  refine ⟨hdo.typeIs, hdo.mapOf.noDict, ?_⟩
  show wpAny _ _ (callWith cpos (.builtin "dict.items") [.ref d] [] []) _ X.xe s1
  refine method_meetsIn F.slot_dict_items F.entry_dict_items rfl (PySem.evalArgs_none ⟨rfl, hdo.typeIs, F.args_dict_items_1 _, _, meets_dict_items (mixKind X.prog X.w) d hs0, ⟨vs, hdo⟩, ?_⟩)
  exact ⟨.ref s1.heap.objs.size, upd H1 s1.heap.objs.size (DX.itemsO s1.heap.objs.size d), I1.laid (t' := s1.toks) (fun b u e => Heap.get?_push_of_some _ e) (Nat.le_refl _) (DX.itemsO_ok (Heap.get?_push_size _ rfl)), rfl, q _ (I1.hok.fresh (Nat.le_refl _))⟩
def dSortItems (kvs : List (Key × D)) : Option (List D) := if alikeB (kvs.map tupD) = true ∧ (((kvs.map tupD).all isTupNe) = true ∨ ((kvs.map tupD).all notTup) = true) ∧ ((kvs.map tupD).all fun d => decide (d.depth ≤ 60)) = true ∧ (intK kvs).isSome = true then some ((kvs.map tupD).mergeSort (PySem.W.dataLe false id)) else none
def ptI (I H' : Hp) (L : List Addr) : Hp := fun b => if b ∈ L then H' b else I b
theorem df_sortItems {x y : Str} {p yp apos cpos : Pos} (j : Nat) (hc : X.calm = true) (hu : X.A.units + 65 < cLine) (hg : Gl X x) (hm : X.mg x = none) (hv : bootBuiltins x = some (.builtin "sorted"))
    (hN : X.N[j]? = some y := by rfl) (hvy : Vis X.env.scope y := by first | exact Or.inl rfl | exact Or.inr (Or.inl rfl) | exact Or.inr (Or.inr rfl)) (hd : (y == ("__debug__" : Str)) = false := by decide) (hcd : (y == ("__classdict__" : Str)) = false := by decide)
    (hbase : attributeBase (.Name y yp) "items" X.env (eval (.Name y yp) X.env) = eval (.Name y yp) X.env := by rfl) (hline : (apos.endLine == cpos.line) = true := by rfl)
    (hn : x ≠ "__name__" := by decide) (hdb : (x == ("__debug__" : Str)) = false := by decide)
    (he : starEach [.Call (.Attribute (.Name y yp) "items" apos) [] [] cpos] X.env = (false, eval (.Call (.Attribute (.Name y yp) "items" apos) [] [] cpos) X.env) :: starEach [] X.env := by rfl) (hpl : (backTo pos (starEach [] X.env)).any (·.1) = false := by rfl) :
    DF X S (.Call (.Name x p) [.Call (.Attribute (.Name y yp) "items" apos) [] [] cpos] [] pos) (mFzF dSortItems j) :=
  PE.imp (pe_callB (cr_sortK hc hu) hg hm hv (pa_cons (pe_itemsK (pe_var hN hvy hd hcd) hbase hline) pa_nil he) hn hdb he hpl) fun σ H Q ⟨w, env, g, d, g', R, e, k⟩ => by
    unfold mFzF at e
    split at e
    case h_2 => cases e
    rename_i kvs ej
    obtain ⟨e3, rfl⟩ := map_some e
    unfold dSortItems at e3
    split at e3
    case isFalse => cases e3
    rename_i hcnd
    cases e3
    obtain ⟨a, vs, o, sj, hi, ha, hk, ra, hz⟩ := R.fzA ej
    refine ⟨_, sj, a, vs, rfl, rfl, .inr ⟨o, ha⟩, fun q h0 => ?_⟩
    have nq : ∀ b, H b ≠ none → upd H q (DX.itemsO q a) b = H b := fun b hb => upd_ne fun z => hb (z ▸ h0)
    have sq : Same H (upd H q (DX.itemsO q a)) := same_new h0
    have hl : vs.length = kvs.length := by have := congrArg List.length hk; rwa [List.length_map, List.length_map] at this
    refine ⟨q, a, vs, kvs, rfl, upd_same, .inr ⟨o, sq _ _ ha⟩, hk, ((ra.mono R.eI).mono sq).dpAll, alikeB_of hcnd.1, sortable_of hcnd.2.1, fun x hx => of_decide_eq_true (List.all_eq_true.mp hcnd.2.2.1 (tupD x) (List.mem_map.mpr ⟨x, hx, rfl⟩)), fun H' l zs hext hl0 hnew hlst htup hord => ?_⟩
    have sH : Same H H' := sq.trans hext
    have hnH : ∀ z ∈ zs, H z.1 = none := fun z hz' => by
      have := (hnew z hz').1
      cases e : H z.1 with
      | none => rfl
      | some u => rw [sq _ _ e] at this; cases this
    have nI : ∀ b ∈ zs.map (·.1), w.I b = none := fun b hb => by
      obtain ⟨z, hz', rfl⟩ := List.mem_map.mp hb
      exact R.eI.free (hnH z hz')
    let I2 := ptI w.I H' (zs.map (·.1))
    have sI : Same w.I I2 := fun b u q => by
      show (if b ∈ zs.map (·.1) then H' b else w.I b) = some u
      rw [if_neg fun z => by rw [nI b z] at q; cases q]; exact q
    have ps : Pst w.I H I2 H' := ⟨sI, sH, fun b u q => by
      have q : (if b ∈ zs.map (·.1) then H' b else w.I b) = some u := q
      split at q
      · exact q
      · exact sH _ _ (R.eI _ _ q), fun b hb => by
      show (if b ∈ zs.map (·.1) then H' b else w.I b) = w.I b
      rw [if_neg fun z => by
        obtain ⟨y, hy, rfl⟩ := List.mem_map.mp z
        exact hb (hnH y hy)]⟩
    have hlH : H l = none := by
      cases e : H l with
      | none => rfl
      | some u => rw [sq _ _ e] at hl0; cases hl0
    have hlI : I2 l = none := by
      show (if l ∈ zs.map (·.1) then H' l else w.I l) = none
      rw [if_neg fun z => by
        obtain ⟨y, hy, e⟩ := List.mem_map.mp z
        exact (hnew y hy).2 e]
      exact R.eI.free hlH
    have hints := hcnd.2.2.2
    have items : RpA X.K I2 (zs.map fun z => V.ref z.1) (zs.map fun z => tupD (kvs.getD z.2 (.inl 0, .none))) := by
      have key : ∀ l : List (Addr × Nat), (∀ z ∈ l, z ∈ zs) → RpA X.K I2 (l.map fun z => V.ref z.1) (l.map fun z => tupD (kvs.getD z.2 (.inl 0, .none))) := fun l => by
        induction l with
        | nil => exact fun _ => .nil
        | cons z l ih =>
          intro hsub
          refine .cons ?_ (ih fun y hy => hsub y (List.mem_cons_of_mem _ hy))
          have hz' := hsub z (List.mem_cons_self ..)
          obtain ⟨e, x, e1, e2, e3⟩ := htup z hz'
          have gd : kvs.getD z.2 (.inl 0, .none) = x := by rw [List.getD_eq_getElem?_getD, e2]; rfl
          show Rp X.K I2 (V.ref z.1) (tupD (kvs.getD z.2 (.inl 0, .none)))
          rw [gd]
          have hx : e.1 = x.1 := by
            have : (vs.map (·.1))[z.2]? = (kvs.map (·.1))[z.2]? := by rw [hk]
            rw [List.getElem?_map, List.getElem?_map, e1, e2] at this
            exact Option.some.inj this
          obtain ⟨v, e4, rv⟩ := ra.get (i := z.2) (d := x.2) (by rw [List.getElem?_map, e2]; rfl)
          have ev : v = e.2 := by
            rw [List.getElem?_map, e1] at e4
            exact (Option.some.inj e4).symm
          rw [ev] at rv
          have hti : I2 z.1 = some (.tup [kV e.1, e.2]) := by
            show (if z.1 ∈ zs.map (·.1) then H' z.1 else w.I z.1) = _
            rw [if_pos (List.mem_map.mpr ⟨z, hz', rfl⟩)]
            exact e3
          have kx : Rp X.K I2 (kV e.1) (dKey x.1) := by
            rw [hx]
            obtain ⟨is, hs⟩ := Option.isSome_iff_exists.mp hints
            have hm := intK_map hs
            have hmem : x.1 ∈ kvs.map (·.1) := List.mem_map.mpr ⟨x, List.mem_of_getElem? e2, rfl⟩
            rw [hm] at hmem
            obtain ⟨i, _, e5⟩ := List.mem_map.mp hmem
            rw [← e5]
            exact .int i
          exact .tup (.inl (.inl hti)) (.cons kx (.cons (rv.mono sI) .nil)) (by show 2 ≤ sizeLine; decide)
      exact key zs fun _ h => h
    rw [hord] at items
    have hlen : ((kvs.map tupD).mergeSort (PySem.W.dataLe false id)).length ≤ sizeLine := by rw [(List.mergeSort_perm _ _).length_eq, List.length_map]; exact hz
    exact k l _ I2 H' sI (R.pst ps) (R.nobP hlH ps hlI) hlst items hlen

/-! ### lists of dicts of one's own -/
abbrev LKs := List (Addr × List (Key × V))
def lockH : Hp → LKs → List Obj → Hp
  | H, q :: L, o :: ods => lockH (upd H q.1 (.frz o (.dK q.2))) L ods
  | H, _, _ => H
def rstH : Hp → LKs → Hp
  | H, [] => H
  | H, q :: L => upd (rstH H L) q.1 (.dK q.2)
theorem mem1 {α : Type} {L : List (Addr × α)} {r : Addr × α} {a : Addr} (h : r ∈ L) (e : r.1 = a) : a ∈ L.map (·.1) := e ▸ List.mem_map.mpr ⟨r, h, rfl⟩
theorem lockH_out {b : Addr} : ∀ {L : LKs} {ods : List Obj} {H : Hp}, b ∉ L.map (·.1) → lockH H L ods b = H b
  | [], _, _, _ => by cases ‹List Obj› <;> rfl
  | q :: L, [], _, _ => rfl
  | q :: L, o :: ods, H, h => by
    show lockH (upd H q.1 _) L ods b = H b
    rw [lockH_out fun z => h (List.mem_cons_of_mem _ z), upd_ne fun z => h (by rw [z]; exact List.mem_cons_self ..)]
theorem lockH_in : ∀ {L : LKs} {ods : List Obj} {H : Hp} {k : Nat} {q : Addr × List (Key × V)} {o : Obj}, (L.map (·.1)).Nodup → L[k]? = some q → ods[k]? = some o → lockH H L ods q.1 = some (.frz o (.dK q.2))
  | [], _, _, k, _, _, _, h, _ => by simp at h
  | q :: L, [], _, k, _, _, _, _, h => by simp at h
  | q :: L, o :: ods, H, 0, _, _, n, h1, h2 => by
    simp at h1 h2; subst h1; subst h2
    show lockH (upd H q.1 _) L ods q.1 = _
    rw [lockH_out (List.nodup_cons.mp n).1, upd_same]
  | q :: L, o :: ods, H, k + 1, _, _, n, h1, h2 => by
    rename_i r p
    show lockH (upd H q.1 (.frz o (.dK q.2))) L ods r.1 = _
    exact lockH_in (L := L) (ods := ods) (k := k) (q := r) (o := p) (List.nodup_cons.mp n).2 (by simpa using h1) (by simpa using h2)
theorem rstH_out {b : Addr} : ∀ {L : LKs} {H : Hp}, b ∉ L.map (·.1) → rstH H L b = H b
  | [], _, _ => rfl
  | q :: L, H, h => by
    show upd (rstH H L) q.1 _ b = H b
    rw [upd_ne fun z => h (by rw [z]; exact List.mem_cons_self ..), rstH_out fun z => h (List.mem_cons_of_mem _ z)]
theorem rstH_in : ∀ {L : LKs} {H : Hp} {q : Addr × List (Key × V)}, (L.map (·.1)).Nodup → q ∈ L → rstH H L q.1 = some (.dK q.2)
  | q :: L, H, r, n, h => by
    rcases List.mem_cons.mp h with rfl | h
    · exact upd_same
    · show upd (rstH H L) q.1 _ r.1 = _
      have ne : r.1 ≠ q.1 := fun z => (List.nodup_cons.mp n).1 (mem1 h z)
      rw [upd_ne ne]
      exact rstH_in (List.nodup_cons.mp n).2 h
/-- several dicts locked, one behind the other -/
def tLkN {α : Type} : LKs → (St → Hp → (α → Hp → Prop) → Prop) → St → Hp → (α → Hp → Prop) → Prop
  | [], t => t
  | q :: L, t => fun σ H Q => H q.1 = some (.dK q.2) ∧ ∀ od, tLkN L t σ (upd H q.1 (.frz od (.dK q.2))) fun v H' => H' q.1 = some (.frz od (.dK q.2)) ∧ Q v (upd H' q.1 (.dK q.2))
theorem pe_lkN {t : TE} (h : PE X e t) : ∀ L : LKs, PE X e (tLkN L t)
  | [] => h
  | q :: L => PE.imp (pe_lock (pe_lkN h L)) fun σ H Q ⟨h1, h2⟩ => ⟨q.1, .dK q.2, h1, trivial, h2⟩
theorem pt_lkN {t : TT} (h : PT X e t) : ∀ L : LKs, PT X e (tLkN L t)
  | [] => h
  | q :: L => PT.imp (pt_lock (pt_lkN h L)) fun σ H Q ⟨h1, h2⟩ => ⟨q.1, .dK q.2, h1, trivial, h2⟩
theorem tLkN_of {α : Type} {t : St → Hp → (α → Hp → Prop) → Prop} (mono : ∀ (σ : St) (H : Hp) (Q Q' : α → Hp → Prop), (∀ v H, Q v H → Q' v H) → t σ H Q → t σ H Q') : ∀ {L : LKs} {H : Hp} {Q : α → Hp → Prop}, (L.map (·.1)).Nodup → (∀ q ∈ L, H q.1 = some (.dK q.2)) →
    (∀ ods : List Obj, ods.length = L.length → t σ (lockH H L ods) fun v H' => (∀ (k : Nat) (q : Addr × List (Key × V)) (o : Obj), L[k]? = some q → ods[k]? = some o → H' q.1 = some (.frz o (.dK q.2))) ∧ Q v (rstH H' L)) → tLkN L t σ H Q
  | [], H, Q, _, _, k => mono σ H _ Q (fun v H h => h.2) (k [] rfl)
  | q :: L, H, Q, n, hd, k => by
    refine ⟨hd q (List.mem_cons_self ..), fun od => ?_⟩
    have n2 := List.nodup_cons.mp n
    refine tLkN_of mono (L := L) (H := upd H q.1 (.frz od (.dK q.2))) (Q := fun v H' => H' q.1 = some (.frz od (.dK q.2)) ∧ Q v (upd H' q.1 (.dK q.2))) n2.2 (fun r hr => ?_) fun ods hl => ?_
    · have ne : r.1 ≠ q.1 := fun z => n2.1 (mem1 hr z)
      rw [upd_ne ne]
      exact hd r (List.mem_cons_of_mem _ hr)
    · refine mono σ _ _ _ (fun v H' hh => ?_) (k (od :: ods) (by simp [hl]))
      refine ⟨fun j r o e1 e2 => hh.1 (j + 1) r o (by simpa using e1) (by simpa using e2), ?_, hh.2⟩
      show rstH H' L q.1 = _
      rw [rstH_out n2.1]
      exact hh.1 0 q od rfl rfl
theorem te_mono {m : ME G} {Q Q' : VK} (i : ∀ v H, Q v H → Q' v H) (h : tE K S m σ H Q) : tE K S m σ H Q' := by
  obtain ⟨w, env, g, d, g', R, e, k⟩ := h
  exact ⟨w, env, g, d, g', R, e, fun v I' H' s R' p => i _ _ (k v I' H' s R' p)⟩
theorem tt_mono {m : MT G} {Q Q' : Bool → Hp → Prop} (i : ∀ v H, Q v H → Q' v H) (h : tT K S m σ H Q) : tT K S m σ H Q' := by
  obtain ⟨w, env, g, d, g', R, e, k⟩ := h
  exact ⟨w, env, g, d, g', R, e, fun I' H' s R' => i _ _ (k I' H' s R')⟩
def kssOf : List T1 → Option (List (List (Key × D)))
  | [] => some []
  | .dc kvs :: r => (kssOf r).map (kvs :: ·)
  | _ :: _ => none
theorem kss_map : ∀ {ts : List T1} {kss : List (List (Key × D))}, kssOf ts = some kss → ts = kss.map .dc
  | [], kss, h => by cases h; rfl
  | .dc kvs :: r, kss, h => by
    obtain ⟨js, h1, rfl⟩ := Option.map_eq_some_iff.mp h
    rw [List.map_cons, kss_map h1]
  | .lf _ :: _, _, h => nomatch h
  | .ls _ :: _, _, h => nomatch h
  | .lk _ :: _, _, h => nomatch h
theorem kss_of : ∀ kss : List (List (Key × D)), kssOf (kss.map .dc) = some kss
  | [] => rfl
  | k :: r => by show (kssOf (r.map .dc)).map (k :: ·) = _; rw [kss_of r]; rfl
/-- the dicts of a list -/
theorem dicts_of {I : Hp} {H : Hp} : ∀ {vs : List V} {kss : List (List (Key × D))}, vs.length = kss.length → (∀ (k : Nat) (u : V) (t : T1), vs[k]? = some u → (kss.map T1.dc)[k]? = some t → T1Ok K I H u t) →
    ∃ L : LKs, vs = L.map (fun q => V.ref q.1) ∧ L.length = kss.length ∧ ∀ (k : Nat) (q : Addr × List (Key × V)) (kvs : List (Key × D)), L[k]? = some q → kss[k]? = some kvs → H q.1 = some (.dK q.2) ∧ q.2.map (·.1) = kvs.map (·.1) ∧ RpA K I (q.2.map (·.2)) (kvs.map (·.2)) ∧ kvs.length ≤ sizeLine
  | [], [], _, _ => ⟨[], rfl, rfl, fun k q kvs h => by simp at h⟩
  | [], _ :: _, h, _ => by cases h
  | _ :: _, [], h, _ => by cases h
  | v :: vs, kvs :: kss, hl, h => by
    obtain ⟨a, us, rfl, ha, hk, ra, hz⟩ := h 0 v (.dc kvs) rfl rfl
    obtain ⟨L, rfl, h2, h3⟩ := dicts_of (vs := vs) (kss := kss) (by simpa using hl) fun k u t h1 h2 => h (k + 1) u t (by simpa using h1) (by simpa using h2)
    refine ⟨(a, us) :: L, rfl, by simp [h2], fun k q kv h4 h5 => ?_⟩
    cases k with
    | zero =>
      simp at h4 h5; subst h4; subst h5
      exact ⟨ha, hk, ra, hz⟩
    | succ k => exact h3 k q kv (by simpa using h4) (by simpa using h5)
theorem Rel.freezeL : ∀ {L : LKs} {ods : List Obj} {w : Wd}, Rel K S w env g σ H → ods.length = L.length → (L.map (·.1)).Nodup → (∀ (k : Nat) (q : Addr × List (Key × V)) (o : Obj), L[k]? = some q → ods[k]? = some o → H q.1 = some (.frz o (.dK q.2)) ∧ Nob w env σ H q.1) → Rel K S (w.im (lockH w.I L ods)) env g σ H
  | [], [], w, R, _, _, _ => R
  | [], _ :: _, _, _, h, _, _ => by cases h
  | _ :: _, [], _, _, h, _, _ => by cases h
  | q :: L, o :: ods, w, R, hl, n, h => by
    obtain ⟨h1, h2⟩ := h 0 q o rfl rfl
    have R1 := R.freeze h2 h1
    exact Rel.freezeL (w := w.im (upd w.I q.1 (.frz o (.dK q.2)))) (L := L) (ods := ods) R1 (by simpa using hl) (List.nodup_cons.mp n).2 fun k r p e1 e2 => by
      obtain ⟨h3, h4⟩ := h (k + 1) r p (by simpa using e1) (by simpa using e2)
      have ne : r.1 ≠ q.1 := fun z => (List.nodup_cons.mp n).1 (mem1 (List.mem_of_getElem? e1) z)
      exact ⟨h3, ⟨(upd_ne ne).trans h4.i, h4.h0, h4.f, h4.o⟩⟩
/-- one look at a list of dicts of one's own -/
def mLkL {α : Type} (j : Nat) (m : Env → G → Option (α × G)) : Env → G → Option (α × G) := fun env g => match env.at j with
  | .tr (.ls ts) => match kssOf ts with
    | some kss => if Env.noOw (env.set j (.fl kss)) = true then m (env.set j (.fl kss)) g else none
    | none => none
  | _ => none
def mScal (m : ME G) : ME G := fun env g => bD (m env g) fun d g1 => if scal0 d = true then some (d, g1) else none
theorem Rel.lockL {j : Nat} {kss : List (List (Key × D))} (R : Rel K S w env g σ H) (ej : env.at j = .tr (.ls (kss.map .dc))) (no : Env.noOw (env.set j (.fl kss)) = true) : ∃ L : LKs, (L.map (·.1)).Nodup ∧ (∀ q ∈ L, H q.1 = some (.dK q.2)) ∧ ∀ ods : List Obj, ods.length = L.length →
    ∃ I2, Same w.I I2 ∧ Rel K S (w.im I2) (env.set j (.fl kss)) g σ (lockH H L ods) ∧ ∀ g' H' I3, Same I2 I3 → Rel K S (w.im I3) (env.set j (.fl kss)) g' σ H' → (∀ (k : Nat) (q : Addr × List (Key × V)) (o : Obj), L[k]? = some q → ods[k]? = some o → H' q.1 = some (.frz o (.dK q.2))) ∧ Rel K S w env g' σ (rstH H' L) := by
  have q := R.slot j
  rw [ej] at q
  obtain ⟨v, sj, ⟨p, vs, rfl, hp, hlen, hz, h1, h2⟩, own⟩ := q
  obtain ⟨L, rfl, hL, hd⟩ := dicts_of (I := w.I) (H := H) (vs := vs) (kss := kss) (by rw [hlen, List.length_map]) fun k u t e1 e2 => (h1 k u t e1 e2).1
  have inL : ∀ (k : Nat) (q : Addr × List (Key × V)), L[k]? = some q → ∃ kvs, kss[k]? = some kvs := fun k q e => by
    have : k < kss.length := by rw [← hL]; exact (List.getElem?_eq_some_iff.mp e).1
    exact ⟨kss[k], List.getElem?_eq_getElem this⟩
  have fpL : ∀ q ∈ L, T2.fp H (.ref p) (.ls (kss.map .dc)) q.1 := fun q hq => by
    obtain ⟨k, hk⟩ := List.mem_iff_getElem?.mp hq
    obtain ⟨kvs, e⟩ := inL k q hk
    exact .inr ⟨p, _, k, .ref q.1, .dc kvs, rfl, hp, by rw [List.getElem?_map, hk]; rfl, by rw [List.getElem?_map, e]; rfl, rfl, rfl⟩
  have np : p ∉ L.map (·.1) := fun z => by
    obtain ⟨q, hq, e⟩ := List.mem_map.mp z
    obtain ⟨k, hk⟩ := List.mem_iff_getElem?.mp hq
    obtain ⟨kvs, e2⟩ := inL k q hk
    exact (h1 k (.ref q.1) (.dc kvs) (by rw [List.getElem?_map, hk]; rfl) (by rw [List.getElem?_map, e2]; rfl)).2 ⟨rfl, by rw [e]⟩
  have nd : (L.map (·.1)).Nodup := by
    refine List.pairwise_iff_getElem.mpr fun k l hk0 hl0 hkl e => ?_
    rw [List.length_map] at hk0 hl0
    have hk' : k < L.length := hk0
    have hll : l < L.length := hl0
    rw [List.getElem_map, List.getElem_map] at e
    have e : L[k].1 = L[l].1 := e
    obtain ⟨kv, e1⟩ := inL k L[k] (List.getElem?_eq_getElem hk')
    obtain ⟨lv, e2⟩ := inL l L[l] (List.getElem?_eq_getElem hll)
    exact h2 k l (.ref L[k].1) (.ref L[l].1) (.dc kv) (.dc lv) L[k].1 (by omega) (by rw [List.getElem?_map, List.getElem?_eq_getElem hk']; rfl) (by rw [List.getElem?_map, List.getElem?_eq_getElem hll]; rfl) (by rw [List.getElem?_map, e1]; rfl) (by rw [List.getElem?_map, e2]; rfl) ⟨rfl, rfl⟩ ⟨rfl, by rw [e]⟩
  have hdL : ∀ q ∈ L, H q.1 = some (.dK q.2) := fun q hq => by
    obtain ⟨k, hk⟩ := List.mem_iff_getElem?.mp hq
    obtain ⟨kvs, e⟩ := inL k q hk
    exact (hd k q kvs hk e).1
  refine ⟨L, nd, hdL, fun ods hol => ?_⟩
  have hj := slot_lt R sj
  have fo : ∀ a, T2.fp H (.ref p) (.ls (kss.map .dc)) a → fpt H σ j (env.at j) a := fun a f => by rw [ej]; exact ⟨_, sj, f⟩
  have odk : ∀ (k : Nat) (q : Addr × List (Key × V)), L[k]? = some q → ∃ o, ods[k]? = some o := fun k q e => by
    have : k < ods.length := by rw [hol]; exact (List.getElem?_eq_some_iff.mp e).1
    exact ⟨ods[k], List.getElem?_eq_getElem this⟩
  have lockIn : ∀ {X : Hp} (q : Addr × List (Key × V)), q ∈ L → ∃ k o, L[k]? = some q ∧ ods[k]? = some o ∧ lockH X L ods q.1 = some (.frz o (.dK q.2)) := fun {X} q hq => by
    obtain ⟨k, hk⟩ := List.mem_iff_getElem?.mp hq
    obtain ⟨o, ho⟩ := odk k q hk
    exact ⟨k, o, hk, ho, lockH_in nd hk ho⟩
  -- locked, nobody's
  have R1 : Rel K S w (env.set j .un) g σ (lockH H L ods) := R.write hj (fun b z => by
    by_cases h : b ∈ L.map (·.1)
    · obtain ⟨q, hq, rfl⟩ := List.mem_map.mp h
      exact .inr (fo _ (fpL q hq))
    · exact absurd (lockH_out h) z) (fun b o q z => by
    by_cases h : b ∈ L.map (·.1)
    · obtain ⟨r, hr, rfl⟩ := List.mem_map.mp h
      obtain ⟨k, o', _, _, e⟩ := lockIn (X := H) r hr
      rw [e] at z; cases z
    · rw [lockH_out h, q] at z; cases z) trivial (fun b f => f.elim)
  have nob : ∀ a, T2.fp H (.ref p) (.ls (kss.map .dc)) a → Nob w (env.set j .un) σ (lockH H L ods) a := fun a f => by
    obtain ⟨a1, a2, a3⟩ := own a f
    refine ⟨a1, a2, a3, fun i fi => ?_⟩
    rw [at_set] at fi
    by_cases h : i = j ∧ j < env.length
    · rw [if_pos h] at fi; exact fi
    · rw [if_neg h] at fi
      have hij : i ≠ j := fun z => h ⟨z, hj⟩
      have kp := (R.slot i).keep (σ' := σ) (w' := w) (H' := lockH H L ods) rfl (Same.refl _) rfl fun b fb => by
        obtain ⟨b1, b2, b3, _⟩ := (R.slot i).fr fb
        refine ⟨lockH_out fun z => ?_, b1, b2, b3⟩
        obtain ⟨q, hq, rfl⟩ := List.mem_map.mp z
        exact R.dis i j q.1 hij fb (fo _ (fpL q hq))
      exact R.dis i j a hij ((kp.2 a).mp fi) (fo a f)
  have R2 : Rel K S (w.im (lockH w.I L ods)) (env.set j .un) g σ (lockH H L ods) := R1.freezeL hol nd fun k q o e1 e2 => ⟨lockH_in nd e1 e2, nob q.1 (fpL q (List.mem_of_getElem? e1))⟩
  have np0 := nob p (.inl rfl)
  have hpL : lockH H L ods p = some (.lst (L.map fun q => V.ref q.1)) := (lockH_out np).trans hp
  have R3 := R2.freeze (p := p) ⟨(lockH_out np).trans np0.i, np0.h0, np0.f, np0.o⟩ hpL
  let I2 := upd (lockH w.I L ods) p (.lst (L.map fun q => V.ref q.1))
  have sI : Same w.I I2 := fun b u q => by
    have h1 : b ≠ p := fun z => by rw [z, np0.i] at q; cases q
    have h2 : b ∉ L.map (·.1) := fun z => by
      obtain ⟨r, hr, rfl⟩ := List.mem_map.mp z
      rw [(own r.1 (fpL r hr)).1] at q; cases q
    show upd _ _ _ _ = _
    rw [upd_ne h1, lockH_out h2]; exact q
  have fl : FlOk K I2 (.ref p) kss := ⟨p, L.map fun q => V.ref q.1, rfl, upd_same, by rw [List.length_map, hL], by rw [List.length_map] at hz; exact hz, fun k u kvs e1 e2 => by
    rw [List.getElem?_map] at e1
    obtain ⟨q, hq, rfl⟩ := Option.map_eq_some_iff.mp e1
    obtain ⟨o, ho⟩ := odk k q hq
    obtain ⟨_, d2, d3, d4⟩ := hd k q kvs hq e2
    refine ⟨q.1, q.2, o, rfl, ?_, d2, d3.mono sI, d4⟩
    show upd _ _ _ _ = _
    rw [upd_ne fun z => np (mem1 (List.mem_of_getElem? hq) z)]
    exact lockH_in nd hq ho⟩
  have R4 := R3.know (j := j) (sv := .fl kss) sj ⟨.ref p, sj, fl⟩ fun b f => f
  rw [List.set_set] at R4
  refine ⟨I2, sI, R4, fun g' H' I3 s R5 => ?_⟩
  have facts : ∀ (k : Nat) (q : Addr × List (Key × V)) (o : Obj), L[k]? = some q → ods[k]? = some o → H' q.1 = some (.frz o (.dK q.2)) := fun k q o e1 e2 => by
    refine R5.eI _ _ (s _ _ ?_)
    show upd _ _ _ _ = _
    rw [upd_ne fun z => np (mem1 (List.mem_of_getElem? e1) z)]
    exact lockH_in nd e1 e2
  refine ⟨facts, ?_⟩
  have outL : ∀ {b : Addr} {u : HO}, w.H0 b = some u ∨ w.I b = some u ∨ w.fp b → b ∉ L.map (·.1) := fun {b u} h z => by
    obtain ⟨r, hr, rfl⟩ := List.mem_map.mp z
    obtain ⟨a1, a2, a3⟩ := own r.1 (fpL r hr)
    rcases h with h | h | h
    · rw [a2] at h; cases h
    · rw [a1] at h; cases h
    · exact a3 h
  obtain ⟨s1, s2⟩ := R.keepS (w' := w) (H' := rstH H' L) (Same.refl _) rfl fun i a f => by
    obtain ⟨a1, a2, a3, _⟩ := (R.slot i).fr f
    refine ⟨?_, a1, a2, a3⟩
    by_cases hij : i = j
    · rw [hij, ej] at f
      obtain ⟨u, e1, f⟩ := f
      rw [sj] at e1; cases e1
      rcases f with f | ⟨p', vs', k, u, t, e, hp', hu, ht, f⟩
      · cases f
        rw [rstH_out np, hp]
        exact R5.eI _ _ (s _ _ upd_same)
      · cases e
        rw [hp] at hp'; cases hp'
        rw [List.getElem?_map] at hu
        obtain ⟨q, hq, rfl⟩ := Option.map_eq_some_iff.mp hu
        obtain ⟨_, f⟩ := f
        cases f
        have hm := List.mem_of_getElem? hq
        rw [rstH_in nd hm]
        exact (hdL q hm).symm
    · have n := noOw_at no i
      rw [at_set, if_neg fun z => hij z.1] at n
      exact absurd f (notOw_fpt n)
  exact {
    e0 := fun b u q => by rw [rstH_out (outL (.inl q))]; exact R5.e0 b u q
    eI := fun b u q => by rw [rstH_out (outL (.inr (.inl q)))]; exact R5.eI b u (s b u (sI b u q))
    ag := R.ag
    ge := R.ge
    gfp := R5.gfp
    grt := R5.grt
    gok := S.loc (fun b hb => rstH_out (outL (u := .lst []) (.inr (.inr ((R5.gfp b).mp hb))))) R5.gok
    fI := R.fI
    f0 := R.f0
    len := R.len
    slot := s1
    dis := s2 }
theorem de_lkL (j : Nat) (h : DE X S e ma) : DE X S e (mLkL j (mScal ma)) := by
  have h1 : PE X e (fun σ H Q => ∃ L, tLkN L (tE X.K S ma) σ H Q) := ⟨fun pins s σ H Q I ⟨L, q⟩ => (pe_lkN h L).run pins s σ H Q I q⟩
  refine PE.imp h1 fun σ H Q ⟨w, env, g, d, g', R, e, k⟩ => ?_
  unfold mLkL at e
  split at e
  case h_2 => cases e
  rename_i ts ej
  split at e
  case h_2 => cases e
  rename_i kss ek
  split at e
  case isFalse => cases e
  rename_i no
  rw [kss_map ek] at ej
  obtain ⟨x, g1, e1, e⟩ := bD_some e
  split at e
  case isFalse => cases e
  rename_i sc
  cases e
  obtain ⟨L, nd, hd, kL⟩ := R.lockL ej no
  refine ⟨L, tLkN_of (t := tE X.K S ma) (fun σ H Q Q' i h => te_mono i h) nd hd fun ods hol => ?_⟩
  obtain ⟨I2, sI, R4, back⟩ := kL ods hol
  refine ⟨w.im I2, _, g, d, g', R4, e1, fun v I3 H' s R5 p => ?_⟩
  obtain ⟨b1, b2⟩ := back g' H' I3 s R5
  exact ⟨b1, k v w.I _ (Same.refl _) b2 (scal0_rp p sc)⟩
theorem dt_lkL (j : Nat) (h : DT X S e mt) : DT X S e (mLkL j mt) := by
  have h1 : PT X e (fun σ H Q => ∃ L, tLkN L (tT X.K S mt) σ H Q) := ⟨fun pins s σ H Q I ⟨L, q⟩ => (pt_lkN h L).run pins s σ H Q I q⟩
  refine PT.imp h1 fun σ H Q ⟨w, env, g, d, g', R, e, k⟩ => ?_
  unfold mLkL at e
  split at e
  case h_2 => cases e
  rename_i ts ej
  split at e
  case h_2 => cases e
  rename_i kss ek
  split at e
  case isFalse => cases e
  rename_i no
  rw [kss_map ek] at ej
  obtain ⟨L, nd, hd, kL⟩ := R.lockL ej no
  refine ⟨L, tLkN_of (t := tT X.K S mt) (fun σ H Q Q' i h => tt_mono i h) nd hd fun ods hol => ?_⟩
  obtain ⟨I2, sI, R4, back⟩ := kL ods hol
  refine ⟨w.im I2, _, g, d, g', R4, e, fun I3 H' s R5 => ?_⟩
  obtain ⟨b1, b2⟩ := back g' H' I3 s R5
  exact ⟨b1, k w.I _ (Same.refl _) b2⟩
end
end Pd

/-! Pe: lists of dicts: what they are asked, stores. -/
namespace Pd
open PySem PySem.Spec L2
section
variable {G : Type} {X : Cx} {S : Gs G} {a b c e : Expr} {es : List Expr} {pos : Pos} {ma mb me : ME G} {mt mu : MT G} {ml : ML G} {tg iter : Expr} {st : Stmt}
variable {K : PySem.W.Frag} {w : Wd} {env env' : Env} {g g' : G} {σ : St} {H H' I' : Hp}
theorem Rel.flA {j : Nat} {kss : List (List (Key × D))} (R : Rel K S w env g σ H) (ej : env.at j = .fl kss) : ∃ a us, σ[j]? = some (some (.ref a)) ∧ w.I a = some (.lst us) ∧ H a = some (.lst us) ∧ us.length = kss.length ∧ kss.length ≤ sizeLine ∧ ∀ (k : Nat) (u : V) (kvs : List (Key × D)), us[k]? = some u → kss[k]? = some kvs → FzOk K w.I u kvs := by
  have q := R.slot j
  rw [ej] at q
  obtain ⟨v, sj, a, us, rfl, hi, hl, hz, h⟩ := q
  exact ⟨a, us, sj, hi, R.eI _ _ hi, hl, hz, h⟩
/-! ### an element as an argument -/
def gConsFl (j : Nat) (mi : ME G) (ml : MG G) : MG G := fun env g => bD (mi env g) fun i g1 => match env.at j, i with
  | .fl kss, .int i => match atI kss i with
    | some kvs => bD (ml env g1) fun xs g2 => some (.fz kvs :: xs, g2)
    | none => none
  | _, _ => none
theorem atI_at {α β : Type} {xs : List α} {ys : List β} {i : Int} {y : β} (hl : xs.length = ys.length) (h : atI ys i = some y) : ∃ (k : Nat) (x : α), atI xs i = some x ∧ xs[k]? = some x ∧ ys[k]? = some y := by
  unfold atI at h ⊢
  obtain ⟨k, h1, h2⟩ := Option.bind_eq_some_iff.mp h
  have hk : k < xs.length := by rw [hl]; exact (List.getElem?_eq_some_iff.mp h2).1
  exact ⟨k, xs[k], by rw [hl, h1]; exact List.getElem?_eq_getElem hk, List.getElem?_eq_getElem hk, h2⟩
theorem dg_fl {mg : MG G} {j : Nat} {x : Str} {xp sp : Pos} {i : Expr} {mi : ME G} (hi : DE X S i mi) (hr : DG X S es mg) (hN : X.N[j]? = some x := by rfl) (hv : Vis X.env.scope x := by first | exact Or.inl rfl | exact Or.inr (Or.inl rfl) | exact Or.inr (Or.inr rfl)) (hd : (x == ("__debug__" : Str)) = false := by decide)
    (hcd : (x == ("__classdict__" : Str)) = false := by decide) (hx : PlainIx i := by exact fun _ _ => rfl) (hs : starEach (.Subscript (.Name x xp) i sp :: es) X.env = (false, eval (.Subscript (.Name x xp) i sp) X.env) :: starEach es X.env := by rfl) : DG X S (.Subscript (.Name x xp) i sp :: es) (gConsFl j mi mg) :=
  PA.imp (pa_cons (pe_ix ix_list (pe_var hN hv hd hcd) hi hx) hr hs) fun σ H Q h => by
  obtain ⟨w, env, g, d, g', R, e, k⟩ := h
  obtain ⟨i, g1, e1, e⟩ := bD_some e
  split at e
  case h_2 => cases e
  rename_i kss z ej
  split at e
  case h_2 => cases e
  rename_i kvs ek
  obtain ⟨y, g2, e2, e⟩ := bD_some e
  cases e
  obtain ⟨a, us, sj, _⟩ := R.flA ej
  refine ⟨_, sj, w, env, g, .int z, g1, R, e1, fun v I1 H1 s1 R1 p1 => ?_⟩
  cases p1
  obtain ⟨a', us', sj', hi', ha', hl, hz, hf⟩ := R1.flA ej
  rw [sj] at sj'
  cases sj'
  obtain ⟨n, u, q1, q2, q3⟩ := atI_at hl ek
  exact ⟨a, us', z, u, rfl, rfl, SqL.of ha', q1, w.im I1, env, g1, y, g', R1, e2, fun vs I2 H2 s2 R2 p2 => k _ I2 H2 (s1.trans s2) R2 (.cons ((hf n u kvs q2 q3).mono s2) p2)⟩
/-! ### [.. for d in list of dicts] -/
structure ItOkY (Y : Hp → V → D → Prop) (J : It) (I : Hp) (ds : List D) : Prop where
  go : ∀ i I' H', i < ds.length → Same I I' → Same I' H' → J.go i H'
  yl : ∀ i I' H' x H'' d, ds[i]? = some d → Same I I' → Same I' H' → J.yld i H' x H'' → ∃ I'', Pst I' H' I'' H'' ∧ Y I'' x d
  st : ∀ i I' H', ds.length ≤ i → Same I I' → Same I' H' → J.stop i H'
def tIY {G : Type} (Y : Hp → V → D → Prop) (K : PySem.W.Frag) (S : Gs G) (m : ML G) : TI := fun σ H R => ∃ w env g ds g', Rel K S w env g σ H ∧ m env g = some (ds, g') ∧
  ∀ J I' H', Same w.I I' → Rel K S (w.im I') env g' σ H' → ItOkY Y J I' ds → ds.length ≤ sizeLine → R J H'
def tTgY {G : Type} (Y : Hp → V → D → Prop) (K : PySem.W.Frag) (S : Gs G) (idx : List Nat) (b : MTg G) : TG := fun v σ H Q => ∃ w env g d env' g', Rel K S w env g σ H ∧ Y w.I v d ∧ b d env g = some (env', g') ∧
  ∀ σ' I' H', Same w.I I' → Rel K S (w.im I') env' g' σ' H' → σ'.length = σ.length → (∀ k, k ∉ idx → σ'[k]? = σ[k]?) → Q σ' H'
theorem tf_compY {Y : Hp → V → D → Prop} {idx vs : List Nat} {bt : MTg G} {me : ME G} {Q : VK} (hok : ∀ d env g env' g', bt d env g = some (env', g') → env'.length = env.length ∧ ∀ k, k ∉ idx → env'.at k = env.at k) (hsub : ∀ k ∈ idx, k ∈ vs)
    (h : tF K S (mComp ml vs bt mt me) σ H Q) : tLc (tIY Y K S ml) (tTgY Y K S idx bt) (tT K S mt) (tE K S me) vs σ H Q := by
  obtain ⟨w, env, g, xs, g', R, e, k⟩ := h
  obtain ⟨ds, g1, e1, e⟩ := bD_some e
  split at e
  case isFalse => cases e
  rename_i hown
  have hown : ∀ k ∈ vs, (env.at k).notOw = true := fun k hk => List.all_eq_true.mp hown k hk
  refine ⟨w, env, g, ds, g1, R, e1, fun J I1 H1 s1 R1 ok hz p hp => ?_⟩
  have n0 : w.H0 p = none := R1.e0.free hp
  have nI : w.I0 p = none := by
    have a1 : Same w.I0 I1 := R1.ge
    exact a1.free (R1.eI.free hp)
  -- the word: the list so far at p, the rest of the run
  refine ⟨fun i m H2 => m = ds.length - i ∧ i ≤ ds.length ∧ ∃ I2 g2 acc us as rest, Same I1 I2 ∧ Rel K S (w.im I2) env g2 σ H2 ∧ Nob (w.im I2) env σ H2 p ∧ H2 p = some (.lst us) ∧ RpA K I2 us as ∧ acc = us ∧ as.length ≤ i ∧
    compL bt mt me (env.wipe vs) (ds.drop i) g2 = some (rest, g') ∧ xs = as ++ rest, ⟨ds.length, by omega, Nat.zero_le _, I1, g1, [], [], [], xs, Same.refl _, R1.alloc hp, R1.nob hp, upd_same, .nil, rfl, Nat.le_refl _, e, rfl⟩, ?_⟩
  rintro i m H2 ⟨rfl, hi, I2, g2, acc, us, as, rest, s2, R2, n2, hp2, ra2, rfl, hl2, e2, ex⟩
  by_cases hlt : i < ds.length
  · refine .inr ⟨ok.go i I2 H2 hlt s2 R2.eI, fun H' => i + 1 ≤ ds.length ∧ ∃ I2 g2 acc us as rest, Same I1 I2 ∧ Rel K S (w.im I2) env g2 σ H' ∧ Nob (w.im I2) env σ H' p ∧ H' p = some (.lst us) ∧ RpA K I2 us as ∧ acc = us ∧ as.length ≤ i + 1 ∧
      compL bt mt me (env.wipe vs) (ds.drop (i + 1)) g2 = some (rest, g') ∧ xs = as ++ rest, fun H' ⟨q1, q⟩ => ⟨ds.length - (i + 1), by omega, rfl, q1, q⟩, fun x H' y => ?_⟩
    have hd : ds[i]? = some ds[i] := by simp [hlt]
    obtain ⟨I3, ps, r⟩ := ok.yl i I2 H2 x H' _ hd s2 R2.eI y
    rw [List.drop_eq_getElem_cons hlt] at e2
    unfold compL at e2
    cases eb : bt ds[i] (env.wipe vs) g2 with
    | none => rw [eb] at e2; cases e2
    | some eg =>
      obtain ⟨env3, g3⟩ := eg
      rw [eb] at e2
      dsimp only at e2
      have R3 := R2.pst ps
      have n3 : Nob (w.im I3) env σ H' p := Nob.pst (w := w.im I2) R2 n2 ps ((ps.ag p (by rw [hp2]; simp)).trans n2.i)
      have hp3 : H' p = some (.lst acc) := ps.eH _ _ hp2
      have R4 := (R3.hold n3 hp3).wipe vs
      have hk := hok _ _ _ _ _ eb
      refine ⟨(w.im I3).hold p (.lst acc), env.wipe vs, g2, ds[i], env3, g3, R4, r, eb, fun σ3 I4 H5 s4 R5 l5 f5 => ?_⟩
      have s4 : Same I3 I4 := s4
      have f5' : ∀ k, k ∉ vs → σ3[k]? = (L2.wipe σ vs)[k]? := fun k hk => f5 k fun z => hk (hsub k z)
      refine ⟨wipe_eq l5 f5', ?_⟩
      -- back from the element's state to the frame's
      have back : ∀ I6 H6 g6, Same I3 I6 → Rel K S ((w.im I6).hold p (.lst acc)) env3 g6 σ3 H6 → Rel K S ((w.im I6).hold p (.lst acc)) (env.wipe vs) g6 (L2.wipe σ vs) H6 := fun I6 H6 g6 s6 R6 =>
        R6.re (by rw [wipe_length, ewipe_len]; exact R.len) fun k => by
          by_cases hk' : k ∈ vs
          · exact .inl (ewipe_in hk')
          · exact .inr ⟨(hk.2 k fun z => hk' (hsub k z)).symm, (f5' k hk').symm⟩
      -- behind the element: the list let go
      have next : ∀ I6 H6 g6 (u : List V), Same I3 I6 → Rel K S ((w.im I6).hold p (.lst acc)) env3 g6 σ3 H6 → Rel K S (w.im I6) env g6 σ (upd H6 p (.lst u)) ∧ Nob (w.im I6) env σ (upd H6 p (.lst u)) p ∧ H6 p = some (.lst acc) := fun I6 H6 g6 u s6 R6 => by
        obtain ⟨q1, q2, q3⟩ := (back I6 H6 g6 s6 R6).unhold (w := w.im I6) (u := .lst u) n0 nI
        exact ⟨Rel.join R3 q1 s6 hown, ⟨q2.i, q2.h0, q2.f, fun j f => by
          have nj : j ∉ vs := fun z => notOw_fpt (hown j z) f
          exact q2.o j (by rw [ewipe_out nj]; exact fpt_eq (i := j) (wipe_out nj).symm f)⟩, q3⟩
      cases et : mt env3 g3 with
      | none => rw [et] at e2; cases e2
      | some q =>
        obtain ⟨t, g4⟩ := q
        rw [et] at e2
        refine ⟨(w.im I4).hold p (.lst acc), env3, g3, t, g4, R5, et, fun I6 H6 s6 R6 => ?_⟩
        have s6 : Same I4 I6 := s6
        have s6 : Same I3 I6 := s4.trans s6
        cases t with
        | false =>
          refine iteF ?_
          obtain ⟨q1, q2, q3⟩ := next I6 H6 g4 acc s6 R6
          rw [upd_id q3] at q1 q2
          exact ⟨by omega, I6, g4, acc, acc, as, rest, s2.trans (ps.eI.trans s6), q1, q2, q3, ra2.mono (ps.eI.trans s6), rfl, by omega, e2, ex⟩
        | true =>
          refine iteT ?_
          dsimp only at e2
          cases em : me env3 g4 with
          | none => rw [em] at e2; cases e2
          | some q =>
            obtain ⟨y5, g5⟩ := q
            rw [em] at e2
            dsimp only at e2
            cases ec : compL bt mt me (env.wipe vs) (ds.drop (i + 1)) g5 with
            | none => rw [ec] at e2; cases e2
            | some q =>
              obtain ⟨ys, g7⟩ := q
              rw [ec] at e2
              cases e2
              refine ⟨(w.im I6).hold p (.lst acc), env3, g4, y5, g5, R6, em, fun v I7 H7 s7 R7 p7 => ?_⟩
              have s7 : Same I6 I7 := s7
              obtain ⟨q1, q2, q3⟩ := next I7 H7 g5 (acc ++ [v]) (s6.trans s7) R7
              refine ⟨acc, q3, ?_, by omega, I7, g5, _, _, as ++ [y5], ys, s2.trans (ps.eI.trans (s6.trans s7)), q1, q2, upd_same, (ra2.mono (ps.eI.trans (s6.trans s7))).append (.one p7), rfl, ?_, ec, ?_⟩
              · rw [ra2.len]; omega
              · rw [List.length_append, List.length_singleton]; omega
              · rw [ex, List.append_assoc]; rfl
  · have hi' : i = ds.length := by omega
    subst hi'
    rw [List.drop_length] at e2
    cases e2
    rw [List.append_nil] at ex
    subst ex
    exact .inl ⟨ok.st _ I2 H2 (Nat.le_refl _) s2 R2.eI, k p acc I2 H2 (s1.trans s2) R2 n2 hp2 ra2 (Nat.le_trans hl2 hz)⟩

/-- an element, by its place -/
def FlY (K : PySem.W.Frag) (kss : List (List (Key × D))) : Hp → V → D → Prop := fun I x d => ∃ (k : Nat) (kvs : List (Key × D)), d = .int (k : Int) ∧ kss[k]? = some kvs ∧ FzOk K I x kvs
def mIdxFl (j : Nat) : ML G := fun env g => match env.at j with
  | .fl kss => some (rng 0 kss.length, g)
  | _ => none
def bFl (j i : Nat) : MTg G := fun d env g => match env.at j, d with
  | .fl kss, .int k => (kss[k.toNat]?).map fun kvs => (env.set i (.fz kvs), g)
  | _, _ => none
theorem compL_congr {b b' : MTg G} {env : Env} (h : ∀ d g, b d env g = b' d env g) : ∀ {ds : List D} {g : G}, compL b mt me env ds g = compL b' mt me env ds g
  | [], _ => rfl
  | d :: ds, g => by
    unfold compL
    rw [h]
    cases b' d env g with
    | none => rfl
    | some p =>
      dsimp only
      cases mt p.1 p.2 with
      | none => rfl
      | some q =>
        obtain ⟨t, g2⟩ := q
        cases t with
        | false => exact compL_congr h
        | true =>
          dsimp only
          cases me p.1 g2 with
          | none => rfl
          | some r => dsimp only; rw [compL_congr h]
open Classical in
noncomputable def mIdxK (j : Nat) (kss : List (List (Key × D))) : ML G := fun env g => match env.at j with
  | .fl kss' => if kss' = kss then some (rng 0 kss.length, g) else none
  | _ => none
def bFlK (i : Nat) (kss : List (List (Key × D))) : MTg G := fun d env g => match d with
  | .int k => (kss[k.toNat]?).map fun kvs => (env.set i (.fz kvs), g)
  | _ => none
theorem bFlK_ok {i : Nat} {kss : List (List (Key × D))} : ∀ d env (g : G) env' g', bFlK i kss d env g = some (env', g') → env'.length = env.length ∧ ∀ k, k ∉ [i] → env'.at k = env.at k := fun d env g env' g' e => by
  unfold bFlK at e
  split at e
  · obtain ⟨kvs, _, e⟩ := Option.map_eq_some_iff.mp e
    cases e
    exact ⟨by rw [List.length_set], fun k hk => by rw [at_set, if_neg (fun z => hk (by simp [z.1]))]⟩
  · cases e
theorem pi_fl {j : Nat} {kss : List (List (Key × D))} {x : Str} {xp : Pos} (hN : X.N[j]? = some x := by rfl) (hv : Vis X.env.scope x := by first | exact Or.inl rfl | exact Or.inr (Or.inl rfl) | exact Or.inr (Or.inr rfl)) (hd : (x == ("__debug__" : Str)) = false := by decide)
    (hcd : (x == ("__classdict__" : Str)) = false := by decide) : PI X tg (.Name x xp) (tIY (FlY X.K kss) X.K S (mIdxK j kss)) := PI.imp (pi_list (pe_var hN hv hd hcd)) fun σ H R ⟨w, env, g, ds, g', Re, e, k⟩ => by
  unfold mIdxK at e
  split at e
  case h_2 => cases e
  rename_i kss' ej
  split at e
  case isFalse => cases e
  rename_i heq
  subst heq
  cases e
  obtain ⟨a, us, sj, hi, ha, hl, hz, hf⟩ := Re.flA ej
  refine ⟨_, sj, a, rfl, ⟨us, SqL.of ha⟩, k _ w.I H (Same.refl _) Re ⟨fun n I' H' hn s1 s2 => ?_, fun n I' H' x H'' d hd s1 s2 y => ?_, fun n I' H' hn s1 s2 => ⟨us, SqL.of (s2 _ _ (s1 _ _ hi)), by rw [rng_len] at hn; omega⟩⟩ (by rw [rng_len]; exact hz)⟩
  · rw [rng_len] at hn
    have hu : n < us.length := by omega
    exact ⟨us, us[n], SqL.of (s2 _ _ (s1 _ _ hi)), List.getElem?_eq_getElem hu⟩
  · obtain ⟨e, y⟩ := y
    subst e
    have hx := y us (SqL.of (s2 _ _ (s1 _ _ hi)))
    have hn : n < us.length := (List.getElem?_eq_some_iff.mp hx).1
    have hnk : n < kss'.length := by omega
    rw [rng_get hnk] at hd
    cases hd
    exact ⟨I', Pst.refl s2, n, kss'[n], by rw [Int.zero_add], List.getElem?_eq_getElem hnk, (hf n x _ hx (List.getElem?_eq_getElem hnk)).mono s1⟩
theorem pg_flK {i : Nat} {kss : List (List (Key × D))} {x : Str} (hN : X.N.Nodup) (hi : X.N[i]? = some x) (hx : Loc X.env.scope x) (hf : X.fn x = true ∨ X.env.scope.names.lookup x = some .local := by first | exact .inl rfl | exact .inr rfl | assumption) : PG X (.Name x pos) (tTgY (FlY X.K kss) X.K S [i] (bFlK i kss)) :=
  PG.imp (pg_name hN hi hx hf) fun v σ H Q ⟨w, env, g, d, env', g', R, ⟨n, kvs, hd, hk, ok⟩, e, k⟩ => by
    subst hd
    unfold bFlK at e
    dsimp only at e
    rw [Int.toNat_natCast, hk] at e
    cases e
    exact k _ w.I _ (Same.refl _) (R.put (fun q e _ => ⟨v, e, ok⟩) fun a f => f.elim) (by rw [List.length_set]) fun j hj => by rw [get_set, if_neg (fun z => hj (by simp [z.1]))]
theorem df_compFl (j i : Nat) {x y : Str} {xp yp : Pos} {elt : Expr} {scope : Scope} {own : List (Str × Nat)} (hc : X.calm = true) (hN : X.N.Nodup) (ok : BlkOk X.N X.env.scope scope own) (hsub : i ∈ own.map (·.2)) (hj : j ∉ own.map (·.2))
    (hgi : ∀ (s : Shared) (H : Hp) (C : Addr) (cl : List (Str × Addr)) (fp : List Addr), ((X.blk s H scope (compEnvC scope cl C X.env) fp).N[i]? = some y) ∧ Loc (X.blk s H scope (compEnvC scope cl C X.env) fp).env.scope y ∧ ((X.blk s H scope (compEnvC scope cl C X.env) fp).fn y = true ∨ (X.blk s H scope (compEnvC scope cl C X.env) fp).env.scope.names.lookup y = some .local))
    (he : ∀ (s : Shared) (H : Hp) (C : Addr) (cl : List (Str × Addr)) (fp : List Addr), DE (X.blk s H scope (compEnvC scope cl C X.env) fp) S elt me)
    (hNx : X.N[j]? = some x := by rfl) (hv : Vis X.env.scope x := by first | exact Or.inl rfl | exact Or.inr (Or.inl rfl) | exact Or.inr (Or.inr rfl)) (hd : (x == ("__debug__" : Str)) = false := by decide) (hcd : (x == ("__classdict__" : Str)) = false := by decide)
    (hs : ∀ z, foldedSetIterable (.Name x xp) X.env z = pure z := by intro _; rfl) :
    DF X S (.ListComp elt [⟨.Name y yp, .Name x xp, [], 0⟩] scope pos) (mComp (mIdxFl j) (own.map (·.2)) (bFl j i) mYes me) := by
  have h1 : ∀ kss : List (List (Key × D)), PE X (.ListComp elt [⟨.Name y yp, .Name x xp, [], 0⟩] scope pos) (tLc (tIY (FlY X.K kss) X.K S (mIdxK j kss)) (tTgY (FlY X.K kss) X.K S [i] (bFlK i kss)) (tT X.K S mYes) (tE X.K S me) (own.map (·.2))) := fun kss =>
    pe_lc hc hN (pi_fl hNx hv hd hcd) ok (fun s H C cl fp => pg_flK hN (hgi s H C cl fp).1 (hgi s H C cl fp).2.1 (hgi s H C cl fp).2.2) (fun s H C cl fp => (dts_nil).pt) he hs
  have h2 : PE X (.ListComp elt [⟨.Name y yp, .Name x xp, [], 0⟩] scope pos) (fun σ H Q => ∃ kss, (tLc (tIY (FlY X.K kss) X.K S (mIdxK j kss)) (tTgY (FlY X.K kss) X.K S [i] (bFlK i kss)) (tT X.K S mYes) (tE X.K S me) (own.map (·.2))) σ H Q) := ⟨fun pins s σ H Q I ⟨kss, q⟩ => (h1 kss).run pins s σ H Q I q⟩
  refine PE.imp h2 fun σ H Q ⟨w, env, g, xs, g', R, e, k⟩ => ?_
  obtain ⟨ds, g1, e1, e⟩ := bD_some e
  unfold mIdxFl at e1
  split at e1
  case h_2 => cases e1
  rename_i kss ej
  cases e1
  refine ⟨kss, tf_compY bFlK_ok (fun q hq => by rw [List.mem_singleton.mp hq]; exact hsub) ⟨w, env, g, xs, g', R, ?_, k⟩⟩
  show bD (mIdxK j kss env g) _ = _
  unfold mIdxK
  rw [ej]
  dsimp only
  rw [if_pos rfl]
  dsimp only [bD]
  split at e
  · rename_i ho
    rw [if_pos ho, ← e]
    refine (compL_congr fun d g => ?_).symm
    unfold bFl bFlK
    rw [show (env.wipe (own.map (·.2))).at j = env.at j from ewipe_out hj, ej]
    cases d <;> rfl
  · cases e
end
end Pd

/-! Pe: stores to lists of dicts; lent for a new list of plain values. -/
namespace Pd
open PySem PySem.Spec L2
section
variable {G : Type} {X : Cx} {S : Gs G} {a b c e : Expr} {es : List Expr} {pos : Pos} {ma mb me : ME G} {mt mu : MT G} {ml : ML G} {tg iter : Expr} {st : Stmt}
variable {K : PySem.W.Frag} {w : Wd} {env env' : Env} {g g' : G} {σ : St} {H H' I' : Hp}
/-- x = [], a list of dicts to come -/
def mSetTs (i : Nat) (ml : ML G) : MS G := fun env g => bD (ml env g) fun ds g1 => if ds.isEmpty = true then some (.nx, env.set i (.tr (.ls [])), g1) else none
theorem ds_setTs {i : Nat} {x : Str} {pos' : Pos} (hN : X.N.Nodup) (hi : X.N[i]? = some x) (hx : Loc X.env.scope x) (he : DF X S e ml) (hs : swapsWith e (some (.Name x pos')) pos.line X.env = pure false := by rfl)
    (hf : X.fn x = true ∨ X.env.scope.names.lookup x = some .local := by first | exact .inl rfl | exact .inr rfl | assumption) : DS X S (.Assign [.Name x pos'] e pos) (mSetTs i ml) := PS.imp (ps_set hN hi hx he hs hf) fun D σ H ⟨w, env, g, c, env', g', R, e, k⟩ => by
  obtain ⟨ds, g1, e1, e⟩ := bD_some e
  split at e
  case isFalse => cases e
  rename_i hd
  cases e
  refine ⟨w, env, g, ds, g', R, e1, fun p vs I' H' s' R' n hp ra hz => k _ I' H' s' ?_⟩
  rw [List.isEmpty_iff.mp hd] at ra
  cases ra
  refine R'.putT (w := w.im I') ⟨p, [], rfl, hp, rfl, Nat.zero_le _, fun k u t h => by simp at h, fun k l u u' t t' a _ h => by simp at h⟩ fun a f => ?_
  rcases f with f | ⟨q, us, k, u, t, e, hq, hu, _⟩
  · cases f; exact n
  · cases e; rw [hp] at hq; cases hq; simp at hu
theorem Rel.trL {j : Nat} {ts : List T1} (R : Rel K S w env g σ H) (ej : env.at j = .tr (.ls ts)) : ∃ p vs, σ[j]? = some (some (.ref p)) ∧ H p = some (.lst vs) ∧ vs.length = ts.length ∧ ts.length ≤ sizeLine ∧ (∀ (k : Nat) (u : V) (t : T1), vs[k]? = some u → ts[k]? = some t → T1Ok K w.I H u t ∧ ¬ t.fp u p) ∧
      (∀ (k l : Nat) (u u' : V) (t t' : T1) (a : Addr), k ≠ l → vs[k]? = some u → vs[l]? = some u' → ts[k]? = some t → ts[l]? = some t' → t.fp u a → ¬ t'.fp u' a) ∧ ∀ a, T2.fp H (.ref p) (.ls ts) a → w.I a = none ∧ w.H0 a = none ∧ ¬ w.fp a := by
  have q := R.slot j
  rw [ej] at q
  obtain ⟨v, sj, ⟨p, vs, rfl, hp, hl, hz, h1, h2⟩, own⟩ := q
  exact ⟨p, vs, sj, hp, hl, hz, h1, h2, own⟩
/-- len(x) of a list of dicts -/
def mLenTs (j : Nat) : ME G := fun env g => match env.at j with
  | .tr (.ls ts) => some (.int ts.length, g)
  | _ => none
theorem de_lenTs {y : Str} {p yp : Pos} (j : Nat) (hg : Gl X "len") (hm : X.mg "len" = none) (hv : bootBuiltins "len" = some (.builtin "len"))
    (hN : X.N[j]? = some y := by rfl) (hvy : Vis X.env.scope y := by first | exact Or.inl rfl | exact Or.inr (Or.inl rfl) | exact Or.inr (Or.inr rfl)) (hd : (y == ("__debug__" : Str)) = false := by decide) (hcd : (y == ("__classdict__" : Str)) = false := by decide)
    (he : starEach [.Name y yp] X.env = (false, eval (.Name y yp) X.env) :: starEach [] X.env := by rfl) (hpl : (backTo pos (starEach [] X.env)).any (·.1) = false := by rfl) : DE X S (.Call (.Name "len" p) [.Name y yp] [] pos) (mLenTs j) :=
  PE.imp (pe_callB call_len hg hm hv (pa_cons (pe_var hN hvy hd hcd) pa_nil he) (by decide) (by decide) he hpl) fun σ H Q ⟨w, env, g, d, g', R, e, k⟩ => by
    unfold mLenTs at e
    split at e
    case h_2 => cases e
    rename_i ts ej
    cases e
    obtain ⟨q, vs, sj, hq, hl, hz, _⟩ := R.trL ej
    exact ⟨_, sj, .ref q, ts.length, rfl, .inl ⟨vs, SqL.of hq, hl.symm⟩, k _ w.I H (Same.refl _) R (.int _)⟩
/-- x.append({}) -/
def mAppTs (j : Nat) : MS G := fun env g => match env.at j with
  | .tr (.ls ts) => if ts.length < sizeLine then some (.nx, env.set j (.tr (.ls (ts ++ [.dc []]))), g) else none
  | _ => none
theorem ds_appTs (j : Nat) {x : Str} {xp ap cp p2 : Pos} (hN : X.N[j]? = some x := by rfl) (hv : Vis X.env.scope x := by first | exact Or.inl rfl | exact Or.inr (Or.inl rfl) | exact Or.inr (Or.inr rfl)) (hd : (x == ("__debug__" : Str)) = false := by decide)
    (hcd : (x == ("__classdict__" : Str)) = false := by decide)
    (hbase : attributeBase (.Name x xp) "append" X.env (eval (.Name x xp) X.env) = eval (.Name x xp) X.env := by rfl)
    (hfew : ((backTo cp (starEach [.Dict [] [] p2] X.env)).all (fun x => !x.1) && (backToKw cp (keywordEach [] X.env)).all (fun x => x.1.isSome)
      && decide ([(.Dict [] [] p2 : Expr)].length + ([] : List Keyword).length + (if ([] : List Keyword).isEmpty then 0 else 1) < 30)) = true := by rfl)
    (hline : (ap.endLine == cp.line) = true := by rfl) (hs : starEach [.Dict [] [] p2] X.env = (false, eval (.Dict [] [] p2) X.env) :: starEach [] X.env := by rfl) (hplain : (backTo cp (starEach [] X.env)).any (·.1) = false := by rfl)
    (hsw : swapsWith (.Call (.Attribute (.Name x xp) "append" ap) [.Dict [] [] p2] [] cp) none pos.line X.env = pure false := by rfl) :
    DS X S (.Expr (.Call (.Attribute (.Name x xp) "append" ap) [.Dict [] [] p2] [] cp) pos) (mAppTs j) :=
  PS.imp (ps_expr (pe_bm PySem.F.plainAttrs_list PySem.F.slot_list_append PySem.F.type_list_append mt_append (pe_var hN hv hd hcd) (pa_cons pe_dnewK pa_nil hs) hbase hfew hline hs hplain) hsw) fun D σ H ⟨w, env, g, c, env', g', R, e, k⟩ => by
    unfold mAppTs at e
    split at e
    case h_2 => cases e
    rename_i ts ej
    split at e
    case isFalse => cases e
    rename_i hlt
    cases e
    obtain ⟨p, vs, sj, hp, hl, hz, h1, h2, own⟩ := R.trL ej
    refine ⟨_, sj, .inl ⟨rfl, vs, SqL.of hp⟩, fun q h0 => ?_⟩
    have pq : p ≠ q := fun z => by rw [z, h0] at hp; cases hp
    refine ⟨p, vs, _, rfl, rfl, (upd_ne pq).trans hp, by omega, k σ w.I _ (Same.refl _) ?_⟩
    have ej' : ∀ a, T2.fp H (.ref p) (.ls ts) a → fpt H σ j (env.at j) a := fun a f => by rw [ej]; exact ⟨_, sj, f⟩
    have H2 : ∀ a, a ≠ p → a ≠ q → upd (upd H q (.dK [])) p (.lst (vs ++ [.ref q])) a = H a := fun a z1 z2 => by rw [upd_ne z1, upd_ne z2]
    have fq : upd (upd H q (.dK [])) p (.lst (vs ++ [.ref q])) q = some (.dK []) := by rw [upd_ne (Ne.symm pq), upd_same]
    -- an element, old or new
    have el : ∀ (n : Nat) (u : V) (t : T1), (vs ++ [V.ref q])[n]? = some u → (ts ++ [T1.dc []])[n]? = some t → (n < ts.length ∧ vs[n]? = some u ∧ ts[n]? = some t) ∨ (n = ts.length ∧ u = .ref q ∧ t = .dc []) := fun n u t e1 e2 => by
      by_cases hn : n < ts.length
      · rw [List.getElem?_append_left (by omega)] at e1
        rw [List.getElem?_append_left hn] at e2
        exact .inl ⟨hn, e1, e2⟩
      · rw [List.getElem?_append_right (by omega)] at e1 e2
        have : n - ts.length = 0 := by
          have := (List.getElem?_eq_some_iff.mp e2).1
          simp at this; omega
        rw [hl, this] at e1
        rw [this] at e2
        simp at e1 e2
        exact .inr ⟨by omega, e1.symm, e2.symm⟩
    have oldf : ∀ {n : Nat} {u : V} {t : T1} {a : Addr}, vs[n]? = some u → ts[n]? = some t → t.fp u a → a ≠ p ∧ a ≠ q ∧ T2.fp H (.ref p) (.ls ts) a := fun {n u t a} e1 e2 f => by
      obtain ⟨ok, nf⟩ := h1 n u t e1 e2
      refine ⟨fun z => nf (z ▸ f), fun z => ?_, .inr ⟨p, vs, n, u, t, rfl, hp, e1, e2, f⟩⟩
      have := ok.dom f
      rw [z, h0] at this
      exact this rfl
    refine R.write (slot_lt R sj) (fun a z => ?_) (fun a o e z => ?_) ⟨.ref p, sj, ⟨p, vs ++ [.ref q], rfl, upd_same, by rw [List.length_append, List.length_append, hl]; rfl, by rw [List.length_append]; show _ + 1 ≤ _; omega, fun n u t e1 e2 => ?_, fun n l u u' t t' a nl e1 e2 e3 e4 f f' => ?_⟩, fun a f => ?_⟩ fun a f => ?_
    · by_cases z1 : a = p
      · exact .inr (z1 ▸ ej' p (.inl rfl))
      · by_cases z2 : a = q
        · exact .inl (z2 ▸ h0)
        · exact absurd (H2 a z1 z2) z
    · by_cases z1 : a = p
      · rw [z1, upd_same] at z; cases z
      · by_cases z2 : a = q
        · rw [z2, h0] at e; cases e
        · rw [H2 a z1 z2, e] at z; cases z
    · rcases el n u t e1 e2 with ⟨_, g1, g2⟩ | ⟨_, rfl, rfl⟩
      · refine ⟨(h1 n u t g1 g2).1.mono (Same.refl _) fun a f => ?_, (h1 n u t g1 g2).2⟩
        obtain ⟨a1, a2, _⟩ := oldf g1 g2 f
        exact H2 a a1 a2
      · exact ⟨⟨q, [], rfl, fq, rfl, .nil, Nat.zero_le _⟩, fun ⟨_, z⟩ => by cases z; exact pq rfl⟩
    · rcases el n u t e1 e3 with ⟨_, g1, g2⟩ | ⟨_, rfl, rfl⟩
      · obtain ⟨a1, a2, _⟩ := oldf g1 g2 f
        rcases el l u' t' e2 e4 with ⟨_, g3, g4⟩ | ⟨_, rfl, rfl⟩
        · exact h2 n l u u' t t' a nl g1 g3 g2 g4 f f'
        · obtain ⟨_, z⟩ := f'
          cases z; exact a2 rfl
      · rcases el l u' t' e2 e4 with ⟨_, g3, g4⟩ | ⟨_, rfl, rfl⟩
        · obtain ⟨a1, a2, _⟩ := oldf g3 g4 f'
          obtain ⟨_, z⟩ := f
          cases z; exact a2 rfl
        · omega
    · rcases f with f | ⟨p', vs', n, u, t, e, hp', e1, e2, f⟩
      · cases f; exact own p (.inl rfl)
      · cases e
        rw [upd_same] at hp'; cases hp'
        rcases el n u t e1 e2 with ⟨_, g1, g2⟩ | ⟨_, rfl, rfl⟩
        · exact own a (oldf g1 g2 f).2.2
        · obtain ⟨_, z⟩ := f
          cases z
          exact ⟨R.eI.free h0, R.e0.free h0, fun z => S.dom R.gok ((R.gfp q).mpr z) h0⟩
    · obtain ⟨v, e0, f⟩ := f
      rw [sj] at e0; cases e0
      rcases f with f | ⟨p', vs', n, u, t, e, hp', e1, e2, f⟩
      · cases f; exact .inr (ej' p (.inl rfl))
      · cases e
        rw [upd_same] at hp'; cases hp'
        rcases el n u t e1 e2 with ⟨_, g1, g2⟩ | ⟨_, rfl, rfl⟩
        · exact .inr (ej' a (oldf g1 g2 f).2.2)
        · obtain ⟨_, z⟩ := f
          cases z
          exact .inl h0
/-- x[i][k] = e, k a name -/
def mPutTs (j : Nat) (mi : ME G) (q : Nat) (me : ME G) : MS G := fun env g => bD (me env g) fun d g1 => bD (mi env g1) fun i g2 => match env.at j, i, env.at q with
  | .tr (.ls ts), .int i, .sh ky => match ixN ts.length i, keyD ky with
    | some n, some k => match ts[n]? with
      | some (.dc kvs) => if kvs.length < sizeLine then some (.nx, env.set j (.tr (.ls (ts.set n (.dc (putKD kvs k d))))), g2) else none
      | _ => none
    | _, _ => none
  | _, _, _ => none
theorem ds_putTs (j q : Nat) {x y : Str} {xp ip sp yp : Pos} {i : Expr} {mi : ME G} (hu : X.A.units + 65 < cLine) (hi : DE X S i mi) (he : DE X S e me) (hN : X.N[j]? = some x := by rfl) (hv : Vis X.env.scope x := by first | exact Or.inl rfl | exact Or.inr (Or.inl rfl) | exact Or.inr (Or.inr rfl)) (hd : (x == ("__debug__" : Str)) = false := by decide)
    (hcd : (x == ("__classdict__" : Str)) = false := by decide) (hNy : X.N[q]? = some y := by rfl) (hvy : Vis X.env.scope y := by first | exact Or.inl rfl | exact Or.inr (Or.inl rfl) | exact Or.inr (Or.inr rfl)) (hdy : (y == ("__debug__" : Str)) = false := by decide)
    (hcdy : (y == ("__classdict__" : Str)) = false := by decide) (hx : PlainIx i := by exact fun _ _ => rfl) (hs : swapsWith e (some (.Subscript (.Subscript (.Name x xp) i ip) (.Name y yp) sp)) pos.line X.env = pure false := by rfl) :
    DS X S (.Assign [.Subscript (.Subscript (.Name x xp) i ip) (.Name y yp) sp] e pos) (mPutTs j mi q me) := PS.imp (ps_dput (by omega) (pe_ix ix_list (pe_var hN hv hd hcd) hi hx) (pe_var hNy hvy hdy hcdy) he hs) fun D σ H ⟨w, env, g, c, env', g', R, e, k⟩ => by
  obtain ⟨d, g1, e1, e⟩ := bD_some e
  obtain ⟨i, g2, e2, e⟩ := bD_some e
  split at e
  case h_2 => cases e
  rename_i ts z ky ej eq
  split at e
  case h_2 => cases e
  rename_i n kk en ek
  split at e
  case h_2 => cases e
  rename_i kvs et
  split at e
  case isFalse => cases e
  rename_i hlt
  cases e
  refine ⟨w, env, g, d, g1, R, e1, fun v I1 H1 s1 R1 p1 => ?_⟩
  obtain ⟨p, vs0, sj, _⟩ := R1.trL ej
  refine ⟨_, sj, w.im I1, env, g1, .int z, g', R1, e2, fun y I2 H2 s2 R2 p2 => ?_⟩
  cases p2
  obtain ⟨p', vs, sj2, hp, hl, hz, h1, h2, own⟩ := R2.trL ej
  rw [sj] at sj2
  cases sj2
  have hn : n < ts.length := (List.getElem?_eq_some_iff.mp et).1
  have hnv : n < vs.length := by omega
  have hvn : vs[n]? = some vs[n] := List.getElem?_eq_getElem hnv
  obtain ⟨⟨a, us, ea, ha, hka, raa, hza⟩, nfp⟩ := h1 n vs[n] (.dc kvs) hvn et
  have kq := R2.slot q
  rw [eq] at kq
  obtain ⟨kv, sq, rk⟩ := kq
  refine ⟨p, vs, z, vs[n], rfl, rfl, SqL.of hp, by unfold atI; rw [hl, en]; exact hvn, kv, sq, a, upd H2 a (.dK (putK us kk v)), ea, ?_, k σ I2 _ (Same.trans s1 s2) ?_⟩
  · have hus : us.length = kvs.length := by have := congrArg List.length hka; rwa [List.length_map, List.length_map] at this
    rw [keyD_rp rk ek]
    exact DPut.k ha (by omega)
  have fa : (T1.dc kvs).fp vs[n] a := ⟨rfl, ea⟩
  have ap : a ≠ p := fun z => nfp (z ▸ fa)
  have ej' : ∀ b, T2.fp H2 (.ref p) (.ls ts) b → fpt H2 σ j (env.at j) b := fun b f => by rw [ej]; exact ⟨_, sj, f⟩
  have fpa : T2.fp H2 (.ref p) (.ls ts) a := .inr ⟨p, vs, n, vs[n], .dc kvs, rfl, hp, hvn, et, fa⟩
  obtain ⟨r1, r2⟩ := putK_rp (k := kk) (p1.mono s2) hka raa
  have el : ∀ (m : Nat) (u : V) (t : T1), vs[m]? = some u → (ts.set n (.dc (putKD kvs kk d)))[m]? = some t → (m ≠ n ∧ ts[m]? = some t) ∨ (m = n ∧ u = vs[n] ∧ t = .dc (putKD kvs kk d)) := fun m u t e1 e2 => by
    by_cases hm : m = n
    · subst hm
      rw [List.getElem?_set_self hn] at e2
      rw [hvn] at e1
      cases e1; cases e2
      exact .inr ⟨rfl, rfl, rfl⟩
    · rw [List.getElem?_set_ne (Ne.symm hm)] at e2
      exact .inl ⟨hm, e2⟩
  have nfa : ∀ {m : Nat} {u : V} {t : T1} {b : Addr}, m ≠ n → vs[m]? = some u → ts[m]? = some t → t.fp u b → b ≠ a := fun {m u t b} hm e1 e2 f z => h2 m n u vs[n] t (.dc kvs) b hm e1 hvn e2 et f (z ▸ fa)
  have fpo : ∀ b, T2.fp (upd H2 a (.dK (putK us kk v))) (.ref p) (.ls (ts.set n (.dc (putKD kvs kk d)))) b → T2.fp H2 (.ref p) (.ls ts) b := fun b f => by
    rcases f with f | ⟨p', vs', m, u, t, e, hp', g1, g2, f⟩
    · exact .inl f
    · cases e
      rw [upd_ne (Ne.symm ap), hp] at hp'
      cases hp'
      rcases el m u t g1 g2 with ⟨_, g3⟩ | ⟨rfl, rfl, rfl⟩
      · exact .inr ⟨p, vs, m, u, t, rfl, hp, g1, g3, f⟩
      · exact .inr ⟨p, vs, m, _, .dc kvs, rfl, hp, g1, et, ⟨rfl, f.2⟩⟩
  refine R2.write (slot_lt R2 sj) (fun b z => ?_) (fun b o q z => ?_) ⟨.ref p, sj, ⟨p, vs, rfl, (upd_ne (Ne.symm ap)).trans hp, by rw [List.length_set]; exact hl, by rw [List.length_set]; exact hz, fun m u t g1 g2 => ?_, fun m l u u' t t' b nl g1 g2 g3 g4 f f' => ?_⟩, fun b f => own b (fpo b f)⟩ fun b f => ?_
  · by_cases h : b = a
    · exact .inr (h ▸ ej' a fpa)
    · exact absurd (upd_ne h) z
  · by_cases h : b = a
    · rw [h, upd_same] at z; cases z
    · rw [upd_ne h, q] at z; cases z
  · rcases el m u t g1 g2 with ⟨hm, g3⟩ | ⟨rfl, rfl, rfl⟩
    · exact ⟨(h1 m u t g1 g3).1.mono (Same.refl _) fun b f => upd_ne (nfa hm g1 g3 f), (h1 m u t g1 g3).2⟩
    · exact ⟨⟨a, _, ea, upd_same, r1, r2, Nat.le_trans (putKD_len _ _ _) (by omega)⟩, fun f => nfp ⟨rfl, f.2⟩⟩
  · rcases el m u t g1 g3 with ⟨hm, q1⟩ | ⟨rfl, rfl, rfl⟩ <;> rcases el l u' t' g2 g4 with ⟨hm', q2⟩ | ⟨rfl, rfl, rfl⟩
    · exact h2 m l u u' t t' b nl g1 g2 q1 q2 f f'
    · exact h2 m l u _ t (.dc kvs) b nl g1 hvn q1 et f ⟨rfl, f'.2⟩
    · exact h2 m l _ u' (.dc kvs) t' b nl hvn g2 et q2 ⟨rfl, f.2⟩ f'
    · omega
  · obtain ⟨v', e0, f⟩ := f
    rw [sj] at e0; cases e0
    exact .inr (ej' b (fpo b f))
/-! ### lent for a new list of plain values -/
def mLendF (js : List Nat) (ml : ML G) : ML G := fun env g => if (env.lend js).noOw = true then bD (ml (env.lend js) g) fun ds g1 => if ds.all scal0 = true then some (ds, g1) else none else none
theorem scalA_rp {I J : Hp} : ∀ {vs : List V} {ds : List D}, RpA K I vs ds → ds.all scal0 = true → RpA K J vs ds
  | _, _, .nil, _ => .nil
  | _, _, .cons a b, h => by
    rw [List.all_cons, Bool.and_eq_true] at h
    exact .cons (scal0_rp a h.1) (scalA_rp b h.2)
theorem df_lend (js : List Nat) (h : DF X S e ml) : DF X S e (mLendF js ml) := PE.imp h fun σ H Q ⟨w, env, g, d, g', R, e, k⟩ => by
  unfold mLendF at e
  split at e
  case isFalse => cases e
  rename_i no
  obtain ⟨x, g1, e1, e⟩ := bD_some e
  split at e
  case isFalse => cases e
  rename_i sc
  cases e
  obtain ⟨I1, s1, RL⟩ := R.lend js
  refine ⟨w.im I1, env.lend js, g, d, g', RL, e1, fun p vs I2 H' s2 R2 n hp ra hz => ?_⟩
  have s2 : Same I1 I2 := s2
  have RU := R.unlend RL R2 s1 s2 no
  refine k p vs w.I H' (Same.refl _) RU ⟨?_, n.h0, n.f, fun i f => ?_⟩ hp (scalA_rp ra sc) hz
  · cases e : w.I p with
    | none => rfl
    | some u =>
      have := n.i
      have this : I2 p = none := this
      rw [s2 _ _ (s1 _ _ e)] at this; cases this
  · cases ei : env.at i with
    | ow ds =>
      rw [ei] at f
      have f : σ[i]? = some (some (.ref p)) := f
      rcases lend_at js env i with h | ⟨es, h, h'⟩
      · have nn := noOw_at no i
        rw [h, ei] at nn; cases nn
      · have ql := RL.slot i
        rw [h'] at ql
        obtain ⟨v, f1, rp⟩ := ql
        rw [f] at f1
        cases f1
        cases rp with
        | lst hq _ _ =>
          have := n.i
          have this : I2 p = none := this
          rw [s2 _ _ hq] at this; cases this
    | tr t =>
      have nn := noOw_at no i
      rcases lend_at js env i with h | ⟨es, h, h'⟩
      · rw [h, ei] at nn; cases nn
      · rw [ei] at h; cases h
    | _ => rw [ei] at f; exact f.elim
end
end Pd

/-! Pe: x = [.. for ..] on one line, lists lent. -/
namespace Pd
open PySem PySem.Spec L2
section
variable {G : Type} {X : Cx} {S : Gs G} {a b c e : Expr} {es : List Expr} {pos : Pos} {ma mb me : ME G} {mt mu : MT G} {ml : ML G} {tg iter : Expr} {st : Stmt}
variable {K : PySem.W.Frag} {w : Wd} {env env' : Env} {g g' : G} {σ : St} {H H' I' : Hp}
theorem tf_lend {js : List Nat} {Q : VK} (h : tF K S (mLendF js ml) σ H Q) : tF K S ml σ H Q := by
  obtain ⟨w, env, g, d, g', R, e, k⟩ := h
  unfold mLendF at e
  split at e
  case isFalse => cases e
  rename_i no
  obtain ⟨x, g1, e1, e⟩ := bD_some e
  split at e
  case isFalse => cases e
  rename_i sc
  cases e
  obtain ⟨I1, s1, RL⟩ := R.lend js
  refine ⟨w.im I1, env.lend js, g, d, g', RL, e1, fun p vs I2 H' s2 R2 n hp ra hz => ?_⟩
  have s2 : Same I1 I2 := s2
  have RU := R.unlend RL R2 s1 s2 no
  refine k p vs w.I H' (Same.refl _) RU ⟨?_, n.h0, n.f, fun i f => ?_⟩ hp (scalA_rp ra sc) hz
  · cases e : w.I p with
    | none => rfl
    | some u =>
      have := n.i
      have this : I2 p = none := this
      rw [s2 _ _ (s1 _ _ e)] at this; cases this
  · cases ei : env.at i with
    | ow ds =>
      rw [ei] at f
      have f : σ[i]? = some (some (.ref p)) := f
      rcases lend_at js env i with h | ⟨es, h, h'⟩
      · have nn := noOw_at no i
        rw [h, ei] at nn; cases nn
      · have ql := RL.slot i
        rw [h'] at ql
        obtain ⟨v, f1, rp⟩ := ql
        rw [f] at f1
        cases f1
        cases rp with
        | lst hq _ _ =>
          have := n.i
          have this : I2 p = none := this
          rw [s2 _ _ hq] at this; cases this
    | tr t =>
      have nn := noOw_at no i
      rcases lend_at js env i with h | ⟨es, h, h'⟩
      · rw [h, ei] at nn; cases nn
      · rw [ei] at h; cases h
    | _ => rw [ei] at f; exact f.elim
theorem ds_setLcL (js : List Nat) {elt : Expr} {ifs : List Expr} {scope : Scope} {own : List (Str × Nat)} {idx : List Nat} {bt : MTg G} {me : ME G} {i : Nat} {y : Str} {py spos : Pos} (hc : X.calm = true) (hN : X.N.Nodup) (hy : X.N[i]? = some y) (hyl : X.env.scope.names.lookup y = some .local)
    (hsw : swapsWith (.ListComp elt [⟨tg, iter, ifs, 0⟩] scope pos) (some (.Name y py)) spos.line X.env = pure true) (hi : DI X S tg iter ml) (ok : BlkOk X.N X.env.scope scope own)
    (hg : ∀ (s : Shared) (H : Hp) (C : Addr) (cl : List (Str × Addr)) (fp : List Addr), DTg (X.blk s H scope (compEnvC scope cl C X.env) fp) S tg idx bt) (ht : ∀ (s : Shared) (H : Hp) (C : Addr) (cl : List (Str × Addr)) (fp : List Addr), DTs (X.blk s H scope (compEnvC scope cl C X.env) fp) S ifs mt)
    (he : ∀ (s : Shared) (H : Hp) (C : Addr) (cl : List (Str × Addr)) (fp : List Addr), DE (X.blk s H scope (compEnvC scope cl C X.env) fp) S elt me) (hsub : ∀ k ∈ idx, k ∈ own.map (·.2) := by decide) (hs : ∀ x, foldedSetIterable iter X.env x = pure x := by intro _; rfl) :
    DS X S (.Assign [.Name y py] (.ListComp elt [⟨tg, iter, ifs, 0⟩] scope pos) spos) (mSetF i (mLendF js (mComp ml (own.map (·.2)) bt mt me))) :=
  PS.imp (ps_setLc hc hN hy hyl hsw hi ok (fun s H C cl fp => (hg s H C cl fp).pg) (fun s H C cl fp => (ht s H C cl fp).pt) he hs) fun D σ H ⟨w, env, g, c, env', g', R, e, k⟩ => by
    obtain ⟨x, g1, e1, e⟩ := bD_some e
    cases e
    exact tf_comp (hg X.s_0 X.H_0 0 [] []).ok hsub (tf_lend ⟨w, env, g, x, g', R, e1, fun p vs I' H' s' R' n hp ra hz => k _ I' H' s' (R'.putL n hp ra hz)⟩)
/-- a, b = e, {}: the general way -/
theorem ds_parK2 {i j : Nat} {x y : Str} {px py pt p2 : Pos} {kt k2 pt2} (hc : X.calm = true) (hN : X.N.Nodup) (hi : X.N[i]? = some x) (hj : X.N[j]? = some y) (hij : i ≠ j)
    (hx : Loc X.env.scope x) (hy : Loc X.env.scope y) (hfx : X.fn x = true ∨ X.env.scope.names.lookup x = some .local) (hfy : X.fn y = true ∨ X.env.scope.names.lookup y = some .local) (ha : DE X S a ma)
    (hn : (assignEach [Expr.Name x px, .Name y py] X.env).length = 2 := by rfl)
    (hw : swappedStores [.Tuple [.Name x px, .Name y py] kt pt] (.Tuple [a, .Dict [] [] p2] k2 pt2) X.env = pure none := by rfl)
    (hs : swapsWithSole [.Tuple [.Name x px, .Name y py] kt pt] (.Tuple [a, .Dict [] [] p2] k2 pt2) pos.line X.env = pure false := by rfl)
    (h1 : starEach [a, .Dict [] [] p2] X.env = (false, eval a X.env) :: starEach [.Dict [] [] p2] X.env := by rfl) (h2 : starEach [.Dict [] [] p2] X.env = (false, eval (.Dict [] [] p2) X.env) :: starEach [] X.env := by rfl) :
    DS X S (.Assign [.Tuple [.Name x px, .Name y py] kt pt] (.Tuple [a, .Dict [] [] p2] k2 pt2) pos) (mParK i j ma) :=
  PS.imp (ps_asg (pe_tup (pa_cons ha (pa_cons pe_dnewK pa_nil h2) h1)) (pg_tup hc (pgs_cons (pg_name hN hi hx hfx) (pgs_cons (pg_name hN hj hy hfy) pgs_nil)) hn) hs hw) fun D σ H ⟨w, env, g, c, env', g', R, e, k⟩ => by
  obtain ⟨d, g1, e1, e⟩ := bD_some e
  cases e
  refine ⟨w, env, g, d, g', R, e1, fun v I' H' s' R' r p h0 => ⟨show (2 : Nat) ≤ _ by decide, fun q hq => ⟨q, [v, .ref p], rfl, ?_, rfl, ?_⟩⟩⟩
  · exact .inl (.inl upd_same)
  have R1 := R'.alloc (o := .dK []) h0
  have np : p ≠ q := fun z => by rw [z] at hq; rw [upd_same] at hq; cases hq
  have Rq := R1.alloc (o := .tup [v, .ref p]) hq
  have n2 : Nob (w.im I') env σ (upd (upd H' p (.dK [])) q (.tup [v, .ref p])) p := R'.nobS (w := w.im I') h0 (Same.trans (same_new h0) (same_new hq))
  have R2 := Rq.putD (i := i) r
  refine ⟨_, _, rfl, _, _, rfl, rfl, k _ I' _ s' (R2.putT (w := w.im I') (i := j) (v := .ref p) (t := .one (.dc [])) ⟨p, [], rfl, (upd_ne np).trans upd_same, rfl, .nil, Nat.zero_le _⟩ fun b ⟨_, f⟩ => ?_)⟩
  cases f
  refine ⟨n2.i, n2.h0, n2.f, fun q fq => ?_⟩
  rw [at_set] at fq
  by_cases hq : q = i ∧ i < env.length
  · rw [if_pos hq] at fq; exact fq
  · rw [if_neg hq] at fq
    exact n2.o q (fpt_eq (i := q) (by rw [get_set, if_neg (by rw [R'.len]; exact hq)]) fq)
end
end Pd

namespace K52
open PySem PySem.Spec L2 Pd
/-! ### the text by places -/
def top (i : Nat) : Stmt := PySem.Challenge.pw_plainserial_k52_whole_pages.main.body.getD i (.Pass ⟨0, 0, 0, 0⟩)
abbrev s_empty_page : Stmt := top 3
abbrev s_slots_in : Stmt := top 4
abbrev s_slot_of : Stmt := top 5
abbrev s_row_in : Stmt := top 6
abbrev s_rows_in : Stmt := top 7
abbrev s_laid : Stmt := top 8
abbrev s_first_free : Stmt := top 9
abbrev s_used_in : Stmt := top 10
abbrev s_room_in : Stmt := top 11
abbrev s_put_in : Stmt := top 12
abbrev s_taken_out : Stmt := top 13
abbrev s_changed : Stmt := top 14
abbrev s_page_fault : Stmt := top 15
abbrev s_fits_all : Stmt := top 16
abbrev s_pages_for : Stmt := top 17
abbrev s__law_state : Stmt := top 19
abbrev s__law_take : Stmt := top 20
abbrev s__law_laid : Stmt := top 21
abbrev s__law_row : Stmt := top 22
abbrev s__law_page : Stmt := top 23
abbrev s__law_free : Stmt := top 24
abbrev s__law_room : Stmt := top 25
abbrev s_law : Stmt := top 26
structure Txt (K : PySem.W.Frag) (mg : Str → Option Value) : Prop where
  d_empty_page : Dfn K mg "empty_page" "empty_page" s_empty_page []
  d_slots_in : Dfn K mg "slots_in" "slots_in" s_slots_in ["page"]
  d_slot_of : Dfn K mg "slot_of" "slot_of" s_slot_of ["page", "slot"]
  d_row_in : Dfn K mg "row_in" "row_in" s_row_in ["page", "slot"]
  d_rows_in : Dfn K mg "rows_in" "rows_in" s_rows_in ["page"]
  d_laid : Dfn K mg "laid" "laid" s_laid ["rows", "slots"]
  d_first_free : Dfn K mg "first_free" "first_free" s_first_free ["page"]
  d_used_in : Dfn K mg "used_in" "used_in" s_used_in ["page"]
  d_room_in : Dfn K mg "room_in" "room_in" s_room_in ["page"]
  d_put_in : Dfn K mg "put_in" "put_in" s_put_in ["page", "row"]
  d_taken_out : Dfn K mg "taken_out" "taken_out" s_taken_out ["page", "slot"]
  d_changed : Dfn K mg "changed" "changed" s_changed ["page", "slot", "row"]
  d_page_fault : Dfn K mg "page_fault" "page_fault" s_page_fault ["page"]
  d_fits_all : Dfn K mg "fits_all" "fits_all" s_fits_all ["rows"]
  d_pages_for : Dfn K mg "pages_for" "pages_for" s_pages_for ["rows"]
  d__law_state : Dfn K mg "_law_state" "_law_state" s__law_state ["script"]
  d__law_take : Dfn K mg "_law_take" "_law_take" s__law_take ["state", "most"]
  d__law_laid : Dfn K mg "_law_laid" "_law_laid" s__law_laid ["rows", "slots"]
  d__law_row : Dfn K mg "_law_row" "_law_row" s__law_row ["state"]
  d__law_page : Dfn K mg "_law_page" "_law_page" s__law_page ["table"]
  d__law_free : Dfn K mg "_law_free" "_law_free" s__law_free ["table"]
  d__law_room : Dfn K mg "_law_room" "_law_room" s__law_room ["table"]
  c_AHEAD : Cst K mg "AHEAD" (.int 2)
  c_SIZE : Cst K mg "SIZE" (.int 256)
  z_abs : mg "abs" = none
  z_any : mg "any" = none
  z_dict : mg "dict" = none
  z_enumerate : mg "enumerate" = none
  z_int : mg "int" = none
  z_len : mg "len" = none
  z_list : mg "list" = none
  z_max : mg "max" = none
  z_min : mg "min" = none
  z_range : mg "range" = none
  z_sorted : mg "sorted" = none
  z_sum : mg "sum" = none
section
variable {P : Program} {wd : World} {K : PySem.W.Frag} {mg : Str → Option Value} {base : Heap}
/-! #### empty_page -/
abbrev n_empty_page : List Str := []
theorem sc_empty_page : FnScope n_empty_page [] (defScope s_empty_page) := ⟨rfl, rfl, rfl, by decide +kernel, rfl, by decide +kernel, by decide +kernel⟩
def m_empty_page : MS Unit := (mRetF (mRep (mL (mLst (mCons (mC (.int 0)) mNil))) (mC (.int 256))))
def F_empty_page : List D → Option (List D) := runN 0 0 m_empty_page
theorem ok_empty_page (T : Txt K mg) : Def1 P wd K mg base "empty_page" [] 1 (spN K F_empty_page) := def_new T.d_empty_page sc_empty_page fun f cdv A outer s H E hr =>
    (db_one (ds_retF (df_rep (de_fresh (df_lst (da_cons de_int da_nil))) (de_cst T.c_SIZE))))
/-! #### slots_in -/
abbrev n_slots_in : List Str := ["page"]
theorem sc_slots_in : FnScope n_slots_in ["page"] (defScope s_slots_in) := ⟨rfl, rfl, rfl, by decide +kernel, rfl, by decide +kernel, by decide +kernel⟩
def m_slots_in : MS Unit := (mRet (mOp dIx (mVar 0) (mC (.int 0))))
def F_slots_in : List D → Option D := runP 1 1 m_slots_in
theorem ok_slots_in (T : Txt K mg) : Def1 P wd K mg base "slots_in" ["page"] 1 (spP K F_slots_in) := def_pure T.d_slots_in sc_slots_in fun f cdv A outer s H E hr =>
    (db_one (ds_ret (de_ix (de_var 0) de_int)))
/-! #### slot_of -/
abbrev n_slot_of : List Str := ["page", "slot", "at"]
theorem sc_slot_of : FnScope n_slot_of ["page", "slot"] (defScope s_slot_of) := ⟨rfl, rfl, rfl, by decide +kernel, rfl, by decide +kernel, by decide +kernel⟩
def m_slot_of : MS Unit := (mSeq (mSet 2 (mOp dAdd (mC (.int 2)) (mOp dMul (mC (.int 2)) (mVar 1))))
    (mRet (mTup (mCons (mOp dIx (mVar 0) (mVar 2)) (mCons (mOp dIx (mVar 0) (mOp dAdd (mVar 2) (mC (.int 1)))) mNil)))))
def F_slot_of : List D → Option D := runP 3 2 m_slot_of
theorem ok_slot_of (T : Txt K mg) : Def1 P wd K mg base "slot_of" ["page", "slot"] 1 (spP K F_slot_of) := def_pure T.d_slot_of sc_slot_of fun f cdv A outer s H E hr =>
    (db_cons (ds_set (i := 2) sc_slot_of.nd rfl (by first | exact Or.inl rfl | exact Or.inr rfl) (de_op op_addD od_addD (de_cst T.c_AHEAD) (de_op op_mul od_mul de_int (de_var 1))))
    (db_one (ds_ret (de_tup (da_cons (de_ix (de_var 0) (de_var 2)) (da_cons (de_ix (de_var 0) (de_op op_addD od_addD (de_var 2) de_int)) da_nil))))))
/-! #### row_in -/
abbrev n_row_in : List Str := ["page", "slot", "begin", "length"]
theorem sc_row_in : FnScope n_row_in ["page", "slot"] (defScope s_row_in) := ⟨rfl, rfl, rfl, by decide +kernel, rfl, by decide +kernel, by decide +kernel⟩
def m_row_in : MS Unit := (mSeq (mIfS (mNot (mChainT dLeI dLtI (mC (.int 0)) (mVar 1) (mCall F_slots_in (mCons (mVar 0) mNil))))
    (mRet (mC .none))
    mSkip)
    (mSeq (mAsg (bTup 2 (bCons (bName 2) (bCons (bName 3) bNil))) (mCall F_slot_of (mCons (mVar 0) (mCons (mVar 1) mNil))))
    (mRet (mIf (mOpT dGtI (mVar 3) (mC (.int 0))) (mL (mCallF dListOf (mCons (mL (mSlL (mVar 0) (mPart (mVar 2)) (mPart (mOp dAdd (mVar 2) (mVar 3))))) mNil))) (mC .none)))))
def F_row_in : List D → Option D := runP 4 2 m_row_in
theorem ok_row_in (T : Txt K mg) : Def1 P wd K mg base "row_in" ["page", "slot"] 2 (spP K F_row_in) := def_pure T.d_row_in sc_row_in fun f cdv A outer s H E hr =>
    (db_cons (ds_if (dt_not (dt_chain op_le od_leI op_lt od_ltI de_int (de_var 1) (call_P (ok_slots_in T) (hr.mono (by decide)) rfl (da_cons (de_var 0) da_nil))))
    (db_one (ds_ret de_non))
    db_nil)
    (db_cons (ds_asg (call_P (ok_slot_of T) (hr.mono (by decide)) rfl (da_cons (de_var 0) (da_cons (de_var 1) da_nil))) (dg_tup rfl (dgs_cons (dg_name (i := 2) sc_row_in.nd rfl (by first | exact Or.inl rfl | exact Or.inr rfl)) (dgs_cons (dg_name (i := 3) sc_row_in.nd rfl (by first | exact Or.inl rfl | exact Or.inr rfl)) dgs_nil))))
    (db_one (ds_ret (de_if (dt_cmp op_gt od_gtI (de_var 3) de_int (nomark _)) (de_fresh (df_callTy call_list_of cf_list rfl T.z_list (by decide +kernel) (da_cons (de_fresh (df_slice (de_var 0) (do_some (de_var 2)) (do_some (de_op op_addD od_addD (de_var 2) (de_var 3))))) da_nil))) de_non)))))
/-! #### rows_in -/
abbrev n_rows_in : List Str := ["page", "found", "slot", "row"]
theorem sc_rows_in : FnScope n_rows_in ["page"] (defScope s_rows_in) := ⟨rfl, rfl, rfl, by decide +kernel, rfl, by decide +kernel, by decide +kernel⟩
def lb_rows_in_1 : MS Unit := (mSeq (mSet 3 (mCall F_row_in (mCons (mVar 0) (mCons (mVar 2) mNil))))
    (mIfS (mOpT dIsNot (mVar 3) (mC .none))
    (mApp 1 (mTup (mCons (mVar 2) (mCons (mVar 3) mNil))))
    mSkip))
def m_rows_in : MS Unit := (mSeq (mSetF 1 (mLst mNil))
    (mSeq (mFor (mRng1 (mCons (mCall F_slots_in (mCons (mVar 0) mNil)) mNil)) (bName 2) lb_rows_in_1)
    (mRetOw 1)))
def F_rows_in : List D → Option D := runP 4 1 m_rows_in
theorem ok_rows_in (T : Txt K mg) : Def1 P wd K mg base "rows_in" ["page"] 3 (spP K F_rows_in) := def_pure T.d_rows_in sc_rows_in fun f cdv A outer s H E hr =>
    (db_cons (ds_setF (i := 1) sc_rows_in.nd rfl (by first | exact Or.inl rfl | exact Or.inr rfl) (df_lst da_nil))
    (db_cons (ds_for PassesOwn.never rfl (di_range1 rfl T.z_range (da_cons (call_P (ok_slots_in T) (hr.mono (by decide)) rfl (da_cons (de_var 0) da_nil)) da_nil)) (dg_name (i := 2) sc_rows_in.nd rfl (by first | exact Or.inl rfl | exact Or.inr rfl))
    (db_cons (ds_set (i := 3) sc_rows_in.nd rfl (by first | exact Or.inl rfl | exact Or.inr rfl) (call_P (ok_row_in T) (hr.mono (by decide)) rfl (da_cons (de_var 0) (da_cons (de_var 2) da_nil))))
    (db_one (ds_if (dt_cmp op_notN od_isNot (de_var 3) de_non (nomark _))
    (db_one (ds_append 1 (de_tup (da_cons (de_var 2) (da_cons (de_var 3) da_nil)))))
    db_nil))))
    (db_one (ds_retOw 1))))
/-! #### laid -/
abbrev n_laid : List Str := ["rows", "slots", "page", "low", "slot", "row"]
theorem sc_laid : FnScope n_laid ["rows", "slots"] (defScope s_laid) := ⟨rfl, rfl, rfl, by decide +kernel, rfl, by decide +kernel, by decide +kernel⟩
def lb_laid_1 : MS Unit := (mSeq (mSet 3 (mOp dSub (mVar 3) (mCall dLen (mCons (mVar 5) mNil))))
    (mSeq (mSetIx 2 (mOp dAdd (mC (.int 2)) (mOp dMul (mC (.int 2)) (mVar 4))) (mVar 3))
    (mSeq (mSetIx 2 (mOp dAdd (mOp dAdd (mC (.int 2)) (mOp dMul (mC (.int 2)) (mVar 4))) (mC (.int 1))) (mCall dLen (mCons (mVar 5) mNil)))
    (mSetSl 2 (mPart (mVar 3)) (mPart (mOp dAdd (mVar 3) (mCall dLen (mCons (mVar 5) mNil)))) (mVar 5)))))
def m_laid : MS Unit := (mSeq (mSetF 2 (mCallF F_empty_page mNil))
    (mSeq (mSetIx 2 (mC (.int 0)) (mVar 1))
    (mSeq (mSet 3 (mC (.int 256)))
    (mSeq (mFor (mItL (mVar 0)) (bTup 2 (bCons (bName 4) (bCons (bName 5) bNil))) lb_laid_1)
    (mSeq (mSetIx 2 (mC (.int 1)) (mOp dSub (mC (.int 256)) (mVar 3)))
    (mRetOw 2))))))
def F_laid : List D → Option D := runP 6 2 m_laid
theorem ok_laid (T : Txt K mg) : Def1 P wd K mg base "laid" ["rows", "slots"] 2 (spP K F_laid) := def_pure T.d_laid sc_laid fun f cdv A outer s H E hr =>
    (db_cons (ds_setF (i := 2) sc_laid.nd rfl (by first | exact Or.inl rfl | exact Or.inr rfl) (call_N0 (ok_empty_page T) (hr.mono (by decide)) rfl))
    (db_cons (ds_setIx 2 de_int (de_var 1))
    (db_cons (ds_set (i := 3) sc_laid.nd rfl (by first | exact Or.inl rfl | exact Or.inr rfl) (de_cst T.c_SIZE))
    (db_cons (ds_for PassesOwn.never rfl (di_list (de_var 0)) (dg_tup rfl (dgs_cons (dg_name (i := 4) sc_laid.nd rfl (by first | exact Or.inl rfl | exact Or.inr rfl)) (dgs_cons (dg_name (i := 5) sc_laid.nd rfl (by first | exact Or.inl rfl | exact Or.inr rfl)) dgs_nil)))
    (db_cons (ds_set (i := 3) sc_laid.nd rfl (by first | exact Or.inl rfl | exact Or.inr rfl) (de_op op_sub od_sub (de_var 3) (de_callB call_len cd_len rfl T.z_len (by decide +kernel) (da_cons (de_var 5) da_nil))))
    (db_cons (ds_setIx 2 (de_op op_addD od_addD (de_cst T.c_AHEAD) (de_op op_mul od_mul de_int (de_var 4))) (de_var 3))
    (db_cons (ds_setIx 2 (de_op op_addD od_addD (de_op op_addD od_addD (de_cst T.c_AHEAD) (de_op op_mul od_mul de_int (de_var 4))) de_int) (de_callB call_len cd_len rfl T.z_len (by decide +kernel) (da_cons (de_var 5) da_nil)))
    (db_one (ds_setSl 2 (de_var 5) (do_some (de_var 3)) (do_some (de_op op_addD od_addD (de_var 3) (de_callB call_len cd_len rfl T.z_len (by decide +kernel) (da_cons (de_var 5) da_nil))))))))))
    (db_cons (ds_setIx 2 de_int (de_op op_sub od_sub (de_cst T.c_SIZE) (de_var 3)))
    (db_one (ds_retOw 2)))))))
/-! #### first_free -/
abbrev n_first_free : List Str := ["page", "slot"]
theorem sc_first_free : FnScope n_first_free ["page"] (defScope s_first_free) := ⟨rfl, rfl, rfl, by decide +kernel, rfl, by decide +kernel, by decide +kernel⟩
def lb_first_free_1 : MS Unit := (mIfS (mOpT dEq (mOp dIx (mCall F_slot_of (mCons (mVar 0) (mCons (mVar 1) mNil))) (mC (.int 1))) (mC (.int 0)))
    (mRet (mVar 1))
    mSkip)
def m_first_free : MS Unit := (mSeq (mFor (mRng1 (mCons (mCall F_slots_in (mCons (mVar 0) mNil)) mNil)) (bName 1) lb_first_free_1)
    (mRet (mCall F_slots_in (mCons (mVar 0) mNil))))
def F_first_free : List D → Option D := runP 2 1 m_first_free
theorem ok_first_free (T : Txt K mg) : Def1 P wd K mg base "first_free" ["page"] 2 (spP K F_first_free) := def_pure T.d_first_free sc_first_free fun f cdv A outer s H E hr =>
    (db_cons (ds_for PassesOwn.never rfl (di_range1 rfl T.z_range (da_cons (call_P (ok_slots_in T) (hr.mono (by decide)) rfl (da_cons (de_var 0) da_nil)) da_nil)) (dg_name (i := 1) sc_first_free.nd rfl (by first | exact Or.inl rfl | exact Or.inr rfl))
    (db_one (ds_if (dt_cmp (op_eqD (hu64 hr)) od_eq (de_ix (call_P (ok_slot_of T) (hr.mono (by decide)) rfl (da_cons (de_var 0) (da_cons (de_var 1) da_nil))) de_int) de_int (nomark _))
    (db_one (ds_ret (de_var 1)))
    db_nil)))
    (db_one (ds_ret (call_P (ok_slots_in T) (hr.mono (by decide)) rfl (da_cons (de_var 0) da_nil)))))
/-! #### used_in -/
abbrev n_used_in : List Str := ["page"]
theorem sc_used_in : FnScope n_used_in ["page"] (defScope s_used_in) := ⟨rfl, rfl, rfl, by decide +kernel, rfl, by decide +kernel, by decide +kernel⟩
def m_used_in : MS Unit := (mRet (mOp dIx (mVar 0) (mC (.int 1))))
def F_used_in : List D → Option D := runP 1 1 m_used_in
theorem ok_used_in (T : Txt K mg) : Def1 P wd K mg base "used_in" ["page"] 1 (spP K F_used_in) := def_pure T.d_used_in sc_used_in fun f cdv A outer s H E hr =>
    (db_one (ds_ret (de_ix (de_var 0) de_int)))
/-! #### room_in -/
abbrev n_room_in : List Str := ["page", "slot", "slots"]
theorem sc_room_in : FnScope n_room_in ["page"] (defScope s_room_in) := ⟨rfl, rfl, rfl, by decide +kernel, rfl, by decide +kernel, by decide +kernel⟩
def m_room_in : MS Unit := (mSeq (mSet 1 (mCall F_first_free (mCons (mVar 0) mNil)))
    (mSeq (mSet 2 (mCall dMax2 (mCons (mCall F_slots_in (mCons (mVar 0) mNil)) (mCons (mOp dAdd (mVar 1) (mC (.int 1))) mNil))))
    (mRet (mCall dMax2 (mCons (mC (.int 0)) (mCons (mCall dMin2 (mCons (mC (.int 255)) (mCons (mOp dSub (mOp dSub (mOp dSub (mC (.int 256)) (mC (.int 2))) (mOp dMul (mC (.int 2)) (mVar 2))) (mCall F_used_in (mCons (mVar 0) mNil))) mNil))) mNil))))))
def F_room_in : List D → Option D := runP 3 1 m_room_in
theorem ok_room_in (T : Txt K mg) : Def1 P wd K mg base "room_in" ["page"] 3 (spP K F_room_in) := def_pure T.d_room_in sc_room_in fun f cdv A outer s H E hr =>
    (db_cons (ds_set (i := 1) sc_room_in.nd rfl (by first | exact Or.inl rfl | exact Or.inr rfl) (call_P (ok_first_free T) (hr.mono (by decide)) rfl (da_cons (de_var 0) da_nil)))
    (db_cons (ds_set (i := 2) sc_room_in.nd rfl (by first | exact Or.inl rfl | exact Or.inr rfl) (de_callB (call_max2 rfl) cd_max2 rfl T.z_max (by decide +kernel) (da_cons (call_P (ok_slots_in T) (hr.mono (by decide)) rfl (da_cons (de_var 0) da_nil)) (da_cons (de_op op_addD od_addD (de_var 1) de_int) da_nil))))
    (db_one (ds_ret (de_callB (call_max2 rfl) cd_max2 rfl T.z_max (by decide +kernel) (da_cons de_int (da_cons (de_callB (call_min2 rfl) cd_min2 rfl T.z_min (by decide +kernel) (da_cons de_int (da_cons (de_op op_sub od_sub (de_op op_sub od_sub (de_op op_sub od_sub (de_cst T.c_SIZE) (de_cst T.c_AHEAD)) (de_op op_mul od_mul de_int (de_var 2))) (call_P (ok_used_in T) (hr.mono (by decide)) rfl (da_cons (de_var 0) da_nil))) da_nil))) da_nil)))))))
/-! #### put_in -/
abbrev n_put_in : List Str := ["page", "row", "slot", "rows"]
theorem sc_put_in : FnScope n_put_in ["page", "row"] (defScope s_put_in) := ⟨rfl, rfl, rfl, by decide +kernel, rfl, by decide +kernel, by decide +kernel⟩
def m_put_in : MS Unit := (mSeq (mIfS (mNot (mChainT dLeI dLeI (mC (.int 1)) (mCall dLen (mCons (mVar 1) mNil)) (mCall F_room_in (mCons (mVar 0) mNil))))
    (mRet (mC .none))
    mSkip)
    (mSeq (mSet 2 (mCall F_first_free (mCons (mVar 0) mNil)))
    (mSeq (mSet 3 (mL (mCallF dSorted (mCons (mL (mCat (mCall F_rows_in (mCons (mVar 0) mNil)) (mL (mLst (mCons (mTup (mCons (mVar 2) (mCons (mL (mCallF dListOf (mCons (mVar 1) mNil))) mNil))) mNil))))) mNil))))
    (mRet (mTup (mCons (mCall F_laid (mCons (mVar 3) (mCons (mCall dMax2 (mCons (mCall F_slots_in (mCons (mVar 0) mNil)) (mCons (mOp dAdd (mVar 2) (mC (.int 1))) mNil))) mNil))) (mCons (mVar 2) mNil)))))))
def F_put_in : List D → Option D := runP 4 2 m_put_in
theorem ok_put_in (T : Txt K mg) : Def1 P wd K mg base "put_in" ["page", "row"] 4 (spP K F_put_in) := def_pure T.d_put_in sc_put_in fun f cdv A outer s H E hr =>
    (db_cons (ds_if (dt_not (dt_chain op_le od_leI op_le od_leI de_int (de_callB call_len cd_len rfl T.z_len (by decide +kernel) (da_cons (de_var 1) da_nil)) (call_P (ok_room_in T) (hr.mono (by decide)) rfl (da_cons (de_var 0) da_nil))))
    (db_one (ds_ret de_non))
    db_nil)
    (db_cons (ds_set (i := 2) sc_put_in.nd rfl (by first | exact Or.inl rfl | exact Or.inr rfl) (call_P (ok_first_free T) (hr.mono (by decide)) rfl (da_cons (de_var 0) da_nil)))
    (db_cons (ds_set (i := 3) sc_put_in.nd rfl (by first | exact Or.inl rfl | exact Or.inr rfl) (de_fresh (df_callB (cr_sortD (hu65 hr)) cf_sorted rfl T.z_sorted (by decide +kernel) (da_cons (de_fresh (df_cat (call_P (ok_rows_in T) (hr.mono (by decide)) rfl (da_cons (de_var 0) da_nil)) (de_fresh (df_lst (da_cons (de_tup (da_cons (de_var 2) (da_cons (de_fresh (df_callTy call_list_of cf_list rfl T.z_list (by decide +kernel) (da_cons (de_var 1) da_nil))) da_nil))) da_nil))))) da_nil))))
    (db_one (ds_ret (de_tup (da_cons (call_P (ok_laid T) (hr.mono (by decide)) rfl (da_cons (de_var 3) (da_cons (de_callB (call_max2 rfl) cd_max2 rfl T.z_max (by decide +kernel) (da_cons (call_P (ok_slots_in T) (hr.mono (by decide)) rfl (da_cons (de_var 0) da_nil)) (da_cons (de_op op_addD od_addD (de_var 2) de_int) da_nil))) da_nil))) (da_cons (de_var 2) da_nil))))))))
/-! #### taken_out -/
abbrev n_taken_out : List Str := ["page", "slot", "rows", "pair"]
theorem sc_taken_out : FnScope n_taken_out ["page", "slot"] (defScope s_taken_out) := ⟨rfl, rfl, rfl, by decide +kernel, rfl, by decide +kernel, by decide +kernel⟩
def m_taken_out : MS Unit := (mSeq (mIfS (mOpT dIs (mCall F_row_in (mCons (mVar 0) (mCons (mVar 1) mNil))) (mC .none))
    (mRet (mC .none))
    mSkip)
    (mSeq (mThen (mSetF 2 (mComp (mItL (mCall F_rows_in (mCons (mVar 0) mNil))) [3] (bName 3) (mOpT dNe (mOp dIx (mVar 3) (mC (.int 0))) (mVar 1)) (mVar 3))) 2)
    (mRet (mCall F_laid (mCons (mVar 2) (mCons (mIf (mTru (mVar 2)) (mOp dAdd (mOp dIx (mOp dIx (mVar 2) (mUn dNeg (mC (.int 1)))) (mC (.int 0))) (mC (.int 1))) (mC (.int 0))) mNil))))))
def F_taken_out : List D → Option D := runP 4 2 m_taken_out
theorem ok_taken_out (T : Txt K mg) : Def1 P wd K mg base "taken_out" ["page", "slot"] 4 (spP K F_taken_out) := def_pure T.d_taken_out sc_taken_out fun f cdv A outer s H E hr =>
    (db_cons (ds_if (dt_cmp op_isN od_is (call_P (ok_row_in T) (hr.mono (by decide)) rfl (da_cons (de_var 0) (da_cons (de_var 1) da_nil))) de_non (nomark _))
    (db_one (ds_ret de_non))
    db_nil)
    (db_cons (ds_then 2 (ds_setLc (own := [("pair", 3)]) rfl sc_taken_out.nd rfl rfl (sw_true rfl rfl rfl (by decide +kernel)) (di_list (call_P (ok_rows_in T) (hr.mono (by decide)) rfl (da_cons (de_var 0) da_nil))) (blkOk_by (N := n_taken_out) (sc := defScope s_taken_out) (by decide +kernel)) (fun _ _ _ _ _ => (dg_name (i := 3) sc_taken_out.nd rfl (by first | exact Or.inl rfl | exact Or.inr rfl))) (fun _ _ _ _ _ => (dts_one (dt_cmp (op_neD (hu64 hr)) od_ne (de_ix (de_var 3) de_int) (de_var 1) (nomark _)))) (fun _ _ _ _ _ => (de_var 3))))
    (db_one (ds_ret (call_P (ok_laid T) (hr.mono (by decide)) rfl (da_cons (de_var 2) (da_cons (de_if (dt_tru (de_var 2)) (de_op op_addD od_addD (de_ix (de_ix (de_var 2) (de_un un_neg ud_neg de_int)) de_int) de_int) de_int) da_nil)))))))
/-! #### changed -/
abbrev n_changed : List Str := ["page", "slot", "row", "old", "rows", "at", "other"]
theorem sc_changed : FnScope n_changed ["page", "slot", "row"] (defScope s_changed) := ⟨rfl, rfl, rfl, by decide +kernel, rfl, by decide +kernel, by decide +kernel⟩
def m_changed : MS Unit := (mSeq (mSet 3 (mCall F_row_in (mCons (mVar 0) (mCons (mVar 1) mNil))))
    (mSeq (mIfS (mOr (mOpT dIs (mVar 3) (mC .none)) (mNot (mChainT dLeI dLeI (mC (.int 1)) (mCall dLen (mCons (mVar 2) mNil)) (mCall dMin2 (mCons (mC (.int 255)) (mCons (mOp dAdd (mOp dSub (mOp dSub (mOp dSub (mC (.int 256)) (mC (.int 2))) (mOp dMul (mC (.int 2)) (mCall F_slots_in (mCons (mVar 0) mNil)))) (mCall F_used_in (mCons (mVar 0) mNil))) (mCall dLen (mCons (mVar 3) mNil))) mNil))))))
    (mRet (mC .none))
    mSkip)
    (mSeq (mThen (mSetF 4 (mComp (mItL (mCall F_rows_in (mCons (mVar 0) mNil))) [5, 6] (bTup 2 (bCons (bName 5) (bCons (bName 6) bNil))) mYes (mTup (mCons (mVar 5) (mCons (mIf (mOpT dEq (mVar 5) (mVar 1)) (mL (mCallF dListOf (mCons (mVar 2) mNil))) (mVar 6)) mNil))))) 4)
    (mRet (mCall F_laid (mCons (mVar 4) (mCons (mCall F_slots_in (mCons (mVar 0) mNil)) mNil)))))))
def F_changed : List D → Option D := runP 7 3 m_changed
theorem ok_changed (T : Txt K mg) : Def1 P wd K mg base "changed" ["page", "slot", "row"] 4 (spP K F_changed) := def_pure T.d_changed sc_changed fun f cdv A outer s H E hr =>
    (db_cons (ds_set (i := 3) sc_changed.nd rfl (by first | exact Or.inl rfl | exact Or.inr rfl) (call_P (ok_row_in T) (hr.mono (by decide)) rfl (da_cons (de_var 0) (da_cons (de_var 1) da_nil))))
    (db_cons (ds_if (PW.pt (dw_or (dt_cmp op_isN od_is (de_var 3) de_non (nomark _)) (dw_or1 (dt_not (dt_chain op_le od_leI op_le od_leI de_int (de_callB call_len cd_len rfl T.z_len (by decide +kernel) (da_cons (de_var 2) da_nil)) (de_callB (call_min2 rfl) cd_min2 rfl T.z_min (by decide +kernel) (da_cons de_int (da_cons (de_op op_addD od_addD (de_op op_sub od_sub (de_op op_sub od_sub (de_op op_sub od_sub (de_cst T.c_SIZE) (de_cst T.c_AHEAD)) (de_op op_mul od_mul de_int (call_P (ok_slots_in T) (hr.mono (by decide)) rfl (da_cons (de_var 0) da_nil)))) (call_P (ok_used_in T) (hr.mono (by decide)) rfl (da_cons (de_var 0) da_nil))) (de_callB call_len cd_len rfl T.z_len (by decide +kernel) (da_cons (de_var 3) da_nil))) da_nil))))))))
    (db_one (ds_ret de_non))
    db_nil)
    (db_cons (ds_then 4 (ds_setLc (own := [("at", 5), ("other", 6)]) rfl sc_changed.nd rfl rfl (sw_true rfl rfl rfl (by decide +kernel)) (di_list (call_P (ok_rows_in T) (hr.mono (by decide)) rfl (da_cons (de_var 0) da_nil))) (blkOk_by (N := n_changed) (sc := defScope s_changed) (by decide +kernel)) (fun _ _ _ _ _ => (dg_tup rfl (dgs_cons (dg_name (i := 5) sc_changed.nd rfl (by first | exact Or.inl rfl | exact Or.inr rfl)) (dgs_cons (dg_name (i := 6) sc_changed.nd rfl (by first | exact Or.inl rfl | exact Or.inr rfl)) dgs_nil)))) (fun _ _ _ _ _ => dts_nil) (fun _ _ _ _ _ => (de_tup (da_cons (de_var 5) (da_cons (de_if (dt_cmp (op_eqD (hu64 hr)) od_eq (de_var 5) (de_var 1) (nomark _)) (de_fresh (df_callTy call_list_of cf_list rfl T.z_list (by decide +kernel) (da_cons (de_var 2) da_nil))) (de_var 6)) da_nil))))))
    (db_one (ds_ret (call_P (ok_laid T) (hr.mono (by decide)) rfl (da_cons (de_var 4) (da_cons (call_P (ok_slots_in T) (hr.mono (by decide)) rfl (da_cons (de_var 0) da_nil)) da_nil))))))))
/-! #### page_fault -/
abbrev n_page_fault : List Str := ["page", "at", "byte", "slots", "low", "slot", "begin", "length"]
theorem sc_page_fault : FnScope n_page_fault ["page"] (defScope s_page_fault) := ⟨rfl, rfl, rfl, by decide +kernel, rfl, by decide +kernel, by decide +kernel⟩
def lb_page_fault_1 : MS Unit := (mIfS (mNot (mChainT dLeI dLtI (mC (.int 0)) (mVar 2) (mC (.int 256))))
    (mRet (mTup (mCons (mC (.str "byte")) (mCons (mVar 1) mNil))))
    mSkip)
def lb_page_fault_2 : MS Unit := (mSeq (mAsg (bTup 2 (bCons (bName 6) (bCons (bName 7) bNil))) (mCall F_slot_of (mCons (mVar 0) (mCons (mVar 5) mNil))))
    (mIfS (mOpT dEq (mVar 7) (mC (.int 0)))
    (mIfS (mOpT dNe (mVar 6) (mC (.int 0)))
    (mRet (mTup (mCons (mC (.str "slot")) (mCons (mVar 5) mNil))))
    mSkip)
    (mSeq (mSet 4 (mOp dSub (mVar 4) (mVar 7)))
    (mIfS (mOpT dNe (mVar 6) (mVar 4))
    (mRet (mTup (mCons (mC (.str "slot")) (mCons (mVar 5) mNil))))
    mSkip))))
def m_page_fault : MS Unit := (mSeq (mIfS (mOpT dNe (mCall dLen (mCons (mVar 0) mNil)) (mC (.int 256)))
    (mRet (mTup (mCons (mC (.str "size")) mNil)))
    mSkip)
    (mSeq (mFor (mEnum (mCons (mVar 0) mNil)) (bTup 2 (bCons (bName 1) (bCons (bName 2) bNil))) lb_page_fault_1)
    (mSeq (mSet 3 (mOp dIx (mVar 0) (mC (.int 0))))
    (mSeq (mIfS (mOpT dGtI (mOp dAdd (mOp dAdd (mC (.int 2)) (mOp dMul (mC (.int 2)) (mVar 3))) (mOp dIx (mVar 0) (mC (.int 1)))) (mC (.int 256)))
    (mRet (mTup (mCons (mC (.str "slots")) mNil)))
    mSkip)
    (mSeq (mSet 4 (mC (.int 256)))
    (mSeq (mFor (mRng1 (mCons (mVar 3) mNil)) (bName 5) lb_page_fault_2)
    (mSeq (mIfS (mOpT dNe (mOp dIx (mVar 0) (mC (.int 1))) (mOp dSub (mC (.int 256)) (mVar 4)))
    (mRet (mTup (mCons (mC (.str "used")) mNil)))
    mSkip)
    (mSeq (mIfS (mAnd (mOpT dGtI (mVar 3) (mC (.int 0))) (mOpT dEq (mOp dIx (mCall F_slot_of (mCons (mVar 0) (mCons (mOp dSub (mVar 3) (mC (.int 1))) mNil))) (mC (.int 1))) (mC (.int 0))))
    (mRet (mTup (mCons (mC (.str "last")) mNil)))
    mSkip)
    (mSeq (mIfS (mTru (mCall dAny (mCons (mL (mComp (mItL (mL (mSlL (mVar 0) (mPart (mOp dAdd (mC (.int 2)) (mOp dMul (mC (.int 2)) (mVar 3)))) (mPart (mVar 4))))) [2] (bName 2) mYes (mOp dNe (mVar 2) (mC (.int 0))))) mNil)))
    (mRet (mTup (mCons (mC (.str "rest")) mNil)))
    mSkip)
    (mRet (mC .none)))))))))))
def F_page_fault : List D → Option D := runP 8 1 m_page_fault
theorem ok_page_fault (T : Txt K mg) : Def1 P wd K mg base "page_fault" ["page"] 2 (spP K F_page_fault) := def_pure T.d_page_fault sc_page_fault fun f cdv A outer s H E hr =>
    (db_cons (ds_if (dt_cmp (op_neD (hu64 hr)) od_ne (de_callB call_len cd_len rfl T.z_len (by decide +kernel) (da_cons (de_var 0) da_nil)) (de_cst T.c_SIZE) (nomark _))
    (db_one (ds_ret (de_tup (da_cons de_str da_nil))))
    db_nil)
    (db_cons (ds_for PassesOwn.never rfl (di_enum rfl T.z_enumerate (da_cons (de_var 0) da_nil)) (dg_tup rfl (dgs_cons (dg_name (i := 1) sc_page_fault.nd rfl (by first | exact Or.inl rfl | exact Or.inr rfl)) (dgs_cons (dg_name (i := 2) sc_page_fault.nd rfl (by first | exact Or.inl rfl | exact Or.inr rfl)) dgs_nil)))
    (db_one (ds_if (dt_not (dt_chain op_le od_leI op_lt od_ltI de_int (de_var 2) de_int))
    (db_one (ds_ret (de_tup (da_cons de_str (da_cons (de_var 1) da_nil)))))
    db_nil)))
    (db_cons (ds_set (i := 3) sc_page_fault.nd rfl (by first | exact Or.inl rfl | exact Or.inr rfl) (de_ix (de_var 0) de_int))
    (db_cons (ds_if (dt_cmp op_gt od_gtI (de_op op_addD od_addD (de_op op_addD od_addD (de_cst T.c_AHEAD) (de_op op_mul od_mul de_int (de_var 3))) (de_ix (de_var 0) de_int)) (de_cst T.c_SIZE) (nomark _))
    (db_one (ds_ret (de_tup (da_cons de_str da_nil))))
    db_nil)
    (db_cons (ds_set (i := 4) sc_page_fault.nd rfl (by first | exact Or.inl rfl | exact Or.inr rfl) (de_cst T.c_SIZE))
    (db_cons (ds_for PassesOwn.never rfl (di_range1 rfl T.z_range (da_cons (de_var 3) da_nil)) (dg_name (i := 5) sc_page_fault.nd rfl (by first | exact Or.inl rfl | exact Or.inr rfl))
    (db_cons (ds_asg (call_P (ok_slot_of T) (hr.mono (by decide)) rfl (da_cons (de_var 0) (da_cons (de_var 5) da_nil))) (dg_tup rfl (dgs_cons (dg_name (i := 6) sc_page_fault.nd rfl (by first | exact Or.inl rfl | exact Or.inr rfl)) (dgs_cons (dg_name (i := 7) sc_page_fault.nd rfl (by first | exact Or.inl rfl | exact Or.inr rfl)) dgs_nil))))
    (db_one (ds_if (dt_cmp (op_eqD (hu64 hr)) od_eq (de_var 7) de_int (nomark _))
    (db_one (ds_if (dt_cmp (op_neD (hu64 hr)) od_ne (de_var 6) de_int (nomark _))
    (db_one (ds_ret (de_tup (da_cons de_str (da_cons (de_var 5) da_nil)))))
    db_nil))
    (db_cons (ds_set (i := 4) sc_page_fault.nd rfl (by first | exact Or.inl rfl | exact Or.inr rfl) (de_op op_sub od_sub (de_var 4) (de_var 7)))
    (db_one (ds_if (dt_cmp (op_neD (hu64 hr)) od_ne (de_var 6) (de_var 4) (nomark _))
    (db_one (ds_ret (de_tup (da_cons de_str (da_cons (de_var 5) da_nil)))))
    db_nil)))))))
    (db_cons (ds_if (dt_cmp (op_neD (hu64 hr)) od_ne (de_ix (de_var 0) de_int) (de_op op_sub od_sub (de_cst T.c_SIZE) (de_var 4)) (nomark _))
    (db_one (ds_ret (de_tup (da_cons de_str da_nil))))
    db_nil)
    (db_cons (ds_if (PW.pt (dw_and (dt_cmp op_gt od_gtI (de_var 3) de_int (nomark _)) (dw_and1 (dt_cmp (op_eqD (hu64 hr)) od_eq (de_ix (call_P (ok_slot_of T) (hr.mono (by decide)) rfl (da_cons (de_var 0) (da_cons (de_op op_sub od_sub (de_var 3) de_int) da_nil))) de_int) de_int (nomark _)))))
    (db_one (ds_ret (de_tup (da_cons de_str da_nil))))
    db_nil)
    (db_cons (ds_if (dt_tru (de_callB (cr_any rfl) cd_any rfl T.z_any (by decide +kernel) (da_cons (de_fresh (df_comp (own := [("byte", 2)]) rfl sc_page_fault.nd (di_list (de_fresh (df_slice (de_var 0) (do_some (de_op op_addD od_addD (de_cst T.c_AHEAD) (de_op op_mul od_mul de_int (de_var 3)))) (do_some (de_var 4))))) (blkOk_by (N := n_page_fault) (sc := defScope s_page_fault) (by decide +kernel)) (fun _ _ _ _ _ => (dg_name (i := 2) sc_page_fault.nd rfl (by first | exact Or.inl rfl | exact Or.inr rfl))) (fun _ _ _ _ _ => dts_nil) (fun _ _ _ _ _ => (de_cmp (op_neD (hu64 hr)) od_ne (de_var 2) de_int (nomark _))))) da_nil)))
    (db_one (ds_ret (de_tup (da_cons de_str da_nil))))
    db_nil)
    (db_one (ds_ret de_non)))))))))))
/-! #### fits_all -/
abbrev n_fits_all : List Str := ["rows", "row"]
theorem sc_fits_all : FnScope n_fits_all ["rows"] (defScope s_fits_all) := ⟨rfl, rfl, rfl, by decide +kernel, rfl, by decide +kernel, by decide +kernel⟩
def m_fits_all : MS Unit := (mRet (mOp dLeI (mCall dSum (mCons (mL (mComp (mItL (mVar 0)) [1] (bName 1) mYes (mOp dAdd (mCall dLen (mCons (mVar 1) mNil)) (mC (.int 2))))) mNil)) (mOp dSub (mC (.int 256)) (mC (.int 2)))))
def F_fits_all : List D → Option D := runP 2 1 m_fits_all
theorem ok_fits_all (T : Txt K mg) : Def1 P wd K mg base "fits_all" ["rows"] 1 (spP K F_fits_all) := def_pure T.d_fits_all sc_fits_all fun f cdv A outer s H E hr =>
    (db_one (ds_ret (de_cmp op_le od_leI (de_callB (cr_sum rfl) cd_sum rfl T.z_sum (by decide +kernel) (da_cons (de_fresh (df_comp (own := [("row", 1)]) rfl sc_fits_all.nd (di_list (de_var 0)) (blkOk_by (N := n_fits_all) (sc := defScope s_fits_all) (by decide +kernel)) (fun _ _ _ _ _ => (dg_name (i := 1) sc_fits_all.nd rfl (by first | exact Or.inl rfl | exact Or.inr rfl))) (fun _ _ _ _ _ => dts_nil) (fun _ _ _ _ _ => (de_op op_addD od_addD (de_callB call_len cd_len rfl T.z_len (by decide +kernel) (da_cons (de_var 1) da_nil)) de_int)))) da_nil)) (de_op op_sub od_sub (de_cst T.c_SIZE) (de_cst T.c_AHEAD)) (nomark _))))
/-! #### pages_for -/
abbrev n_pages_for : List Str := ["rows", "pages", "places", "row", "able", "at", "page", "slot"]
theorem sc_pages_for : FnScope n_pages_for ["rows"] (defScope s_pages_for) := ⟨rfl, rfl, rfl, by decide +kernel, rfl, by decide +kernel, by decide +kernel⟩
def lb_pages_for_1 : MS Unit := (mSeq (mThen (mSetF 4 (mLendF [1, 2] (mComp (mEnum (mCons (mVar 1) mNil)) [5, 6] (bTup 2 (bCons (bName 5) (bCons (bName 6) bNil))) (mOpT dLeI (mCall dLen (mCons (mVar 3) mNil)) (mCall F_room_in (mCons (mVar 6) mNil))) (mVar 5)))) 4)
    (mSeq (mIfS (mNot (mTru (mVar 4)))
    (mSeq (mApp 1 (mL (mCallF F_empty_page mNil)))
    (mSet 4 (mL (mLst (mCons (mOp dSub (mLend [1, 2] (mCall dLen (mCons (mVar 1) mNil))) (mC (.int 1))) mNil)))))
    mSkip)
    (mSeq (mAsg (bTup 2 (bCons (bSub 1 (mOp dIx (mVar 4) (mC (.int 0)))) (bCons (bName 7) bNil))) (mCall F_put_in (mCons (mIxOw 1 (mOp dIx (mVar 4) (mC (.int 0)))) (mCons (mVar 3) mNil))))
    (mApp 2 (mTup (mCons (mOp dIx (mVar 4) (mC (.int 0))) (mCons (mVar 7) mNil)))))))
def m_pages_for : MS Unit := (mSeq (mSetF 1 (mLst mNil))
    (mSeq (mSetF 2 (mLst mNil))
    (mSeq (mFor (mItL (mVar 0)) (bName 3) lb_pages_for_1)
    (mFrz 1 (mFrz 2 (mRet (mTup (mCons (mVar 1) (mCons (mVar 2) mNil)))))))))
def F_pages_for : List D → Option D := runP 8 1 m_pages_for
theorem ok_pages_for (T : Txt K mg) : Def1 P wd K mg base "pages_for" ["rows"] 5 (spP K F_pages_for) := def_pure T.d_pages_for sc_pages_for fun f cdv A outer s H E hr =>
    (db_cons (ds_setF (i := 1) sc_pages_for.nd rfl (by first | exact Or.inl rfl | exact Or.inr rfl) (df_lst da_nil))
    (db_cons (ds_setF (i := 2) sc_pages_for.nd rfl (by first | exact Or.inl rfl | exact Or.inr rfl) (df_lst da_nil))
    (db_cons (ds_for PassesOwn.never rfl (di_list (de_var 0)) (dg_name (i := 3) sc_pages_for.nd rfl (by first | exact Or.inl rfl | exact Or.inr rfl))
    (db_cons (ds_then 4 (ds_setLcL [1, 2] (own := [("at", 5), ("page", 6)]) rfl sc_pages_for.nd rfl rfl (sw_true rfl rfl rfl (by decide +kernel)) (di_enum rfl T.z_enumerate (da_cons (de_var 1) da_nil)) (blkOk_by (N := n_pages_for) (sc := defScope s_pages_for) (by decide +kernel)) (fun _ _ _ _ _ => (dg_tup rfl (dgs_cons (dg_name (i := 5) sc_pages_for.nd rfl (by first | exact Or.inl rfl | exact Or.inr rfl)) (dgs_cons (dg_name (i := 6) sc_pages_for.nd rfl (by first | exact Or.inl rfl | exact Or.inr rfl)) dgs_nil)))) (fun _ _ _ _ _ => (dts_one (dt_cmp op_le od_leI (de_callB call_len cd_len rfl T.z_len (by decide +kernel) (da_cons (de_var 3) da_nil)) (call_P (ok_room_in T) (hr.mono (by decide)) rfl (da_cons (de_var 6) da_nil)) (nomark _)))) (fun _ _ _ _ _ => (de_var 5))))
    (db_cons (ds_if (dt_not (dt_tru (de_var 4)))
    (db_cons (ds_append 1 (de_fresh (call_N0 (ok_empty_page T) (hr.mono (by decide)) rfl)))
    (db_one (ds_set (i := 4) sc_pages_for.nd rfl (by first | exact Or.inl rfl | exact Or.inr rfl) (de_fresh (df_lst (da_cons (de_op op_sub od_sub (de_lend [1, 2] (de_callB call_len cd_len rfl T.z_len (by decide +kernel) (da_cons (de_var 1) da_nil))) de_int) da_nil))))))
    db_nil)
    (db_cons (ds_asg (call_P (ok_put_in T) (hr.mono (by decide)) rfl (da_cons (de_ixOw 1 (de_ix (de_var 4) de_int)) (da_cons (de_var 3) da_nil))) (dg_tup rfl (dgs_cons (dg_sub 1 (de_ix (de_var 4) de_int)) (dgs_cons (dg_name (i := 7) sc_pages_for.nd rfl (by first | exact Or.inl rfl | exact Or.inr rfl)) dgs_nil))))
    (db_one (ds_append 2 (de_tup (da_cons (de_ix (de_var 4) de_int) (da_cons (de_var 7) da_nil)))))))))
    (db_one (ds_frz 1 (ds_frz 2 (ds_ret (de_tup (da_cons (de_var 1) (da_cons (de_var 2) da_nil))))))))))
/-! #### the list of draws -/
abbrev n__law_state : List Str := ["script", "cells", "cell"]
theorem sc__law_state : FnScope n__law_state ["script"] (defScope s__law_state) := ⟨rfl, rfl, rfl, by decide +kernel, rfl, by decide +kernel, by decide +kernel⟩
theorem ok__law_state (T : Txt K mg) : Def1 P wd K mg base "_law_state" ["script"] 1 (spState K) := by
  obtain ⟨f, fd, F, hm, hB⟩ := T.d__law_state.ex
  refine ⟨f, fd, F.ok sc__law_state (fun vs H Q E h => ?_) (fun cdv A outer s H vs Q E hr h => ?_), hm, F.kp, hB⟩
  · obtain ⟨a, ns, rfl, _⟩ := h
    rfl
  · obtain ⟨a, ns, rfl, hS, hl, kk⟩ := h
    refine ⟨_, pss_cons (ps_setLc (i := 1) (own := [("cell", 2)]) rfl sc__law_state.nd rfl rfl (sw_true rfl rfl rfl (by decide +kernel)) (pi_list (pe_slice sl_list (pv 0) po_none (po_some pe_int))) (blkOk_by (N := n__law_state) (sc := defScope s__law_state) (by decide +kernel))
        (fun _ _ _ _ _ => pg_name (i := 2) sc__law_state.nd rfl (by first | exact Or.inl rfl | exact Or.inr rfl)) (fun _ _ _ _ _ => pts_nil) (fun _ _ _ _ _ => pe_callB call_abs (by rfl) T.z_abs (by decide +kernel) (pa_cons (pv 2) pa_nil)))
      (pss_cons (ps_if (pt_cmpR op_eq (pe_callB call_len_seq (by rfl) T.z_len PySem.boot_len (pa_cons (pv 1) pa_nil)) pe_int (nomark _))
        (pss_one (ps_set (i := 1) sc__law_state.nd rfl (.inl rfl) (pe_lst (pa_cons pe_int pa_nil)))) pss_nil)
      (pss_one (ps_ret (pe_lst (pa_cons pe_int (pa_cons (pv 1) pa_nil)))))), ?_⟩
    obtain ⟨ms, em, hml⟩ := cut_ints ns none (some 63)
    refine ⟨_, rfl, _, rfl, a, _, rfl, hS, fun p hp => ?_⟩
    rw [em]
    refine ⟨p, rfl, ⟨_, SqL.of upd_same⟩, fun D hD => ?_⟩
    have npD : p ≠ D := fun z => by rw [← z, upd_same] at hD; cases hD
    have hD0 : H D = none := by rw [upd_ne npD.symm] at hD; exact hD
    refine lc_list (K := K) (a := p) (xs := ms.map V.int) (fun i H2 => ∃ cs : List Int, cs.length = i ∧ H2 D = some (.lst (cs.map V.int)) ∧ H2 p = some (.lst (ms.map V.int)) ∧ ∀ b, b ≠ p → b ≠ D → H2 b = H b)
      ⟨[], rfl, upd_same, by rw [upd_ne npD, upd_same], fun b h1 h2 => by rw [upd_ne h2, upd_ne h1]⟩ (fun i H2 _ ⟨cs, _, _, h2, _⟩ => SqL.of h2) ?_ ?_
    · rintro i x H2 hx ⟨cs, hc, h1, h2, h3⟩
      have hil : i < (ms.map V.int).length := (List.getElem?_eq_some_iff.mp hx).1
      rw [List.length_map] at hil
      rw [List.getElem?_map, List.getElem?_eq_getElem hil] at hx
      cases hx
      refine ⟨rfl, _, rfl, _, rfl, _, h1, ?_, cs ++ [if ms[i] < 0 then -ms[i] else ms[i]], ?_, ?_, ?_, fun b g1 g2 => ?_⟩
      · rw [List.length_map]; have : (63 : Nat) < sizeLine := by decide
        omega
      · rw [List.length_append, hc]; rfl
      · rw [upd_same, List.map_append]; rfl
      · rw [upd_ne npD]; exact h2
      · rw [upd_ne g2]; exact h3 b g1 g2
    · rintro H2 ⟨cs, hc, h1, h2, h3⟩
      rw [List.length_map] at hc
      have nD : H2 D ≠ none := by rw [h1]; simp
      have fin : ∀ (c : Addr) (cs : List Int) (H3 : Hp) (q : Addr), H c = none → 0 < cs.length → cs.length ≤ 63 → H3 c = some (.lst (cs.map V.int)) → H3 q = none → (∀ b, b ≠ p → b ≠ D → b ≠ c → H3 b = H b) → H3 p ≠ none → H3 D ≠ none →
          Q (.ref q) (upd H3 q (.lst [.int 0, .ref c])) := fun c cs H3 q hc0 k1 k2 k3 k4 k5 k6 k7 => by
        have q1 : q ≠ p := fun z => k6 (z ▸ k4)
        have q2 : q ≠ D := fun z => k7 (z ▸ k4)
        have q3 : q ≠ c := fun z => by rw [z, k3] at k4; cases k4
        refine kk ⟨q, c, 0, cs⟩ _ ((k5 q q1 q2 q3).symm.trans k4) hc0 ⟨q3, upd_same, by show upd H3 q _ c = _; rw [upd_ne q3.symm]; exact k3, k1, k2⟩ fun b o e => ?_
        have b1 : b ≠ p := fun z => by rw [z, hp] at e; cases e
        have b2 : b ≠ D := fun z => by rw [z, hD0] at e; cases e
        have b3 : b ≠ c := fun z => by rw [z, hc0] at e; cases e
        have b4 : b ≠ q := fun z => by rw [z, ← k5 q q1 q2 q3, k4] at e; cases e
        rw [upd_ne b4, k5 b b1 b2 b3]; exact e
      refine ⟨_, rfl, _, _, rfl, .inl (SqL.of h1), rfl, _, rfl, ?_⟩
      rw [dec_int]
      by_cases hz : cs.length = 0
      · refine iteT' ?_ ?_
        · rw [List.length_map, hz]; rfl
        · refine ⟨(by show 1 ≤ sizeLine; decide), fun r hr0 => ⟨_, rfl, (by show 2 ≤ sizeLine; decide), fun q hq => ?_⟩⟩
          have hrp : r ≠ p := fun z => by rw [z, h2] at hr0; cases hr0
          have hrD : r ≠ D := fun z => by rw [z, h1] at hr0; cases hr0
          refine fin r [0] _ q ((h3 r hrp hrD).symm.trans hr0) (by decide) (by decide) upd_same hq (fun b b1 b2 b3 => by rw [upd_ne b3]; exact h3 b b1 b2) ?_ ?_
          · rw [upd_ne hrp.symm, h2]; simp
          · rw [upd_ne hrD.symm, h1]; simp
      · refine iteF' ?_ ?_
        · rw [List.length_map]; exact beq_false_of_ne (by omega)
        · refine ⟨_, rfl, (by show 2 ≤ sizeLine; decide), fun q hq => fin D cs H2 q hD0 (by omega) (by omega) h1 hq (fun b b1 b2 _ => h3 b b1 b2) (by rw [h2]; simp) nD⟩

/-! #### the draws -/
abbrev n__law_take : List Str := ["state", "most", "cells", "at", "cell", "mixed"]
theorem sc__law_take : FnScope n__law_take ["state", "most"] (defScope s__law_take) := ⟨rfl, rfl, rfl, by decide +kernel, rfl, by decide +kernel, by decide +kernel⟩
theorem ok__law_take (T : Txt K mg) : Def1 P wd K mg base "_law_take" ["state", "most"] 1 (spG K drA drawA) := by
  obtain ⟨f, fd, F, hm, hB⟩ := T.d__law_take.ex
  refine ⟨f, fd, F.ok sc__law_take (fun vs H Q E h => ?_) (fun cdv A outer s H vs Q E hr h => ?_), hm, F.kp, hB⟩
  · obtain ⟨I, g, as, d, g', _, _, _, ra, e, _⟩ := h
    obtain ⟨most, rfl, _⟩ := drawA_some e
    exact ra.len
  · obtain ⟨I, g, as, d, g', sI, ok, fI, ra, e, kk⟩ := h
    obtain ⟨most, rfl, h0, h1, rfl, rfl⟩ := drawA_some e
    obtain ⟨ne, hs, hc, hl, hl63⟩ := id ok
    obtain ⟨v0, v1, rfl, rfl, rfl⟩ : ∃ v0 v1, vs = [v0, v1] ∧ v0 = .ref g.s ∧ v1 = .int most := by
      cases ra with
      | cons a b => cases b with
        | cons b c => cases c; cases b; exact ⟨_, _, rfl, a, rfl⟩
    obtain ⟨j, ej, hj⟩ := fmod_ix (n := g.n) hl
    have hjl : j < (g.cells.map V.int).length := by rw [List.length_map]; exact hj
    have hcell : (g.cells.map V.int)[j]? = some (.int (g.cells.getD j 0)) := by
      rw [List.getElem?_map, List.getD_eq_getElem?_getD, List.getElem?_eq_getElem hj]; rfl
    have hat : atI (g.cells.map V.int) (g.n.fmod (g.cells.length : Int)) = some (.int (g.cells.getD j 0)) := by rw [ej]; exact atI_nat hcell
    have hix : ixN (g.cells.map V.int).length (g.n.fmod (g.cells.length : Int)) = some j := by
      rw [ej]
      unfold ixN
      rw [if_pos (by omega), if_pos (by omega)]; simp
    have hlen : ((g.cells.map V.int).length : Int) = (g.cells.length : Int) := by rw [List.length_map]
    refine ⟨_, pss_cons (ps_set (i := 2) sc__law_take.nd rfl (.inl rfl) (pe_ix ix_list (pv 0) pe_int (fun _ _ => rfl)))
      (pss_cons (ps_set (i := 3) sc__law_take.nd rfl (.inl rfl) (pe_op op_modN (pe_ix ix_list (pv 0) pe_int (fun _ _ => rfl)) (pe_callB call_len_seq (by rfl) T.z_len PySem.boot_len (pa_cons (pv 2) pa_nil))))
      (pss_cons (ps_set (i := 4) sc__law_take.nd rfl (.inl rfl) (pe_ix ix_list (pv 2) (pv 3) (fun _ _ => rfl)))
      (pss_cons (ps_if (pt_cmpR op_ge (pv 4) pe_int (nomark _))
        (pss_cons (ps_asg (pe_op op_fdivN (pv 4) (pv 1)) (pg_sub (pv 2) (pv 3) set_list)) (pss_one (ps_ret (pe_op op_modN (pv 4) (pv 1))))) pss_nil)
      (pss_cons (ps_asg (pe_op op_add (pe_ix ix_list (pv 0) pe_int (fun _ _ => rfl)) pe_int) (pg_sub (pv 0) pe_int set_list))
      (pss_cons (ps_set (i := 5) sc__law_take.nd rfl (.inl rfl) (pe_op op_modN (pe_callTy call_int1 (by rfl) T.z_int (by decide +kernel) (pa_cons (pe_op op_add (pe_op op_mul (pv 4) pe_int) (pe_op op_mul (pe_ix ix_list (pv 0) pe_int (fun _ _ => rfl)) pe_int)) pa_nil)) pe_int))
      (pss_cons (ps_set (i := 5) sc__law_take.nd rfl (.inl rfl) (pe_op op_modN (pe_callTy call_int1 (by rfl) T.z_int (by decide +kernel) (pa_cons (pe_op op_add (pe_op op_mul (pv 5) pe_int) (pe_op op_mul (pe_ix ix_list (pv 0) pe_int (fun _ _ => rfl)) pe_int)) pa_nil)) pe_int))
      (pss_one (ps_ret (pe_op op_modN (pe_op op_fdivN (pv 5) pe_int) (pv 1)))))))))), ?_⟩
    refine ⟨_, rfl, _, _, _, _, rfl, rfl, SqL.of hs, rfl, ?_⟩
    refine ⟨_, rfl, _, _, _, _, rfl, rfl, SqL.of hs, rfl, _, rfl, _, _, rfl, .inl (SqL.of hc), _, _, rfl, rfl, by rw [hlen]; omega, ?_⟩
    rw [hlen]
    refine ⟨_, rfl, _, rfl, _, _, _, _, rfl, rfl, SqL.of hc, hat, ?_⟩
    refine ⟨_, rfl, _, _, rfl, rfl, _, rfl, ?_⟩
    have etk : ∀ c : Int, c = g.cells.getD j 0 → g.cells.getD (g.n.fmod (g.cells.length : Int)).toNat 0 = c := fun c hc => by rw [ej, Int.toNat_natCast, hc]
    by_cases hbig : (1000000000000000000 : Int) ≤ g.cells.getD j 0
    · rw [decide_eq_true hbig]
      refine iteT ?_
      refine ⟨_, rfl, _, rfl, _, _, rfl, rfl, ⟨by omega, by omega⟩, _, rfl, _, rfl, _, _, _, _, rfl, rfl, hc, hix, ?_⟩
      refine ⟨_, rfl, _, rfl, _, _, rfl, rfl, by omega, ?_⟩
      have et : g.take most = ((g.cells.getD j 0).fmod most, { g with cells := g.cells.set j ((g.cells.getD j 0).fdiv most) }) := by
        unfold Dr.take
        simp only [etk _ rfl]
        rw [if_neg (by omega), ej, Int.toNat_natCast]
      rw [et] at kk
      have e1 : (g.cells.map V.int).set j (.int ((g.cells.getD j 0).fdiv most)) = (g.cells.set j ((g.cells.getD j 0).fdiv most)).map V.int := by rw [List.map_set]
      refine kk _ I _ (dr_gst sI ok rfl rfl ⟨ne, by rw [upd_ne ne]; exact hs, by rw [upd_same, e1], by rw [List.length_set]; exact hl, by rw [List.length_set]; exact hl63⟩ fI fun a h1 h2 => upd_ne h2) (.int _)
    · rw [decide_eq_false hbig]
      refine iteF ?_
      refine ⟨_, rfl, _, _, _, _, rfl, rfl, SqL.of hs, rfl, _, _, rfl, rfl, _, rfl, _, _, _, _, rfl, rfl, hs, rfl, ?_⟩
      have hs2 : (upd H g.s (HO.lst [.int (g.n + 1), .ref g.c])) g.s = some (.lst [.int (g.n + 1), .ref g.c]) := upd_same
      refine ⟨_, rfl, _, _, rfl, rfl, .inr ⟨by decide, by decide⟩, _, rfl, _, _, _, _, rfl, rfl, SqL.of hs2, rfl, _, _, rfl, rfl, .inr ⟨by decide, by decide⟩, _, _, rfl, rfl, .inl ⟨_, rfl, _, _, rfl, rfl, (by show (2147483647:Int) ≠ 0; decide), ?_⟩⟩
      refine ⟨_, rfl, _, _, rfl, rfl, .inr ⟨by decide, by decide⟩, _, rfl, _, _, _, _, rfl, rfl, SqL.of hs2, rfl, _, _, rfl, rfl, .inr ⟨by decide, by decide⟩, _, _, rfl, rfl, .inl ⟨_, rfl, _, _, rfl, rfl, (by show (1000000007:Int) ≠ 0; decide), ?_⟩⟩
      refine ⟨_, rfl, _, _, rfl, rfl, ⟨by decide, by decide⟩, _, rfl, _, _, rfl, rfl, by omega, ?_⟩
      have et : g.take most = (((((((g.cells.getD j 0) * 48271 + (g.n + 1) * 69621).fmod 2147483647) * 16807 + (g.n + 1) * 7919).fmod 1000000007).fdiv 7).fmod most, { g with n := g.n + 1 }) := by
        unfold Dr.take
        simp only [etk _ rfl]
        rw [if_pos (by omega)]
      rw [et] at kk
      refine kk _ I _ (dr_gst sI ok rfl rfl ⟨ne, upd_same, by rw [upd_ne ne.symm]; exact hc, hl, hl63⟩ fI fun a h1 h2 => upd_ne h1) (.int _)

/-! #### _law_laid -/
abbrev n__law_laid : List Str := ["rows", "slots", "page", "low", "slot", "row", "k"]
theorem sc__law_laid : FnScope n__law_laid ["rows", "slots"] (defScope s__law_laid) := ⟨rfl, rfl, rfl, by decide +kernel, rfl, by decide +kernel, by decide +kernel⟩
def lb__law_laid_1 : MS Unit := (mSetIx 2 (mOp dAdd (mVar 3) (mVar 6)) (mOp dIx (mVar 5) (mVar 6)))
def lb__law_laid_2 : MS Unit := (mSeq (mSet 3 (mOp dSub (mVar 3) (mCall dLen (mCons (mVar 5) mNil))))
    (mSeq (mAsg (bTup 2 (bCons (bSub 2 (mOp dAdd (mC (.int 2)) (mOp dMul (mC (.int 2)) (mVar 4)))) (bCons (bSub 2 (mOp dAdd (mC (.int 3)) (mOp dMul (mC (.int 2)) (mVar 4)))) bNil))) (mTup (mCons (mVar 3) (mCons (mCall dLen (mCons (mVar 5) mNil)) mNil))))
    (mFor (mRng1 (mCons (mCall dLen (mCons (mVar 5) mNil)) mNil)) (bName 6) lb__law_laid_1)))
def m__law_laid : MS Unit := (mSeq (mSetF 2 (mRep (mL (mLst (mCons (mC (.int 0)) mNil))) (mC (.int 256))))
    (mSeq (mAsg (bTup 2 (bCons (bSub 2 (mC (.int 0))) (bCons (bName 3) bNil))) (mTup (mCons (mVar 1) (mCons (mC (.int 256)) mNil))))
    (mSeq (mFor (mItL (mVar 0)) (bTup 2 (bCons (bName 4) (bCons (bName 5) bNil))) lb__law_laid_2)
    (mSeq (mSetIx 2 (mC (.int 1)) (mOp dSub (mC (.int 256)) (mVar 3)))
    (mRetOw 2)))))
def F__law_laid : List D → Option D := runP 7 2 m__law_laid
theorem ok__law_laid (T : Txt K mg) : Def1 P wd K mg base "_law_laid" ["rows", "slots"] 1 (spP K F__law_laid) := def_pure T.d__law_laid sc__law_laid fun f cdv A outer s H E hr =>
    (db_cons (ds_setF (i := 2) sc__law_laid.nd rfl (by first | exact Or.inl rfl | exact Or.inr rfl) (df_rep (de_fresh (df_lst (da_cons de_int da_nil))) de_int))
    (db_cons (ds_asg (de_tup (da_cons (de_var 1) (da_cons de_int da_nil))) (dg_tup rfl (dgs_cons (dg_sub 2 de_int) (dgs_cons (dg_name (i := 3) sc__law_laid.nd rfl (by first | exact Or.inl rfl | exact Or.inr rfl)) dgs_nil))))
    (db_cons (ds_for PassesOwn.never rfl (di_list (de_var 0)) (dg_tup rfl (dgs_cons (dg_name (i := 4) sc__law_laid.nd rfl (by first | exact Or.inl rfl | exact Or.inr rfl)) (dgs_cons (dg_name (i := 5) sc__law_laid.nd rfl (by first | exact Or.inl rfl | exact Or.inr rfl)) dgs_nil)))
    (db_cons (ds_set (i := 3) sc__law_laid.nd rfl (by first | exact Or.inl rfl | exact Or.inr rfl) (de_op op_sub od_sub (de_var 3) (de_callB call_len cd_len rfl T.z_len (by decide +kernel) (da_cons (de_var 5) da_nil))))
    (db_cons (ds_asg (de_tup (da_cons (de_var 3) (da_cons (de_callB call_len cd_len rfl T.z_len (by decide +kernel) (da_cons (de_var 5) da_nil)) da_nil))) (dg_tup rfl (dgs_cons (dg_sub 2 (de_op op_addD od_addD de_int (de_op op_mul od_mul de_int (de_var 4)))) (dgs_cons (dg_sub 2 (de_op op_addD od_addD de_int (de_op op_mul od_mul de_int (de_var 4)))) dgs_nil))))
    (db_one (ds_for PassesOwn.never rfl (di_range1 rfl T.z_range (da_cons (de_callB call_len cd_len rfl T.z_len (by decide +kernel) (da_cons (de_var 5) da_nil)) da_nil)) (dg_name (i := 6) sc__law_laid.nd rfl (by first | exact Or.inl rfl | exact Or.inr rfl))
    (db_one (ds_setIx 2 (de_op op_addD od_addD (de_var 3) (de_var 6)) (de_ix (de_var 5) (de_var 6)))))))))
    (db_cons (ds_setIx 2 de_int (de_op op_sub od_sub de_int (de_var 3)))
    (db_one (ds_retOw 2))))))
/-! #### _law_row -/
abbrev n__law_row : List Str := ["state", "size", "k"]
theorem sc__law_row : FnScope n__law_row ["state"] (defScope s__law_row) := ⟨rfl, rfl, rfl, by decide +kernel, rfl, by decide +kernel, by decide +kernel⟩
def m__law_row : MS Dr := (mSeq (mSet 1 (mOp dAdd (mOp dIx (mL (mLst (mCons (mC (.int 1)) (mCons (mC (.int 3)) (mCons (mC (.int 20)) (mCons (mC (.int 60)) (mCons (mC (.int 120)) (mCons (mC (.int 253)) mNil)))))))) (mCallG drawA (gConsS 0 (gCons (mC (.int 6)) gNil)))) (mCallG drawA (gConsS 0 (gCons (mC (.int 3)) gNil)))))
    (mRetF (mComp (mRng1 (mCons (mVar 1) mNil)) [2] (bName 2) mYes (mOp dMod (mOp dAdd (mCallG drawA (gConsS 0 (gCons (mC (.int 256)) gNil))) (mOp dMul (mC (.int 7)) (mVar 2))) (mC (.int 256))))))
def F__law_row : List SV → Dr → Option (D × Dr) := runG 3 1 m__law_row
theorem ok__law_row (T : Txt K mg) : Def1 P wd K mg base "_law_row" ["state"] 2 (spG K drA F__law_row) := def_ghost T.d__law_row sc__law_row fun f cdv A outer s H E hr =>
    (db_cons (ds_set (i := 1) sc__law_row.nd rfl (by first | exact Or.inl rfl | exact Or.inr rfl) (de_op op_addD od_addD (de_ix (de_fresh (df_lst (da_cons de_int (da_cons de_int (da_cons de_int (da_cons de_int (da_cons de_int (da_cons de_int da_nil)))))))) (call_G (ok__law_take T) (hr.mono (by decide)) rfl (dg_st (i := 0) (dg_cons de_int dg_nil)))) (call_G (ok__law_take T) (hr.mono (by decide)) rfl (dg_st (i := 0) (dg_cons de_int dg_nil)))))
    (db_one (ds_retF (df_comp (own := [("k", 2)]) rfl sc__law_row.nd (di_range1 rfl T.z_range (da_cons (de_var 1) da_nil)) (blkOk_by (N := n__law_row) (sc := defScope s__law_row) (by decide +kernel)) (fun _ _ _ _ _ => (dg_name (i := 2) sc__law_row.nd rfl (by first | exact Or.inl rfl | exact Or.inr rfl))) (fun _ _ _ _ _ => dts_nil) (fun _ _ _ _ _ => (de_op op_modN od_mod (de_op op_addD od_addD (call_G (ok__law_take T) (hr.mono (by decide)) rfl (dg_st (i := 0) (dg_cons de_int dg_nil))) (de_op op_mul od_mul de_int (de_var 2))) de_int))))))
/-! #### _law_page -/
abbrev n__law_page : List Str := ["table"]
theorem sc__law_page : FnScope n__law_page ["table"] (defScope s__law_page) := ⟨rfl, rfl, rfl, by decide +kernel, rfl, by decide +kernel, by decide +kernel⟩
def m__law_page : MS Dr := (mRet (mCall F__law_laid (mCons (mL (mFzF dSortItems 0)) (mCons (mIf (mOpT dGtI (mFz dLenK 0) (mC (.int 0))) (mOp dAdd (mFz dMaxK 0) (mC (.int 1))) (mC (.int 0))) mNil))))
def F__law_page : List SV → Dr → Option (D × Dr) := runG 1 1 m__law_page
theorem ok__law_page (T : Txt K mg) : Def1 P wd K mg base "_law_page" ["table"] 2 (spG K drA F__law_page) := def_ghost T.d__law_page sc__law_page fun f cdv A outer s H E hr =>
    (db_one (ds_ret (call_P (ok__law_laid T) (hr.mono (by decide)) rfl (da_cons (de_fresh (df_sortItems 0 rfl (hu65 hr) rfl T.z_sorted (by decide +kernel))) (da_cons (de_if (dt_cmp op_gt od_gtI (de_fzB 0 cr_lenK fz_len rfl T.z_len (by decide +kernel)) de_int (nomark _)) (de_op op_addD od_addD (de_fzB 0 (cr_maxK rfl) fz_max rfl T.z_max (by decide +kernel)) de_int) de_int) da_nil)))))
/-! #### _law_free -/
abbrev n__law_free : List Str := ["table", "slot"]
theorem sc__law_free : FnScope n__law_free ["table"] (defScope s__law_free) := ⟨rfl, rfl, rfl, by decide +kernel, rfl, by decide +kernel, by decide +kernel⟩
def wt__law_free_1 : MT Dr := (mInFzT false 0 (mVar 1))
def wb__law_free_2 : MS Dr := (mSet 1 (mOp dAdd (mVar 1) (mC (.int 1))))
noncomputable def m__law_free : MS Dr := (mSeq (mSet 1 (mC (.int 0)))
    (mSeq (mWhile wt__law_free_1 wb__law_free_2)
    (mRet (mVar 1))))
noncomputable def F__law_free : List SV → Dr → Option (D × Dr) := runG 2 1 m__law_free
theorem ok__law_free (T : Txt K mg) : Def1 P wd K mg base "_law_free" ["table"] 1 (spG K drA F__law_free) := def_ghost T.d__law_free sc__law_free fun f cdv A outer s H E hr =>
    (db_cons (ds_set (i := 1) sc__law_free.nd rfl (by first | exact Or.inl rfl | exact Or.inr rfl) de_int)
    (db_cons (ds_while PassesOwn.never (dt_inFz 0 (hu65 hr) (de_var 1))
    (db_one (ds_set (i := 1) sc__law_free.nd rfl (by first | exact Or.inl rfl | exact Or.inr rfl) (de_op op_addD od_addD (de_var 1) de_int))))
    (db_one (ds_ret (de_var 1)))))
/-! #### _law_room -/
abbrev n__law_room : List Str := ["table", "slots", "slot"]
theorem sc__law_room : FnScope n__law_room ["table"] (defScope s__law_room) := ⟨rfl, rfl, rfl, by decide +kernel, rfl, by decide +kernel, by decide +kernel⟩
noncomputable def m__law_room : MS Dr := (mSeq (mSet 1 (mOp dAdd (mCall dMaxL (mCons (mL (mCat (mL (mLst (mCons (mCallG F__law_free (gConsF 0 gNil)) mNil))) (mL (mFzF dListK 0)))) mNil)) (mC (.int 1))))
    (mRet (mCall dMax2 (mCons (mC (.int 0)) (mCons (mCall dMin2 (mCons (mC (.int 255)) (mCons (mOp dSub (mOp dSub (mC (.int 254)) (mOp dMul (mC (.int 2)) (mVar 1))) (mCall dSum (mCons (mL (mComp (mItFz 0) [2] (bName 2) mYes (mCall dLen (mCons (mFzIx 0 (mVar 2)) mNil)))) mNil))) mNil))) mNil)))))
noncomputable def F__law_room : List SV → Dr → Option (D × Dr) := runG 3 1 m__law_room
theorem ok__law_room (T : Txt K mg) : Def1 P wd K mg base "_law_room" ["table"] 2 (spG K drA F__law_room) := def_ghost T.d__law_room sc__law_room fun f cdv A outer s H E hr =>
    (db_cons (ds_set (i := 1) sc__law_room.nd rfl (by first | exact Or.inl rfl | exact Or.inr rfl) (de_op op_addD od_addD (de_callB (cr_max rfl) cd_maxL rfl T.z_max (by decide +kernel) (da_cons (de_fresh (df_cat (de_fresh (df_lst (da_cons (call_G (ok__law_free T) (hr.mono (by decide)) rfl (dg_fz (i := 0) dg_nil)) da_nil))) (de_fresh (df_fzTy 0 (call_listD rfl) fz_list rfl T.z_list (by decide +kernel))))) da_nil)) de_int))
    (db_one (ds_ret (de_callB (call_max2 rfl) cd_max2 rfl T.z_max (by decide +kernel) (da_cons de_int (da_cons (de_callB (call_min2 rfl) cd_min2 rfl T.z_min (by decide +kernel) (da_cons de_int (da_cons (de_op op_sub od_sub (de_op op_sub od_sub de_int (de_op op_mul od_mul de_int (de_var 1))) (de_callB (cr_sum rfl) cd_sum rfl T.z_sum (by decide +kernel) (da_cons (de_fresh (df_comp (own := [("slot", 2)]) rfl sc__law_room.nd (di_fz 0) (blkOk_by (N := n__law_room) (sc := defScope s__law_room) (by decide +kernel)) (fun _ _ _ _ _ => (dg_name (i := 2) sc__law_room.nd rfl (by first | exact Or.inl rfl | exact Or.inr rfl))) (fun _ _ _ _ _ => dts_nil) (fun _ _ _ _ _ => (de_callB call_len cd_len rfl T.z_len (by decide +kernel) (da_cons (de_fzIx 0 (hu65 hr) (de_var 2)) da_nil))))) da_nil))) da_nil))) da_nil))))))
/-! #### law -/
abbrev n_law : List Str := ["script", "state", "page", "table", "turn", "row", "kind", "before", "kept", "room", "told", "slot", "there", "other", "spare", "rows", "k", "pages", "places", "tables", "able", "at", "one"]
theorem sc_law : FnScope n_law ["script"] (defScope s_law) := ⟨rfl, rfl, rfl, by decide +kernel, rfl, by decide +kernel, by decide +kernel⟩
def lb_law_1 : MS Dr := (mIfS (mLk 3 (mOpT dNe (mCall F_row_in (mCons (mVar 2) (mCons (mVar 11) mNil))) (mIf (mInFzT false 3 (mVar 11)) (mFzIx 3 (mVar 11)) (mC .none))))
    (mRet (mC (.bool false)))
    mSkip)
noncomputable def lb_law_2 : MS Dr := (mSeq (mPar 5 6 (mCons (mCallG F__law_row (gConsS 1 gNil)) (mCons (mCallG drawA (gConsS 1 (gCons (mC (.int 4)) gNil))) mNil)))
    (mSeq (mPar 7 8 (mCons (mVar 2) (mCons (mL (mCallF dListOf (mCons (mVar 2) mNil))) mNil)))
    (mSeq (mSet 9 (mLk 3 (mCallG F__law_room (gConsF 3 gNil))))
    (mSeq (mIfS (mOpT dNe (mCall F_room_in (mCons (mVar 2) mNil)) (mVar 9))
    (mRet (mC (.bool false)))
    mSkip)
    (mSeq (mIfS (mOpT dLtI (mVar 6) (mC (.int 2)))
    (mSeq (mSet 10 (mCall F_put_in (mCons (mVar 2) (mCons (mVar 5) mNil))))
    (mSeq (mIfS (mOpT dNe (mOp dIs (mVar 10) (mC .none)) (mOp dGtI (mCall dLen (mCons (mVar 5) mNil)) (mVar 9)))
    (mRet (mC (.bool false)))
    mSkip)
    (mIfS (mOpT dIsNot (mVar 10) (mC .none))
    (mSeq (mSet 11 (mLk 3 (mCallG F__law_free (gConsF 3 gNil))))
    (mSeq (mPutD 3 (mVar 11) (mVar 5))
    (mSeq (mIfS (mOpT dNe (mOp dIx (mVar 10) (mC (.int 1))) (mVar 11))
    (mRet (mC (.bool false)))
    mSkip)
    (mSet 2 (mOp dIx (mVar 10) (mC (.int 0)))))))
    mSkip)))
    (mSeq (mSet 11 (mCallG drawA (gConsS 1 (gCons (mC (.int 8)) gNil))))
    (mSeq (mSet 12 (mIf (mOpT dEq (mVar 6) (mC (.int 2))) (mCall F_taken_out (mCons (mVar 2) (mCons (mVar 11) mNil))) (mCall F_changed (mCons (mVar 2) (mCons (mVar 11) (mCons (mVar 5) mNil))))))
    (mIfS (mLk 3 (mInFzT true 3 (mVar 11)))
    (mIfS (mOpT dIsNot (mVar 12) (mC .none))
    (mRet (mC (.bool false)))
    mSkip)
    (mIfS (mOpT dEq (mVar 6) (mC (.int 2)))
    (mSeq (mSetK 3 (mLk 3 (mDictOf (mL (mComp (mItFz 3) [13] (bName 13) (mOpT dNe (mVar 13) (mVar 11)) (mTup (mCons (mVar 13) (mCons (mFzIx 3 (mVar 13)) mNil))))))))
    (mSet 2 (mVar 12)))
    (mSeq (mSet 14 (mLk 3 (mOp dAdd (mOp dSub (mOp dSub (mC (.int 254)) (mOp dMul (mC (.int 2)) (mOp dAdd (mFz dMaxK 3) (mC (.int 1))))) (mCall dSum (mCons (mL (mComp (mItFz 3) [13] (bName 13) mYes (mCall dLen (mCons (mFzIx 3 (mVar 13)) mNil)))) mNil))) (mCall dLen (mCons (mFzIx 3 (mVar 11)) mNil)))))
    (mSeq (mIfS (mOpT dNe (mOp dIs (mVar 12) (mC .none)) (mOp dGtI (mCall dLen (mCons (mVar 5) mNil)) (mCall dMin2 (mCons (mC (.int 255)) (mCons (mVar 14) mNil)))))
    (mRet (mC (.bool false)))
    mSkip)
    (mIfS (mOpT dIsNot (mVar 12) (mC .none))
    (mSeq (mPutD 3 (mVar 11) (mVar 5))
    (mSet 2 (mVar 12)))
    mSkip))))))))
    (mSeq (mIfS (mLk 3 (mOr (mOpT dNe (mVar 7) (mVar 8)) (mOr (mOpT dNe (mVar 2) (mCallG F__law_page (gConsF 3 gNil))) (mOr (mOpT dIsNot (mCall F_page_fault (mCons (mVar 2) mNil)) (mC .none)) (mOpT dNe (mCall F_rows_in (mCons (mVar 2) mNil)) (mL (mFzF dSortItems 3)))))))
    (mRet (mC (.bool false)))
    mSkip)
    (mFor (mRng2 (mCons (mOp dSub (mC (.int 0)) (mC (.int 1))) (mCons (mC (.int 12)) mNil))) (bName 11) lb_law_1)))))))
noncomputable def lb_law_3 : MS Dr := (mSeq (mThen (mSetF 20 (mComp (mRng1 (mCons (mLenTs 19) mNil)) [21] (bName 21) (mLk 3 (mLkL 19 (mOpT dLeI (mCall dLen (mCons (mOp dIx (mVar 15) (mVar 16)) mNil)) (mCallG F__law_room (gConsFl 19 (mVar 21) gNil))))) (mVar 21))) 20)
    (mSeq (mIfS (mOpT dEq (mCall dLen (mCons (mVar 20) mNil)) (mC (.int 0)))
    (mSeq (mAppTs 19)
    (mSet 20 (mL (mLst (mCons (mOp dSub (mLenTs 19) (mC (.int 1))) mNil)))))
    mSkip)
    (mSeq (mSet 11 (mLk 3 (mLkL 19 (mScal (mCallG F__law_free (gConsFl 19 (mOp dIx (mVar 20) (mC (.int 0))) gNil))))))
    (mSeq (mIfS (mOpT dNe (mOp dIx (mVar 18) (mVar 16)) (mTup (mCons (mOp dIx (mVar 20) (mC (.int 0))) (mCons (mVar 11) mNil))))
    (mRet (mC (.bool false)))
    mSkip)
    (mPutTs 19 (mOp dIx (mVar 20) (mC (.int 0))) 11 (mOp dIx (mVar 15) (mVar 16)))))))
noncomputable def m_law : MS Dr := (mSeq (mParK 2 3 (mL (mCallF F_empty_page mNil)))
    (mSeq (mFor (mRng1 (mCons (mOp dAdd (mC (.int 3)) (mCallG drawA (gConsS 1 (gCons (mC (.int 12)) gNil)))) mNil)) (bName 4) lb_law_2)
    (mSeq (mSet 15 (mL (mComp (mRng1 (mCons (mCallG drawA (gConsS 1 (gCons (mC (.int 6)) gNil))) mNil)) [16] (bName 16) mYes (mL (mSlL (mCallG F__law_row (gConsS 1 gNil)) mNo (mPart (mC (.int 252))))))))
    (mSeq (mAsg (bTup 2 (bCons (bName 17) (bCons (bName 18) bNil))) (mCall F_pages_for (mCons (mVar 15) mNil)))
    (mSeq (mSetTs 19 (mLst mNil))
    (mSeq (mFor (mRng1 (mCons (mCall dLen (mCons (mVar 15) mNil)) mNil)) (bName 16) lb_law_3)
    (mSeq (mIfS (mLk 3 (mLkL 19 (mOpT dNe (mVar 17) (mL (mComp (mIdxFl 19) [22] (bFl 19 22) mYes (mCallG F__law_page (gConsF 22 gNil)))))))
    (mRet (mC (.bool false)))
    mSkip)
    (mRet (mBAnd (mOp dEq (mCall F_fits_all (mCons (mVar 15) mNil)) (mOp dLeI (mCall dSum (mCons (mL (mComp (mItL (mVar 15)) [5] (bName 5) mYes (mOp dAdd (mCall dLen (mCons (mVar 5) mNil)) (mC (.int 2))))) mNil)) (mC (.int 254)))) (mBOr (mBNot (mCall F_fits_all (mCons (mVar 15) mNil))) (mOp dLtI (mCall dLen (mCons (mVar 17) mNil)) (mC (.int 2)))))))))))))
theorem body_law (T : Txt K mg) (f : Addr) (cdv : Value) (A : Around) (outer : List PySem.Env) (s : Shared) (H : Hp) (E : XK) (hr : Room 5 (A.deeper (PyProof.Rows.envOfC "law" (defScope s_law) s.heap.objs.size f cdv))) :
    PSs (cxOf CX0 P wd K mg base n_law "law" (defScope s_law) f cdv A outer s H E).nox ((defBody s_law).drop 1) (tS K drA m_law) :=
    (db_cons (ds_parK2 (i := 2) (j := 3) rfl sc_law.nd rfl rfl (by decide) (by first | exact Or.inl rfl | exact Or.inr rfl) (by first | exact Or.inl rfl | exact Or.inr rfl) (by first | exact .inl rfl | exact .inr rfl | assumption) (by first | exact .inl rfl | exact .inr rfl | assumption) (de_fresh (call_N0 (ok_empty_page T) (hr.mono (by decide)) rfl)))
    (db_cons (ds_for PassesOwn.never rfl (di_range1 rfl T.z_range (da_cons (de_op op_addD od_addD de_int (call_G (ok__law_take T) (hr.mono (by decide)) rfl (dg_st (i := 1) (dg_cons de_int dg_nil)))) da_nil)) (dg_name (i := 4) sc_law.nd rfl (by first | exact Or.inl rfl | exact Or.inr rfl))
    (db_cons (ds_par (i := 5) (j := 6) rfl sc_law.nd rfl rfl (by decide) rfl rfl (da_cons (call_G (ok__law_row T) (hr.mono (by decide)) rfl (dg_st (i := 1) dg_nil)) (da_cons (call_G (ok__law_take T) (hr.mono (by decide)) rfl (dg_st (i := 1) (dg_cons de_int dg_nil))) da_nil)) (by rfl))
    (db_cons (ds_par (i := 7) (j := 8) rfl sc_law.nd rfl rfl (by decide) rfl rfl (da_cons (de_var 2) (da_cons (de_fresh (df_callTy call_list_of cf_list rfl T.z_list (by decide +kernel) (da_cons (de_var 2) da_nil))) da_nil)) (by rfl))
    (db_cons (ds_set (i := 9) sc_law.nd rfl (by first | exact Or.inl rfl | exact Or.inr rfl) (de_lk 3 (call_G (ok__law_room T) (hr.mono (by decide)) rfl (dg_fz (i := 3) dg_nil))))
    (db_cons (ds_if (dt_cmp (op_neD (hu64 hr)) od_ne (call_P (ok_room_in T) (hr.mono (by decide)) rfl (da_cons (de_var 2) da_nil)) (de_var 9) (nomark _))
    (db_one (ds_ret de_bl))
    db_nil)
    (db_cons (ds_if (dt_cmp op_lt od_ltI (de_var 6) de_int (nomark _))
    (db_cons (ds_set (i := 10) sc_law.nd rfl (by first | exact Or.inl rfl | exact Or.inr rfl) (call_P (ok_put_in T) (hr.mono (by decide)) rfl (da_cons (de_var 2) (da_cons (de_var 5) da_nil))))
    (db_cons (ds_if (dt_cmp (op_neD (hu64 hr)) od_ne (de_cmp op_isN od_is (de_var 10) de_non (nomark _)) (de_cmp op_gt od_gtI (de_callB call_len cd_len rfl T.z_len (by decide +kernel) (da_cons (de_var 5) da_nil)) (de_var 9) (nomark _)) (nomark _))
    (db_one (ds_ret de_bl))
    db_nil)
    (db_one (ds_if (dt_cmp op_notN od_isNot (de_var 10) de_non (nomark _))
    (db_cons (ds_set (i := 11) sc_law.nd rfl (by first | exact Or.inl rfl | exact Or.inr rfl) (de_lk 3 (call_G (ok__law_free T) (hr.mono (by decide)) rfl (dg_fz (i := 3) dg_nil))))
    (db_cons (ds_putD 3 (hu65 hr) (de_var 11) (de_var 5))
    (db_cons (ds_if (dt_cmp (op_neD (hu64 hr)) od_ne (de_ix (de_var 10) de_int) (de_var 11) (nomark _))
    (db_one (ds_ret de_bl))
    db_nil)
    (db_one (ds_set (i := 2) sc_law.nd rfl (by first | exact Or.inl rfl | exact Or.inr rfl) (de_ix (de_var 10) de_int))))))
    db_nil))))
    (db_cons (ds_set (i := 11) sc_law.nd rfl (by first | exact Or.inl rfl | exact Or.inr rfl) (call_G (ok__law_take T) (hr.mono (by decide)) rfl (dg_st (i := 1) (dg_cons de_int dg_nil))))
    (db_cons (ds_set (i := 12) sc_law.nd rfl (by first | exact Or.inl rfl | exact Or.inr rfl) (de_if (dt_cmp (op_eqD (hu64 hr)) od_eq (de_var 6) de_int (nomark _)) (call_P (ok_taken_out T) (hr.mono (by decide)) rfl (da_cons (de_var 2) (da_cons (de_var 11) da_nil))) (call_P (ok_changed T) (hr.mono (by decide)) rfl (da_cons (de_var 2) (da_cons (de_var 11) (da_cons (de_var 5) da_nil))))))
    (db_one (ds_if (dt_lk 3 (dt_ninFz 3 (hu65 hr) (de_var 11)))
    (db_one (ds_if (dt_cmp op_notN od_isNot (de_var 12) de_non (nomark _))
    (db_one (ds_ret de_bl))
    db_nil))
    (db_one (ds_if (dt_cmp (op_eqD (hu64 hr)) od_eq (de_var 6) de_int (nomark _))
    (db_cons (ds_setK (i := 3) sc_law.nd rfl (by first | exact Or.inl rfl | exact Or.inr rfl) (dk_lk 3 (dk_dict rfl rfl T.z_dict (by decide +kernel) (de_fresh (df_comp (own := [("other", 13)]) rfl sc_law.nd (di_fz 3) (blkOk_by (N := n_law) (sc := defScope s_law) (by decide +kernel)) (fun _ _ _ _ _ => (dg_name (i := 13) sc_law.nd rfl (by first | exact Or.inl rfl | exact Or.inr rfl))) (fun _ _ _ _ _ => (dts_one (dt_cmp (op_neD (hu64 hr)) od_ne (de_var 13) (de_var 11) (nomark _)))) (fun _ _ _ _ _ => (de_tup (da_cons (de_var 13) (da_cons (de_fzIx 3 (hu65 hr) (de_var 13)) da_nil)))))))))
    (db_one (ds_set (i := 2) sc_law.nd rfl (by first | exact Or.inl rfl | exact Or.inr rfl) (de_var 12))))
    (db_cons (ds_set (i := 14) sc_law.nd rfl (by first | exact Or.inl rfl | exact Or.inr rfl) (de_lk 3 (de_op op_addD od_addD (de_op op_sub od_sub (de_op op_sub od_sub de_int (de_op op_mul od_mul de_int (de_op op_addD od_addD (de_fzB 3 (cr_maxK rfl) fz_max rfl T.z_max (by decide +kernel)) de_int))) (de_callB (cr_sum rfl) cd_sum rfl T.z_sum (by decide +kernel) (da_cons (de_fresh (df_comp (own := [("other", 13)]) rfl sc_law.nd (di_fz 3) (blkOk_by (N := n_law) (sc := defScope s_law) (by decide +kernel)) (fun _ _ _ _ _ => (dg_name (i := 13) sc_law.nd rfl (by first | exact Or.inl rfl | exact Or.inr rfl))) (fun _ _ _ _ _ => dts_nil) (fun _ _ _ _ _ => (de_callB call_len cd_len rfl T.z_len (by decide +kernel) (da_cons (de_fzIx 3 (hu65 hr) (de_var 13)) da_nil))))) da_nil))) (de_callB call_len cd_len rfl T.z_len (by decide +kernel) (da_cons (de_fzIx 3 (hu65 hr) (de_var 11)) da_nil)))))
    (db_cons (ds_if (dt_cmp (op_neD (hu64 hr)) od_ne (de_cmp op_isN od_is (de_var 12) de_non (nomark _)) (de_cmp op_gt od_gtI (de_callB call_len cd_len rfl T.z_len (by decide +kernel) (da_cons (de_var 5) da_nil)) (de_callB (call_min2 rfl) cd_min2 rfl T.z_min (by decide +kernel) (da_cons de_int (da_cons (de_var 14) da_nil))) (nomark _)) (nomark _))
    (db_one (ds_ret de_bl))
    db_nil)
    (db_one (ds_if (dt_cmp op_notN od_isNot (de_var 12) de_non (nomark _))
    (db_cons (ds_putD 3 (hu65 hr) (de_var 11) (de_var 5))
    (db_one (ds_set (i := 2) sc_law.nd rfl (by first | exact Or.inl rfl | exact Or.inr rfl) (de_var 12))))
    db_nil)))))))))))
    (db_cons (ds_if (dt_lk 3 (PW.pt (dw_or (dt_cmp (op_neD (hu64 hr)) od_ne (de_var 7) (de_var 8) (nomark _)) (dw_or (dt_cmp (op_neD (hu64 hr)) od_ne (de_var 2) (call_G (ok__law_page T) (hr.mono (by decide)) rfl (dg_fz (i := 3) dg_nil)) (nomark _)) (dw_or (dt_cmp op_notN od_isNot (call_P (ok_page_fault T) (hr.mono (by decide)) rfl (da_cons (de_var 2) da_nil)) de_non (nomark _)) (dw_or1 (dt_cmp (op_neD (hu64 hr)) od_ne (call_P (ok_rows_in T) (hr.mono (by decide)) rfl (da_cons (de_var 2) da_nil)) (de_fresh (df_sortItems 3 rfl (hu65 hr) rfl T.z_sorted (by decide +kernel))) (nomark _))))))))
    (db_one (ds_ret de_bl))
    db_nil)
    (db_one (ds_for PassesOwn.never rfl (di_range2 rfl T.z_range (da_cons (de_op op_sub od_sub de_int de_int) (da_cons de_int da_nil))) (dg_name (i := 11) sc_law.nd rfl (by first | exact Or.inl rfl | exact Or.inr rfl))
    (db_one (ds_if (dt_lk 3 (dt_cmp (op_neD (hu64 hr)) od_ne (call_P (ok_row_in T) (hr.mono (by decide)) rfl (da_cons (de_var 2) (da_cons (de_var 11) da_nil))) (de_if (dt_inFz 3 (hu65 hr) (de_var 11)) (de_fzIx 3 (hu65 hr) (de_var 11)) de_non) (nomark _)))
    (db_one (ds_ret de_bl))
    db_nil)))))))))))
    (db_cons (ds_set (i := 15) sc_law.nd rfl (by first | exact Or.inl rfl | exact Or.inr rfl) (de_fresh (df_comp (own := [("k", 16)]) rfl sc_law.nd (di_range1 rfl T.z_range (da_cons (call_G (ok__law_take T) (hr.mono (by decide)) rfl (dg_st (i := 1) (dg_cons de_int dg_nil))) da_nil)) (blkOk_by (N := n_law) (sc := defScope s_law) (by decide +kernel)) (fun _ _ _ _ _ => (dg_name (i := 16) sc_law.nd rfl (by first | exact Or.inl rfl | exact Or.inr rfl))) (fun _ _ _ _ _ => dts_nil) (fun _ _ _ _ _ => (de_fresh (df_slice (call_G (ok__law_row T) (hr.mono (by decide)) rfl (dg_st (i := 1) dg_nil)) do_none (do_some de_int)))))))
    (db_cons (ds_asg (call_P (ok_pages_for T) (hr.mono (by decide)) rfl (da_cons (de_var 15) da_nil)) (dg_tup rfl (dgs_cons (dg_name (i := 17) sc_law.nd rfl (by first | exact Or.inl rfl | exact Or.inr rfl)) (dgs_cons (dg_name (i := 18) sc_law.nd rfl (by first | exact Or.inl rfl | exact Or.inr rfl)) dgs_nil))))
    (db_cons (ds_setTs (i := 19) sc_law.nd rfl (by first | exact Or.inl rfl | exact Or.inr rfl) (df_lst da_nil))
    (db_cons (ds_for PassesOwn.never rfl (di_range1 rfl T.z_range (da_cons (de_callB call_len cd_len rfl T.z_len (by decide +kernel) (da_cons (de_var 15) da_nil)) da_nil)) (dg_name (i := 16) sc_law.nd rfl (by first | exact Or.inl rfl | exact Or.inr rfl))
    (db_cons (ds_then 20 (ds_setLc (own := [("at", 21)]) rfl sc_law.nd rfl rfl (sw_true rfl rfl rfl (by decide +kernel)) (di_range1 rfl T.z_range (da_cons (de_lenTs 19 rfl T.z_len (by decide +kernel)) da_nil)) (blkOk_by (N := n_law) (sc := defScope s_law) (by decide +kernel)) (fun _ _ _ _ _ => (dg_name (i := 21) sc_law.nd rfl (by first | exact Or.inl rfl | exact Or.inr rfl))) (fun _ _ _ _ _ => (dts_one (dt_lk 3 (dt_lkL 19 (dt_cmp op_le od_leI (de_callB call_len cd_len rfl T.z_len (by decide +kernel) (da_cons (de_ix (de_var 15) (de_var 16)) da_nil)) (call_G (ok__law_room T) (hr.mono (by decide)) rfl (dg_fl (j := 19) (de_var 21) dg_nil)) (nomark _)))))) (fun _ _ _ _ _ => (de_var 21))))
    (db_cons (ds_if (dt_cmp (op_eqD (hu64 hr)) od_eq (de_callB call_len cd_len rfl T.z_len (by decide +kernel) (da_cons (de_var 20) da_nil)) de_int (nomark _))
    (db_cons (ds_appTs 19)
    (db_one (ds_set (i := 20) sc_law.nd rfl (by first | exact Or.inl rfl | exact Or.inr rfl) (de_fresh (df_lst (da_cons (de_op op_sub od_sub (de_lenTs 19 rfl T.z_len (by decide +kernel)) de_int) da_nil))))))
    db_nil)
    (db_cons (ds_set (i := 11) sc_law.nd rfl (by first | exact Or.inl rfl | exact Or.inr rfl) (de_lk 3 (de_lkL 19 (call_G (ok__law_free T) (hr.mono (by decide)) rfl (dg_fl (j := 19) (de_ix (de_var 20) de_int) dg_nil)))))
    (db_cons (ds_if (dt_cmp (op_neD (hu64 hr)) od_ne (de_ix (de_var 18) (de_var 16)) (de_tup (da_cons (de_ix (de_var 20) de_int) (da_cons (de_var 11) da_nil))) (nomark _))
    (db_one (ds_ret de_bl))
    db_nil)
    (db_one (ds_putTs 19 11 (hu65 hr) (de_ix (de_var 20) de_int) (de_ix (de_var 15) (de_var 16)))))))))
    (db_cons (ds_if (dt_lk 3 (dt_lkL 19 (dt_cmp (op_neD (hu64 hr)) od_ne (de_var 17) (de_fresh (df_compFl 19 22 (y := "one") (own := [("one", 22)]) rfl sc_law.nd (blkOk_by (N := n_law) (sc := defScope s_law) (by decide +kernel)) (by decide) (by decide) (fun _ _ _ _ _ => ⟨rfl, (by first | exact Or.inl rfl | exact Or.inr rfl), (by first | exact .inl rfl | exact .inr rfl)⟩) (fun _ _ _ _ _ => (call_G (ok__law_page T) (hr.mono (by decide)) rfl (dg_fz (i := 22) dg_nil))))) (nomark _))))
    (db_one (ds_ret de_bl))
    db_nil)
    (db_one (ds_ret (de_and (de_cmp (op_eqD (hu64 hr)) od_eq (call_P (ok_fits_all T) (hr.mono (by decide)) rfl (da_cons (de_var 15) da_nil)) (de_cmp op_le od_leI (de_callB (cr_sum rfl) cd_sum rfl T.z_sum (by decide +kernel) (da_cons (de_fresh (df_comp (own := [("row", 5)]) rfl sc_law.nd (di_list (de_var 15)) (blkOk_by (N := n_law) (sc := defScope s_law) (by decide +kernel)) (fun _ _ _ _ _ => (dg_name (i := 5) sc_law.nd rfl (by first | exact Or.inl rfl | exact Or.inr rfl))) (fun _ _ _ _ _ => dts_nil) (fun _ _ _ _ _ => (de_op op_addD od_addD (de_callB call_len cd_len rfl T.z_len (by decide +kernel) (da_cons (de_var 5) da_nil)) de_int)))) da_nil)) de_int (nomark _)) (nomark _)) (de_and1 (de_or (de_not (call_P (ok_fits_all T) (hr.mono (by decide)) rfl (da_cons (de_var 15) da_nil))) (de_and1 (de_cmp op_lt od_ltI (de_callB call_len cd_len rfl T.z_len (by decide +kernel) (da_cons (de_var 17) da_nil)) de_int (nomark _)))))))))))))))
end
end K52

namespace K52
open PySem Pd
/-! the faults of a page, as a function -/
def bad (xs : List Int) (k : Nat) : Bool := !(decide (0 ≤ xs.getD k 0) && decide (xs.getD k 0 < 256))
def scan (xs : List Int) : Nat → Nat → Int → Int ⊕ Nat
  | 0, _, low => .inl low
  | n + 1, k, low => if xs.getD (3 + 2 * k) 0 = 0 then (if xs.getD (2 + 2 * k) 0 = 0 then scan xs n (k + 1) low else .inr k) else if xs.getD (2 + 2 * k) 0 = low - xs.getD (3 + 2 * k) 0 then scan xs n (k + 1) (low - xs.getD (3 + 2 * k) 0) else .inr k
def rest (xs : List Int) (a b : Int) : List D := cut (xs.map .int) (some a) (some b)
def nz : D → Bool
  | .int i => !(i == 0)
  | _ => true
def fault (xs : List Int) : D :=
  if xs.length ≠ 256 then .tuple [.str "size"] else
  match (List.range 256).filter (bad xs) with
  | k :: _ => .tuple [.str "byte", .int (k : Int)]
  | [] => if 2 + 2 * xs.getD 0 0 + xs.getD 1 0 > 256 then .tuple [.str "slots"] else
    match scan xs (xs.getD 0 0).toNat 0 256 with
    | .inr k => .tuple [.str "slot", .int (k : Int)]
    | .inl low => if xs.getD 1 0 ≠ 256 - low then .tuple [.str "used"] else
      if 0 < xs.getD 0 0 ∧ xs.getD (1 + 2 * (xs.getD 0 0).toNat) 0 = 0 then .tuple [.str "last"] else
      if (rest xs (2 + 2 * xs.getD 0 0) low).any nz = true then .tuple [.str "rest"] else .none
theorem get_of {xs : List Int} {k : Nat} (h : k < xs.length) : xs[k]? = some (xs.getD k 0) := by
  rw [List.getD_eq_getElem?_getD, List.getElem?_eq_getElem h]; rfl
theorem bad_range {xs : List Int} {k : Nat} (h : bad xs k = false) : 0 ≤ xs.getD k 0 ∧ xs.getD k 0 < 256 := by
  unfold bad at h
  simpa using h
theorem getix {G : Type} {env : Pd.Env} {g g1 : G} {xs : List Int} {m : ME G} {k : Nat} {i : Nat} {z : Int} (he : env.at i = .sh (iL xs)) (hm : m env g = some (.int z, g1)) (hz : z = (k : Int)) (hk : k < xs.length) : mOp dIx (mVar i) m env g = some (.int (xs.getD k 0), g1) := by
  subst hz
  exact op_e (var_e he) hm (iL_get (get_of hk))
theorem slot_of_e {xs : List Int} {k : Nat} (h : 3 + 2 * k < xs.length) : F_slot_of [iL xs, .int (k : Int)] = some (.tuple [.int (xs.getD (2 + 2 * k) 0), .int (xs.getD (3 + 2 * k) 0)]) := by
  refine runP_re (N := 3) (n := 2) (m := m_slot_of) (ds := [iL xs, .int (k : Int)]) (u := ()) (seq_nx (set_e (op_e (z := .int (2 + 2 * (k : Int))) rfl (op_e rfl rfl (mul_l (by decide))) rfl)) (ret_e (tup_e (cons_e (getix (k := 2 + 2 * k) rfl rfl ?_ (by omega)) (cons_e (getix (k := 3 + 2 * k) rfl (op_e rfl rfl rfl) ?_ h) nil_e)))))
  · omega
  · omega
/-! #### page_fault -/
abbrev PF (xs : List Int) (a b s l c d e : SV) : Pd.Env := [.sh (iL xs), a, b, s, l, c, d, e]
theorem pf_bytes {xs : List Int} {s l c d e : SV} : ∀ {n k : Nat} {a b : SV}, xs.length = k + n → b.notOw = true → match (List.range' k n).filter (bad xs) with
    | [] => ∃ a' b', b'.notOw = true ∧ loopL (bTup 2 (bCons (bName 1) (bCons (bName 2) bNil))) lb_page_fault_1 (enm k ((xs.drop k).map .int)) (PF xs a b s l c d e) () = some (Ct.nx, PF xs a' b' s l c d e, ())
    | j :: _ => ∃ a' b', loopL (bTup 2 (bCons (bName 1) (bCons (bName 2) bNil))) lb_page_fault_1 (enm k ((xs.drop k).map .int)) (PF xs a b s l c d e) () = some (Ct.re (.tuple [.str "byte", .int (j : Int)]), PF xs a' b' s l c d e, ())
  | 0, k, a, b, h, hb => by
    rw [List.drop_of_length_le (by omega)]
    exact ⟨a, b, hb, rfl⟩
  | n + 1, k, a, b, h, _ => by
    have hk : k < xs.length := by omega
    rw [List.drop_eq_getElem_cons hk, List.map_cons, List.range'_succ]
    have e0 : xs[k] = xs.getD k 0 := by rw [List.getD_eq_getElem?_getD, List.getElem?_eq_getElem hk]; rfl
    rw [e0]
    simp only [enm]
    have t : ∀ r : Bool, bad xs k = r → (mNot (mChainT dLeI dLtI (mC (.int 0)) (mVar 2) (mC (.int 256)))) (PF xs (.sh (.int (k : Int))) (.sh (.int (xs.getD k 0))) s l c d e) () = some (r, ()) := fun r hr => by
      subst hr
      unfold bad
      refine not_e ?_
      by_cases h1 : 0 ≤ xs.getD k 0
      · by_cases h2 : xs.getD k 0 < 256
        · rw [decide_eq_true h1, decide_eq_true h2]; exact chain_t rfl rfl (le_t h1) rfl (lt_t h2)
        · rw [decide_eq_true h1, decide_eq_false h2]; exact chain_t rfl rfl (le_t h1) rfl (lt_f h2)
      · rw [decide_eq_false h1]; exact chain_f rfl rfl (le_f h1)
    cases hb : bad xs k with
    | true =>
      rw [List.filter_cons_of_pos hb]
      exact ⟨_, _, loop_re rfl (if_t (t _ hb) (ret_e (tup_e (cons_e rfl (cons_e rfl nil_e)))))⟩
    | false =>
      rw [List.filter_cons_of_neg (by rw [hb]; decide)]
      have ih := pf_bytes (xs := xs) (s := s) (l := l) (c := c) (d := d) (e := e) (n := n) (k := k + 1) (a := .sh (.int (k : Int))) (b := .sh (.int (xs.getD k 0))) (by omega) rfl
      split at ih
      · obtain ⟨a', b', hb', ih⟩ := ih
        exact ⟨a', b', hb', loop_nx rfl (if_no (t _ hb)) ih⟩
      · obtain ⟨a', b', ih⟩ := ih
        exact ⟨a', b', loop_nx rfl (if_no (t _ hb)) ih⟩
theorem pf_scan {xs : List Int} {a b : SV} {sl : Int} : ∀ {n k : Nat} {low : Int} {c d e : SV}, 1 + 2 * (k + n) < xs.length → match scan xs n k low with
    | .inl low' => ∃ c' d' e', loopL (bName 5) lb_page_fault_2 (rng (k : Int) n) (PF xs a b (.sh (.int sl)) (.sh (.int low)) c d e) () = some (Ct.nx, PF xs a b (.sh (.int sl)) (.sh (.int low')) c' d' e', ())
    | .inr j => ∃ e', loopL (bName 5) lb_page_fault_2 (rng (k : Int) n) (PF xs a b (.sh (.int sl)) (.sh (.int low)) c d e) () = some (Ct.re (.tuple [.str "slot", .int (j : Int)]), e', ())
  | 0, k, low, c, d, e, h => ⟨c, d, e, rfl⟩
  | n + 1, k, low, c, d, e, h => by
    rw [rng_succ, show ((k : Int) + 1) = ((k + 1 : Nat) : Int) from rfl]
    have sc : (mAsg (bTup 2 (bCons (bName 6) (bCons (bName 7) bNil))) (mCall F_slot_of (mCons (mVar 0) (mCons (mVar 5) mNil)))) (PF xs a b (.sh (.int sl)) (.sh (.int low)) (.sh (.int (k : Int))) d e) () = some (.nx, PF xs a b (.sh (.int sl)) (.sh (.int low)) (.sh (.int (k : Int))) (.sh (.int (xs.getD (2 + 2 * k) 0))) (.sh (.int (xs.getD (3 + 2 * k) 0))), ()) :=
      asg_e (call_e (cons_e rfl (cons_e rfl nil_e)) (slot_of_e (by omega))) rfl
    unfold scan
    by_cases hl : xs.getD (3 + 2 * k) 0 = 0
    · rw [if_pos hl]
      by_cases hb : xs.getD (2 + 2 * k) 0 = 0
      · rw [if_pos hb]
        have ih := pf_scan (xs := xs) (a := a) (b := b) (sl := sl) (n := n) (k := k + 1) (low := low) (c := .sh (.int (k : Int))) (d := .sh (.int (xs.getD (2 + 2 * k) 0))) (e := .sh (.int (xs.getD (3 + 2 * k) 0))) (by omega)
        have st := seq_nx (m2 := (mIfS (mOpT dEq (mVar 7) (mC (.int 0))) (mIfS (mOpT dNe (mVar 6) (mC (.int 0))) (mRet (mTup (mCons (mC (.str "slot")) (mCons (mVar 5) mNil)))) mSkip) (mSeq (mSet 4 (mOp dSub (mVar 4) (mVar 7))) (mIfS (mOpT dNe (mVar 6) (mVar 4)) (mRet (mTup (mCons (mC (.str "slot")) (mCons (mVar 5) mNil)))) mSkip)))) sc (if_t (opT_e rfl rfl (eq_it hl)) (if_no (opT_e rfl rfl (neq_f hb))))
        split at ih
        · obtain ⟨c', d', e', ih⟩ := ih
          exact ⟨c', d', e', loop_nx rfl st ih⟩
        · obtain ⟨e', ih⟩ := ih
          exact ⟨e', loop_nx rfl st ih⟩
      · rw [if_neg hb]
        exact ⟨_, loop_re rfl (seq_nx sc (if_t (opT_e rfl rfl (eq_it hl)) (if_t (opT_e rfl rfl (neq_t hb)) (ret_e (tup_e (cons_e rfl (cons_e rfl nil_e)))))))⟩
    · rw [if_neg hl]
      by_cases hb : xs.getD (2 + 2 * k) 0 = low - xs.getD (3 + 2 * k) 0
      · rw [if_pos hb]
        have ih := pf_scan (xs := xs) (a := a) (b := b) (sl := sl) (n := n) (k := k + 1) (low := low - xs.getD (3 + 2 * k) 0) (c := .sh (.int (k : Int))) (d := .sh (.int (xs.getD (2 + 2 * k) 0))) (e := .sh (.int (xs.getD (3 + 2 * k) 0))) (by omega)
        have st := seq_nx (m2 := (mIfS (mOpT dEq (mVar 7) (mC (.int 0))) (mIfS (mOpT dNe (mVar 6) (mC (.int 0))) (mRet (mTup (mCons (mC (.str "slot")) (mCons (mVar 5) mNil)))) mSkip) (mSeq (mSet 4 (mOp dSub (mVar 4) (mVar 7))) (mIfS (mOpT dNe (mVar 6) (mVar 4)) (mRet (mTup (mCons (mC (.str "slot")) (mCons (mVar 5) mNil)))) mSkip)))) sc (if_f (opT_e rfl rfl (eq_if hl)) (seq_nx (set_e (op_e rfl rfl rfl)) (if_no (opT_e rfl rfl (neq_f hb)))))
        split at ih
        · obtain ⟨c', d', e', ih⟩ := ih
          exact ⟨c', d', e', loop_nx rfl st ih⟩
        · obtain ⟨e', ih⟩ := ih
          exact ⟨e', loop_nx rfl st ih⟩
      · rw [if_neg hb]
        exact ⟨_, loop_re rfl (seq_nx sc (if_f (opT_e rfl rfl (eq_if hl)) (seq_nx (set_e (op_e rfl rfl rfl)) (if_t (opT_e rfl rfl (neq_t hb)) (ret_e (tup_e (cons_e rfl (cons_e rfl nil_e))))))))⟩
theorem page_fault_e (xs : List Int) (hL : xs.length ≤ 1000) : F_page_fault [iL xs] = some (fault xs) := by
  unfold fault
  by_cases hl : xs.length ≠ 256
  · rw [if_pos hl]
    exact runP_re (N := 8) (n := 1) (m := m_page_fault) (seq_re (if_t (opT_e (call_e (cons_e rfl nil_e) iL_len) rfl (neq_t (by omega))) (ret_e (tup_e (cons_e rfl nil_e)))))
  · rw [if_neg hl]
    have hl : xs.length = 256 := by omega
    have s0 : mIfS (mOpT dNe (mCall dLen (mCons (mVar 0) mNil)) (mC (.int 256))) (mRet (mTup (mCons (mC (.str "size")) mNil))) mSkip (startE 8 ([iL xs].map .sh)) () = some (.nx, PF xs .un .un .un .un .un .un .un, ()) :=
      if_no (opT_e (call_e (cons_e rfl nil_e) iL_len) rfl (neq_f (by omega)))
    have f1 := pf_bytes (xs := xs) (s := .un) (l := .un) (c := .un) (d := .un) (e := .un) (n := 256) (k := 0) (a := .un) (b := .un) (by omega) rfl
    rw [List.range_eq_range']
    have hb0 : ∀ k, k < 256 → (List.range' 0 256).filter (bad xs) = [] → bad xs k = false := fun k hk h => by
      have := List.filter_eq_nil_iff.mp h k (by rw [List.mem_range'_1]; omega)
      simpa using this
    split
    · rename_i j t e
      rw [e] at f1
      obtain ⟨a, b, f1⟩ := f1
      exact runP_re (N := 8) (n := 1) (m := m_page_fault) (seq_nx s0 (seq_re (for_e (enum_e (cons_e rfl nil_e)) f1)))
    · rename_i e
      rw [e] at f1
      obtain ⟨a, b, hbo, f1⟩ := f1
      have b0 := bad_range (hb0 0 (by omega) e)
      have b1 := bad_range (hb0 1 (by omega) e)
      have x0 : ∀ env : Pd.Env, env.at 0 = .sh (iL xs) → mOp dIx (mVar 0) (mC (.int 0)) env () = some (.int (xs.getD 0 0), ()) := fun env he => getix (k := 0) he rfl rfl (by omega)
      have x1 : ∀ env : Pd.Env, env.at 0 = .sh (iL xs) → mOp dIx (mVar 0) (mC (.int 1)) env () = some (.int (xs.getD 1 0), ()) := fun env he => getix (k := 1) he rfl rfl (by omega)
      by_cases h1 : 2 + 2 * xs.getD 0 0 + xs.getD 1 0 > 256
      · rw [if_pos h1]
        exact runP_re (N := 8) (n := 1) (m := m_page_fault) (seq_nx s0 (seq_nx (for_e (enum_e (cons_e rfl nil_e)) f1) (seq_nx (set_e (x0 _ rfl)) (seq_re (if_t (opT_e (op_e (op_e rfl (op_e rfl rfl (mul_l (by decide))) rfl) (x1 _ rfl) rfl) rfl (gt_t h1)) (ret_e (tup_e (cons_e rfl nil_e))))))))
      · rw [if_neg h1]
        have f2 := pf_scan (xs := xs) (a := a) (b := b) (sl := xs.getD 0 0) (n := (xs.getD 0 0).toNat) (k := 0) (low := 256) (c := .un) (d := .un) (e := .un) (by omega)
        split
        · rename_i j e2
          rw [e2] at f2
          obtain ⟨e', f2⟩ := f2
          refine runP_Re (N := 8) (n := 1) (m := m_page_fault) (re_nx s0 (re_nx (for_e (enum_e (cons_e rfl nil_e)) f1) (re_nx (set_e (x0 _ rfl)) (re_nx (if_no (opT_e (op_e (op_e rfl (op_e rfl rfl (mul_l (by decide))) rfl) (x1 _ rfl) rfl) rfl (gt_f h1))) (re_nx (set_e rfl) (re_in ?_))))))
          exact re_e (for_e (rng1_e (cons_e rfl nil_e) (by omega)) f2)
        · rename_i low e2
          rw [e2] at f2
          obtain ⟨c', d', e', f2⟩ := f2
          refine runP_Re (N := 8) (n := 1) (m := m_page_fault) (re_nx s0 (re_nx (for_e (enum_e (cons_e rfl nil_e)) f1) (re_nx (set_e (x0 _ rfl)) (re_nx (if_no (opT_e (op_e (op_e rfl (op_e rfl rfl (mul_l (by decide))) rfl) (x1 _ rfl) rfl) rfl (gt_f h1))) (re_nx (set_e rfl) (re_nx (for_e (rng1_e (cons_e rfl nil_e) (by omega)) f2) ?_))))))
          by_cases h2 : xs.getD 1 0 ≠ 256 - low
          · rw [if_pos h2]
            exact re_in (re_ift (opT_e (x1 _ rfl) (op_e rfl rfl rfl) (neq_t h2)) (re_ret (tup_e (cons_e rfl nil_e))))
          · rw [if_neg h2]
            refine re_nx (if_no (opT_e (x1 _ rfl) (op_e rfl rfl rfl) (neq_f (by omega)))) ?_
            have so : 0 < xs.getD 0 0 → ∀ env : Pd.Env, env.at 0 = .sh (iL xs) → env.at 3 = .sh (.int (xs.getD 0 0)) → mOp dIx (mCall F_slot_of (mCons (mVar 0) (mCons (mOp dSub (mVar 3) (mC (.int 1))) mNil))) (mC (.int 1)) env () = some (.int (xs.getD (1 + 2 * (xs.getD 0 0).toNat) 0), ()) := fun h0 env e0 e3 => by
              have q := slot_of_e (xs := xs) (k := (xs.getD 0 0).toNat - 1) (by omega)
              have eq1 : ((((xs.getD 0 0).toNat - 1 : Nat)) : Int) = xs.getD 0 0 - 1 := by omega
              rw [eq1, show 3 + 2 * ((xs.getD 0 0).toNat - 1) = 1 + 2 * (xs.getD 0 0).toNat by omega] at q
              exact op_e (call_e (cons_e (var_e e0) (cons_e (op_e (var_e e3) rfl rfl) nil_e)) q) rfl rfl
            by_cases h3 : 0 < xs.getD 0 0 ∧ xs.getD (1 + 2 * (xs.getD 0 0).toNat) 0 = 0
            · rw [if_pos h3]
              exact re_in (re_ift (and_t (opT_e rfl rfl (gt_t h3.1)) (opT_e (so h3.1 _ rfl rfl) rfl (eq_it h3.2))) (re_ret (tup_e (cons_e rfl nil_e))))
            · rw [if_neg h3]
              have tf : mAnd (mOpT dGtI (mVar 3) (mC (.int 0))) (mOpT dEq (mOp dIx (mCall F_slot_of (mCons (mVar 0) (mCons (mOp dSub (mVar 3) (mC (.int 1))) mNil))) (mC (.int 1))) (mC (.int 0))) (PF xs a b (.sh (.int (xs.getD 0 0))) (.sh (.int low)) c' d' e') () = some (false, ()) := by
                by_cases h0 : 0 < xs.getD 0 0
                · exact and_t (opT_e rfl rfl (gt_t h0)) (opT_e (so h0 _ rfl rfl) rfl (eq_if fun z => h3 ⟨h0, z⟩))
                · exact and_f (opT_e rfl rfl (gt_f h0))
              refine re_nx (if_no tf) ?_
              obtain ⟨l, el⟩ : ∃ l : List Int, rest xs (2 + 2 * xs.getD 0 0) low = l.map .int := by
                unfold rest cut
                exact ⟨_, by rw [List.length_map, ← List.map_drop, ← List.map_take]⟩
              have ea : (rest xs (2 + 2 * xs.getD 0 0) low).any nz = l.any fun z => !(z == 0) := by
                rw [el, List.any_map]; rfl
              have ev : mTru (mCall dAny (mCons (mL (mComp (mItL (mL (mSlL (mVar 0) (mPart (mOp dAdd (mC (.int 2)) (mOp dMul (mC (.int 2)) (mVar 3)))) (mPart (mVar 4))))) [2] (bName 2) mYes (mOp dNe (mVar 2) (mC (.int 0))))) mNil)) (PF xs a b (.sh (.int (xs.getD 0 0))) (.sh (.int low)) c' d' e') () = some (l.any fun z => !(z == 0), ()) := by
                have el' : cut (xs.map PyData.int) (some (2 + 2 * xs.getD 0 0)) (some low) = l.map .int := el
                refine tru_e (call_e (cons_e (L_e (comp_e (itL_e (L_e (xs := l.map .int) ((slL_e (h := some low) (l := some (2 + 2 * xs.getD 0 0)) rfl (part_e (op_e rfl (op_e rfl rfl (mul_l (by decide))) rfl)) (part_e rfl)).trans ?_))) (by show (b.notOw && true) = true; rw [hbo]; rfl) (compL_mm .int (fun z => .bool (!(z == 0))) fun z _ => ⟨_, rfl, op_e rfl rfl (ne_int z 0)⟩))) nil_e) (any_e l _)) rfl
                rw [el']
              rw [ea]
              cases hr : l.any fun z => !(z == 0) with
              | true => rw [hr] at ev; exact re_in (re_ift ev (re_ret (tup_e (cons_e rfl nil_e))))
              | false => rw [hr] at ev; exact re_nx (if_no ev) (re_ret rfl)
end K52

namespace K52
open PySem Pd
/-! the page of rows, in closed form -/
def tbl (f : Nat → Int × Int) : Nat → List Int
  | 0 => []
  | n + 1 => tbl f n ++ [(f n).1, (f n).2]
theorem tbl_len (f : Nat → Int × Int) : ∀ n, (tbl f n).length = 2 * n
  | 0 => rfl
  | n + 1 => by show (tbl f n ++ _).length = _; rw [List.length_append, tbl_len f n]; rfl
theorem tbl_get (f : Nat → Int × Int) : ∀ {n k : Nat}, k < n → (tbl f n)[2 * k]? = some (f k).1 ∧ (tbl f n)[2 * k + 1]? = some (f k).2
  | 0, k, h => absurd h (by omega)
  | n + 1, k, h => by
    show (tbl f n ++ _)[2 * k]? = _ ∧ (tbl f n ++ _)[2 * k + 1]? = _
    have hl := tbl_len f n
    by_cases e : k = n
    · subst e
      rw [List.getElem?_append_right (by omega), List.getElem?_append_right (by omega), hl, Nat.sub_self, show 2 * k + 1 - 2 * k = 1 by omega]
      exact ⟨rfl, rfl⟩
    · rw [List.getElem?_append_left (by omega), List.getElem?_append_left (by omega)]
      exact tbl_get f (by omega)
def upf (f : Nat → Int × Int) (k : Nat) (v : Int × Int) : Nat → Int × Int := fun j => if j = k then v else f j
theorem tbl_upf_out (f : Nat → Int × Int) {k : Nat} {v : Int × Int} : ∀ {n : Nat}, n ≤ k → tbl (upf f k v) n = tbl f n
  | 0, _ => rfl
  | n + 1, h => by
    show tbl (upf f k v) n ++ _ = tbl f n ++ _
    rw [tbl_upf_out f (by omega)]
    unfold upf
    rw [if_neg (by omega)]
theorem tbl_set (f : Nat → Int × Int) {k : Nat} {x y : Int} : ∀ {n : Nat}, k < n → ((tbl f n).set (2 * k) x).set (2 * k + 1) y = tbl (upf f k (x, y)) n
  | 0, h => absurd h (by omega)
  | n + 1, h => by
    show ((tbl f n ++ [(f n).1, (f n).2]).set (2 * k) x).set (2 * k + 1) y = tbl (upf f k (x, y)) n ++ [(upf f k (x, y) n).1, (upf f k (x, y) n).2]
    have hl := tbl_len f n
    by_cases e : k = n
    · subst e
      rw [List.set_append_right _ _ (by omega), List.set_append_right _ _ (by omega), hl, Nat.sub_self, show 2 * k + 1 - 2 * k = 1 by omega, tbl_upf_out f (Nat.le_refl _)]
      unfold upf
      rw [if_pos rfl]
      rfl
    · rw [List.set_append_left _ _ (by omega), List.set_append_left _ _ (by rw [List.length_set]; omega), tbl_set f (by omega)]
      unfold upf
      rw [if_neg (by omega)]
def pg (s u : Int) (n : Nat) (f : Nat → Int × Int) (d : List Int) : List Int := s :: u :: (tbl f n ++ (List.replicate (254 - 2 * n - d.length) 0 ++ d))
section
variable {s u : Int} {n : Nat} {f : Nat → Int × Int} {d : List Int}
theorem pg_len (h : 2 * n + d.length ≤ 254) : (pg s u n f d).length = 256 := by
  unfold pg
  rw [List.length_cons, List.length_cons, List.length_append, tbl_len, List.length_append, List.length_replicate]
  omega
theorem pg_ent {k : Nat} (h : k < n) : (pg s u n f d).getD (2 + 2 * k) 0 = (f k).1 ∧ (pg s u n f d).getD (3 + 2 * k) 0 = (f k).2 := by
  have e := tbl_get f h
  have hl := tbl_len f n
  unfold pg
  rw [List.getD_eq_getElem?_getD, List.getD_eq_getElem?_getD, show 2 + 2 * k = 2 * k + 1 + 1 by omega, show 3 + 2 * k = (2 * k + 1) + 1 + 1 by omega]
  rw [List.getElem?_cons_succ, List.getElem?_cons_succ, List.getElem?_cons_succ, List.getElem?_cons_succ, List.getElem?_append_left (by omega), List.getElem?_append_left (by omega), e.1, e.2]
  exact ⟨rfl, rfl⟩
theorem pg_set {k : Nat} {x y : Int} (h : k < n) : ((pg s u n f d).set (2 + 2 * k) x).set (3 + 2 * k) y = pg s u n (upf f k (x, y)) d := by
  have hl := tbl_len f n
  unfold pg
  rw [show 2 + 2 * k = 2 * k + 1 + 1 by omega, show 3 + 2 * k = (2 * k + 1) + 1 + 1 by omega, List.set_cons_succ, List.set_cons_succ, List.set_cons_succ, List.set_cons_succ, List.set_append_left _ _ (by omega), List.set_append_left _ _ (by rw [List.length_set]; omega), tbl_set f h]
theorem pg_drop {p e : List Int} (hd : d = p ++ e) (h : 2 * n + d.length ≤ 254) : (pg s u n f d).drop (256 - e.length) = e := by
  have hl := tbl_len f n
  have hd2 : d.length = p.length + e.length := by rw [hd, List.length_append]
  have : pg s u n f d = (s :: u :: (tbl f n ++ (List.replicate (254 - 2 * n - d.length) 0 ++ p))) ++ e := by
    unfold pg
    rw [hd]
    simp
  rw [this, List.drop_append_of_le_length]
  · rw [List.drop_of_length_le, List.nil_append]
    simp only [List.length_cons, List.length_append, hl, List.length_replicate]
    omega
  · simp only [List.length_cons, List.length_append, hl, List.length_replicate]
    omega
theorem pg_ins {r : List Int} (h : 2 * n + (r.length + d.length) ≤ 254) : (pg s u n f d).take (256 - (r ++ d).length) ++ r ++ (pg s u n f d).drop (256 - d.length) = pg s u n f (r ++ d) := by
  have hl := tbl_len f n
  have hrd : 256 - (r ++ d).length = 256 - d.length - r.length := by rw [List.length_append]; omega
  rw [hrd]
  have hd : (pg s u n f d).drop (256 - d.length) = d := pg_drop (p := []) (e := d) (List.nil_append d).symm (by omega)
  rw [hd]
  unfold pg
  rw [show (s :: u :: (tbl f n ++ (List.replicate (254 - 2 * n - d.length) 0 ++ d))) = (s :: u :: tbl f n) ++ (List.replicate (254 - 2 * n - d.length) 0 ++ d) by simp]
  rw [List.take_append, List.take_of_length_le (by simp only [List.length_cons, hl]; omega), List.take_append_of_le_length (by simp only [List.length_cons, hl, List.length_replicate]; omega), List.take_replicate]
  simp only [List.length_cons, hl, List.length_append]
  rw [show min (256 - d.length - r.length - (2 * n + 1 + 1)) (254 - 2 * n - d.length) = 254 - 2 * n - (r.length + d.length) by omega]
  simp
theorem pg_used {v : Int} : (pg s u n f d).set 1 v = pg s v n f d := rfl
theorem pg_rest (h : 2 * n + d.length ≤ 254) : rest (pg s u n f d) (2 + 2 * (n : Int)) (256 - (d.length : Int)) = (List.replicate (254 - 2 * n - d.length) 0).map .int := by
  have hl := tbl_len f n
  have hp := pg_len (s := s) (u := u) (f := f) h
  unfold rest
  rw [show (2 + 2 * (n : Int)) = ((2 + 2 * n : Nat) : Int) by omega, show (256 - (d.length : Int)) = ((256 - d.length : Nat) : Int) by omega, cut_mid _ _ _ (by rw [List.length_map, hp]; omega), ← List.map_drop, ← List.map_take]
  congr 1
  unfold pg
  rw [show 2 + 2 * n = 2 * n + 1 + 1 by omega, List.drop_succ_cons, List.drop_succ_cons, List.drop_append, List.drop_of_length_le (by omega), hl, Nat.sub_self, List.nil_append, List.drop_zero, List.take_append_of_le_length (by rw [List.length_replicate]; omega), List.take_of_length_le (by rw [List.length_replicate]; omega)]
end
/-! laying rows -/
def lay (d : List Int) (f : Nat → Int × Int) : List (Nat × List Int) → (Nat → Int × Int) × List Int
  | [] => (f, d)
  | (s, r) :: t => lay (r ++ d) (upf f s (((256 - (r ++ d).length : Nat) : Int), (r.length : Int))) t
def total : List (Nat × List Int) → Nat
  | [] => 0
  | (_, r) :: t => r.length + total t
theorem lay_len : ∀ {rows : List (Nat × List Int)} {d : List Int} {f : Nat → Int × Int}, (lay d f rows).2.length = total rows + d.length
  | [], d, f => by show d.length = 0 + d.length; omega
  | (s, r) :: t, d, f => by show (lay (r ++ d) _ t).2.length = r.length + total t + d.length; rw [lay_len, List.length_append]; omega
def pageOf (rows : List (Nat × List Int)) (n : Nat) : List Int := pg n (total rows) n (lay [] (fun _ => (0, 0)) rows).1 (lay [] (fun _ => (0, 0)) rows).2
def rowsD (rows : List (Nat × List Int)) : List D := rows.map fun p => .tuple [.int (p.1 : Int), iL p.2]
theorem zeros_pg (n : Nat) (h : 2 * n ≤ 254) : (List.replicate 256 (0 : Int)).set 0 (n : Int) = pg n 0 n (fun _ => (0, 0)) [] := by
  have ht : ∀ m, tbl (fun _ => (0, 0)) m = List.replicate (2 * m) (0 : Int) := fun m => by
    induction m with
    | zero => rfl
    | succ m ih =>
      show tbl _ m ++ [0, 0] = _
      rw [ih, show 2 * (m + 1) = 2 * m + 2 by omega, ← List.replicate_append_replicate]
      rfl
  unfold pg
  rw [ht]
  show (n : Int) :: (0 : Int) :: List.replicate 254 0 = _
  rw [List.append_nil, List.length_nil, List.replicate_append_replicate, show 2 * n + (254 - 2 * n - 0) = 254 by omega]
end K52

namespace K52
open PySem Pd
theorem setSl_iL {G : Type} {env : Pd.Env} {g g1 g2 g3 : G} {j : Nat} {lo hi : MO G} {me : ME G} {xs ys : List Int} {a c : Nat} (h : me env g = some (iL ys, g1)) (hl : lo env g1 = some (some (a : Int), g2)) (hh : hi env g2 = some (some (c : Int), g3)) (hj : env.at j = .ow (xs.map .int)) (hac : a ≤ c) (hc : c ≤ xs.length) (hz : xs.length + ys.length ≤ 1000) :
    mSetSl j lo hi me env g = some (.nx, env.set j (.ow ((xs.take a ++ ys ++ xs.drop c).map .int)), g3) := by
  unfold mSetSl
  rw [h]; dsimp only [bD]; rw [hl]; dsimp only [bD]; rw [hh]; dsimp only [bD]; rw [hj]
  dsimp only
  rw [if_pos ⟨by omega, by omega, by rw [List.length_map]; omega, by rw [List.length_map, List.length_map, line_val]; omega⟩, Int.toNat_natCast, Int.toNat_natCast, List.map_append, List.map_append, List.map_take, List.map_drop]
theorem bt_row {G : Type} {p : Nat × List Int} {a b : Nat} {env : Pd.Env} {g : G} : bTup 2 (bCons (bName a) (bCons (bName b) bNil)) (.tuple [.int (p.1 : Int), iL p.2]) env g = some ((env.set a (.sh (.int (p.1 : Int)))).set b (.sh (iL p.2)), g) := rfl
theorem laid_loop {n : Nat} {R S : SV} : ∀ {rows : List (Nat × List Int)} {d : List Int} {f : Nat → Int × Int} {a b : SV}, (∀ p ∈ rows, p.1 < n) → 2 * n + (total rows + d.length) ≤ 254 →
    ∃ a' b', loopL (bTup 2 (bCons (bName 4) (bCons (bName 5) bNil))) lb_laid_1 (rowsD rows) [R, S, .ow ((pg n 0 n f d).map .int), .sh (.int ((256 - d.length : Nat) : Int)), a, b] () =
      some (Ct.nx, [R, S, .ow ((pg n 0 n (lay d f rows).1 (lay d f rows).2).map .int), .sh (.int ((256 - (lay d f rows).2.length : Nat) : Int)), a', b'], ())
  | [], d, f, a, b, _, _ => ⟨a, b, rfl⟩
  | (s, r) :: t, d, f, a, b, hs, hz => by
    have hz' : 2 * n + (r.length + total t + d.length) ≤ 254 := hz
    have hsn : s < n := hs (s, r) (by simp)
    have hrd : (r ++ d).length = r.length + d.length := List.length_append
    obtain ⟨a', b', ih⟩ := laid_loop (n := n) (R := R) (S := S) (rows := t) (d := r ++ d) (f := upf f s (((256 - (r ++ d).length : Nat) : Int), (r.length : Int))) (a := .sh (.int (s : Int))) (b := .sh (iL r)) (fun p hp => hs p (by simp [hp])) (by omega)
    refine ⟨a', b', loop_nx rfl ?_ ih⟩
    have l1 := pg_len (s := n) (u := 0) (n := n) (f := f) (d := d) (by omega)
    have l2 : ((pg n 0 n f d).set (2 + 2 * s) ((256 - (r ++ d).length : Nat) : Int)).length = 256 := by rw [List.length_set]; exact l1
    refine seq_nx (set_e (op_e (z := .int ((256 - (r ++ d).length : Nat) : Int)) rfl (call_e (cons_e rfl nil_e) iL_len) ?_)) ?_
    · show some (PyData.int (((256 - d.length : Nat) : Int) - (r.length : Int))) = _
      congr 2; omega
    refine seq_nx (setIx_iL (xs := pg n 0 n f d) (k := 2 + 2 * s) rfl (op_e rfl (op_e rfl rfl (mul_l (by decide))) rfl) rfl (by omega)) ?_
    refine seq_nx (setIx_iL (xs := (pg n 0 n f d).set (2 + 2 * s) ((256 - (r ++ d).length : Nat) : Int)) (k := 3 + 2 * s) (call_e (cons_e rfl nil_e) iL_len) (op_e (op_e rfl (op_e rfl rfl (mul_l (by decide))) rfl) rfl ?_) rfl (by omega)) ?_
    · show some (PyData.int ((2 + 2 * (s : Int)) + 1)) = _
      congr 2; omega
    rw [pg_set hsn]
    have l3 := pg_len (s := n) (u := 0) (n := n) (f := upf f s (((256 - (r ++ d).length : Nat) : Int), (r.length : Int))) (d := d) (by omega)
    refine (setSl_iL (xs := pg n 0 n (upf f s (((256 - (r ++ d).length : Nat) : Int), (r.length : Int))) d) (ys := r) (a := 256 - (r ++ d).length) (c := 256 - d.length) rfl (part_e rfl) (part_e (op_e rfl (call_e (cons_e rfl nil_e) iL_len) ?_)) rfl (by omega) (by omega) (by omega)).trans ?_
    · show some (PyData.int (((256 - (r ++ d).length : Nat) : Int) + (r.length : Int))) = _
      congr 2; omega
    · rw [pg_ins (by omega)]
      rfl
theorem empty_e : F_empty_page [] = some ((List.replicate 256 (0 : Int)).map .int) := rfl
theorem laid_e {rows : List (Nat × List Int)} {n : Nat} (hs : ∀ p ∈ rows, p.1 < n) (hz : 2 * n + total rows ≤ 254) : F_laid [.list (rowsD rows), .int (n : Int)] = some (iL (pageOf rows n)) := by
  obtain ⟨a', b', h⟩ := laid_loop (n := n) (R := .sh (.list (rowsD rows))) (S := .sh (.int (n : Int))) (rows := rows) (d := []) (f := fun _ => (0, 0)) (a := .un) (b := .un) hs (by simpa using hz)
  have hl := lay_len (rows := rows) (d := []) (f := fun _ => (0, 0))
  have l1 := pg_len (s := n) (u := 0) (n := n) (f := (lay [] (fun _ => (0, 0)) rows).1) (d := (lay [] (fun _ => (0, 0)) rows).2) (by rw [hl]; simpa using hz)
  refine runP_Rl (N := 6) (n := 2) (m := m_laid) (ds := [.list (rowsD rows), .int (n : Int)]) (rl_nx (setF_e (callF_e nil_e empty_e)) (rl_nx (setIx_iL (xs := List.replicate 256 0) (k := 0) rfl rfl rfl (by rw [List.length_replicate]; decide)) ?_))
  rw [zeros_pg n (by omega)]
  refine rl_nx (set_e rfl) (rl_nx (for_e (itL_e rfl) h) (rl_nx (setIx_iL (xs := pg n 0 n (lay [] (fun _ => (0, 0)) rows).1 (lay [] (fun _ => (0, 0)) rows).2) (k := 1) (op_e rfl rfl rfl) rfl rfl (by omega)) (rl_retOw ?_)))
  rw [pg_used]
  have e : ((256 : Int) - ((256 - (lay [] (fun _ => (0, 0)) rows).2.length : Nat) : Int)) = (total rows : Int) := by rw [hl, List.length_nil]; omega
  rw [e]
  rfl
end K52

namespace K52
open PySem Pd
theorem splice {xs r : List Int} {lo j : Nat} (h : lo + r.length ≤ xs.length) (hj : j < r.length) : (xs.take lo ++ r.take j ++ xs.drop (lo + j)).set (lo + j) (r.getD j 0) = xs.take lo ++ r.take (j + 1) ++ xs.drop (lo + (j + 1)) := by
  have e1 : (xs.take lo ++ r.take j).length = lo + j := by rw [List.length_append, List.length_take, List.length_take]; omega
  rw [List.drop_eq_getElem_cons (show lo + j < xs.length by omega), List.set_append_right _ _ (by omega), e1, Nat.sub_self, List.set_cons_zero]
  have e2 : r.getD j 0 = r[j] := by rw [List.getD_eq_getElem?_getD, List.getElem?_eq_getElem hj]; rfl
  rw [e2, show r.take (j + 1) = r.take j ++ [r[j]] from List.take_succ_eq_append_getElem hj, show lo + (j + 1) = lo + j + 1 by omega]
  simp only [List.append_assoc, List.singleton_append, List.cons_append, List.nil_append]
theorem lput {xs r : List Int} {R S a : SV} {lo : Nat} {c : SV} (h : lo + r.length ≤ xs.length) (hx : xs.length ≤ 1000) : ∃ c', mFor (mRng1 (mCons (mCall dLen (mCons (mVar 5) mNil)) mNil)) (bName 6) lb__law_laid_1 [R, S, .ow (xs.map .int), .sh (.int (lo : Int)), a, .sh (iL r), c] () =
    some (.nx, [R, S, .ow ((xs.take lo ++ r ++ xs.drop (lo + r.length)).map .int), .sh (.int (lo : Int)), a, .sh (iL r), c'], ()) := by
  obtain ⟨e2, g2, q, c', rfl, _⟩ := loop_at (bt := bName 6) (mb := lb__law_laid_1) (fun j e (_ : Unit) => ∃ c', e = [R, S, .ow ((xs.take lo ++ r.take j ++ xs.drop (lo + j)).map .int), .sh (.int (lo : Int)), a, .sh (iL r), c'] ∧ True) (ds := rng 0 r.length) (k := 0)
    (env := [R, S, .ow (xs.map .int), .sh (.int (lo : Int)), a, .sh (iL r), c]) (g := ()) ⟨c, by rw [List.take_zero, List.append_nil, Nat.add_zero, List.take_append_drop], trivial⟩ (by
      rintro j d hd e g ⟨c', rfl, _⟩
      have hj : j < r.length := by
        have := (List.getElem?_eq_some_iff.mp hd).1
        rwa [rng_len] at this
      rw [rng_get hj] at hd
      cases hd
      rw [Nat.zero_add]
      refine ⟨_, rfl, _, (), .inl (setIx_iL (xs := xs.take lo ++ r.take j ++ xs.drop (lo + j)) (k := lo + j) (getix (k := j) rfl rfl (by omega) hj) (op_e rfl rfl ?_) rfl ?_), .sh (.int (0 + (j : Int))), ?_, trivial⟩
      · show some (PyData.int ((lo : Int) + (0 + (j : Int)))) = _
        congr 2; omega
      · rw [List.length_append, List.length_append, List.length_take, List.length_take, List.length_drop]; omega
      · rw [splice h hj]; rfl)
  rw [rng_len, Nat.zero_add, List.take_length] at q
  refine ⟨c', for_e (rng1_e (j := (r.length : Int)) (cons_e (call_e (cons_e rfl nil_e) iL_len) nil_e) (by omega)) ?_⟩
  cases g2
  exact q
theorem llaid_loop {n : Nat} {R S : SV} : ∀ {rows : List (Nat × List Int)} {d : List Int} {f : Nat → Int × Int} {a b c : SV}, (∀ p ∈ rows, p.1 < n) → 2 * n + (total rows + d.length) ≤ 254 →
    ∃ a' b' c', loopL (bTup 2 (bCons (bName 4) (bCons (bName 5) bNil))) lb__law_laid_2 (rowsD rows) [R, S, .ow ((pg n 0 n f d).map .int), .sh (.int ((256 - d.length : Nat) : Int)), a, b, c] () =
      some (Ct.nx, [R, S, .ow ((pg n 0 n (lay d f rows).1 (lay d f rows).2).map .int), .sh (.int ((256 - (lay d f rows).2.length : Nat) : Int)), a', b', c'], ())
  | [], d, f, a, b, c, _, _ => ⟨a, b, c, rfl⟩
  | (s, r) :: t, d, f, a, b, c, hs, hz => by
    have hz' : 2 * n + (r.length + total t + d.length) ≤ 254 := hz
    have hsn : s < n := hs (s, r) (by simp)
    have hrd : (r ++ d).length = r.length + d.length := List.length_append
    have l1 := pg_len (s := n) (u := 0) (n := n) (f := f) (d := d) (by omega)
    have l3 := pg_len (s := n) (u := 0) (n := n) (f := upf f s (((256 - (r ++ d).length : Nat) : Int), (r.length : Int))) (d := d) (by omega)
    obtain ⟨c1, hl⟩ := lput (xs := pg n 0 n (upf f s (((256 - (r ++ d).length : Nat) : Int), (r.length : Int))) d) (r := r) (R := R) (S := S) (a := .sh (.int (s : Int))) (lo := 256 - (r ++ d).length) (c := c) (by omega) (by omega)
    rw [show 256 - (r ++ d).length + r.length = 256 - d.length by omega, pg_ins (by omega)] at hl
    obtain ⟨a', b', c', ih⟩ := llaid_loop (n := n) (R := R) (S := S) (rows := t) (d := r ++ d) (f := upf f s (((256 - (r ++ d).length : Nat) : Int), (r.length : Int))) (a := .sh (.int (s : Int))) (b := .sh (iL r)) (c := c1) (fun p hp => hs p (by simp [hp])) (by omega)
    refine ⟨a', b', c', loop_nx rfl ?_ ih⟩
    refine seq_nx (set_e (op_e (z := .int ((256 - (r ++ d).length : Nat) : Int)) rfl (call_e (cons_e rfl nil_e) iL_len) ?_)) ?_
    · have ez : ((256 - d.length : Nat) : Int) - (r.length : Int) = ((256 - (r ++ d).length : Nat) : Int) := by omega
      exact congrArg (fun z => some (PyData.int z)) ez
    have ix : ∀ (k : Nat) (xs : List Int) (m : ME Unit) (v z : Int) (e : Pd.Env), e.at 2 = .ow (xs.map .int) → m e () = some (.int z, ()) → z = (k : Int) → k < xs.length → bSub 2 m (.int v) e () = some (e.set 2 (.ow ((xs.set k v).map .int)), ()) := fun k xs m v z e h1 h2 h3 h4 => by
      subst h3
      unfold bSub
      rw [h2]; dsimp only [bD]; rw [h1]; dsimp only
      rw [ixN_nat (by rw [List.length_map]; exact h4), List.map_set]
      rfl
    have q1 := ix (2 + 2 * s) (pg n 0 n f d) (mOp dAdd (mC (.int 2)) (mOp dMul (mC (.int 2)) (mVar 4))) ((256 - (r ++ d).length : Nat) : Int) (2 + 2 * (s : Int)) [R, S, .ow ((pg n 0 n f d).map .int), .sh (.int ((256 - (r ++ d).length : Nat) : Int)), .sh (.int (s : Int)), .sh (iL r), c] rfl (op_e rfl (op_e rfl rfl (mul_l (by decide))) rfl) (by omega) (by omega)
    have q2 := ix (3 + 2 * s) ((pg n 0 n f d).set (2 + 2 * s) ((256 - (r ++ d).length : Nat) : Int)) (mOp dAdd (mC (.int 3)) (mOp dMul (mC (.int 2)) (mVar 4))) (r.length : Int) (3 + 2 * (s : Int)) [R, S, .ow (((pg n 0 n f d).set (2 + 2 * s) ((256 - (r ++ d).length : Nat) : Int)).map .int), .sh (.int ((256 - (r ++ d).length : Nat) : Int)), .sh (.int (s : Int)), .sh (iL r), c] rfl (op_e rfl (op_e rfl rfl (mul_l (by decide))) rfl) (by omega) (by rw [List.length_set]; omega)
    rw [pg_set hsn] at q2
    exact seq_nx (asg_e (tup_e (cons_e rfl (cons_e (call_e (cons_e rfl nil_e) iL_len) nil_e))) (tup2_e q1 q2)) hl
theorem llaid_e {rows : List (Nat × List Int)} {n : Nat} (hs : ∀ p ∈ rows, p.1 < n) (hz : 2 * n + total rows ≤ 254) : F__law_laid [.list (rowsD rows), .int (n : Int)] = some (iL (pageOf rows n)) := by
  obtain ⟨a', b', c', h⟩ := llaid_loop (n := n) (R := .sh (.list (rowsD rows))) (S := .sh (.int (n : Int))) (rows := rows) (d := []) (f := fun _ => (0, 0)) (a := .un) (b := .un) (c := .un) hs (by simpa using hz)
  have hl := lay_len (rows := rows) (d := []) (f := fun _ => (0, 0))
  have l1 := pg_len (s := n) (u := 0) (n := n) (f := (lay [] (fun _ => (0, 0)) rows).1) (d := (lay [] (fun _ => (0, 0)) rows).2) (by rw [hl]; simpa using hz)
  refine runP_Rl (N := 7) (n := 2) (m := m__law_laid) (ds := [.list (rowsD rows), .int (n : Int)]) (rl_nx (setF_e (ds := (List.replicate 256 (0 : Int)).map .int) rfl) (rl_nx (asg_e (g1 := ()) (g2 := ()) (e1 := [.sh (.list (rowsD rows)), .sh (.int (n : Int)), .ow ((pg n 0 n (fun _ => (0, 0)) []).map .int), .sh (.int 256), .un, .un, .un]) (tup_e (cons_e rfl (cons_e rfl nil_e))) ?_) ?_))
  · rw [← zeros_pg n (by omega), List.map_set]
    rfl
  refine rl_nx (for_e (itL_e rfl) h) (rl_nx (setIx_iL (xs := pg n 0 n (lay [] (fun _ => (0, 0)) rows).1 (lay [] (fun _ => (0, 0)) rows).2) (k := 1) (op_e rfl rfl rfl) rfl rfl (by omega)) (rl_retOw ?_))
  rw [pg_used]
  have e : ((256 : Int) - ((256 - (lay [] (fun _ => (0, 0)) rows).2.length : Nat) : Int)) = (total rows : Int) := by rw [hl, List.length_nil]; omega
  rw [e]
  rfl
end K52

namespace K52
open PySem Pd
/-! reading the rows back -/
theorem lay_out : ∀ {rows : List (Nat × List Int)} {d : List Int} {f : Nat → Int × Int} {k : Nat}, (∀ p ∈ rows, p.1 ≠ k) → (lay d f rows).1 k = f k
  | [], d, f, k, _ => rfl
  | (s, r) :: t, d, f, k, h => by
    show (lay (r ++ d) _ t).1 k = _
    rw [lay_out fun p hp => h p (by simp [hp])]
    unfold upf
    rw [if_neg fun e => h (s, r) (by simp) e.symm]
theorem lay_suf : ∀ {rows : List (Nat × List Int)} {d : List Int} {f : Nat → Int × Int}, ∃ pre, (lay d f rows).2 = pre ++ d
  | [], d, f => ⟨[], rfl⟩
  | (s, r) :: t, d, f => by
    obtain ⟨pre, h⟩ := lay_suf (rows := t) (d := r ++ d) (f := upf f s (((256 - (r ++ d).length : Nat) : Int), (r.length : Int)))
    exact ⟨pre ++ r, by show (lay (r ++ d) _ t).2 = _; rw [h, List.append_assoc]⟩
def Srt (rows : List (Nat × List Int)) : Prop := rows.Pairwise fun a b => a.1 < b.1
theorem lay_mem : ∀ {rows : List (Nat × List Int)} {d : List Int} {f : Nat → Int × Int} {s : Nat} {r : List Int}, Srt rows → (s, r) ∈ rows → ∃ pre d0, (lay d f rows).2 = pre ++ (r ++ d0) ∧ (lay d f rows).1 s = (((256 - (r ++ d0).length : Nat) : Int), (r.length : Int))
  | [], d, f, s, r, _, h => nomatch h
  | (s', r') :: t, d, f, s, r, hs, h => by
    have hs' := List.pairwise_cons.mp hs
    rcases List.mem_cons.mp h with e | e
    · obtain ⟨e1, e2⟩ := Prod.mk.inj e
      subst e1; subst e2
      obtain ⟨pre, h1⟩ := lay_suf (rows := t) (d := r ++ d) (f := upf f s (((256 - (r ++ d).length : Nat) : Int), (r.length : Int)))
      refine ⟨pre, d, h1, ?_⟩
      show (lay (r ++ d) _ t).1 s = _
      rw [lay_out fun p hp => by have := hs'.1 p hp; omega]
      unfold upf
      rw [if_pos rfl]
    · exact lay_mem (rows := t) hs'.2 e
/-- rows that fit -/
structure Val (rows : List (Nat × List Int)) (n : Nat) : Prop where
  hs : ∀ p ∈ rows, p.1 < n
  hz : 2 * n + total rows ≤ 254
  srt : Srt rows
  ne : ∀ p ∈ rows, p.2 ≠ []
section
variable {rows : List (Nat × List Int)} {n : Nat} (V : Val rows n)
include V
theorem Val.dl : (lay [] (fun _ => (0, 0)) rows).2.length = total rows := by have := lay_len (rows := rows) (d := []) (f := fun _ => (0, 0)); simpa using this
theorem Val.len : (pageOf rows n).length = 256 := pg_len (by rw [V.dl]; exact V.hz)
theorem Val.at0 : (pageOf rows n).getD 0 0 = (n : Int) := rfl
theorem Val.at1 : (pageOf rows n).getD 1 0 = (total rows : Int) := rfl
theorem Val.slots : F_slots_in [iL (pageOf rows n)] = some (.int (n : Int)) := runP_re (N := 1) (n := 1) (m := m_slots_in) (ret_e (op_e rfl rfl (iL_get (j := 0) rfl)))
theorem Val.used : F_used_in [iL (pageOf rows n)] = some (.int (total rows : Int)) := runP_re (N := 1) (n := 1) (m := m_used_in) (ret_e (op_e rfl rfl (iL_get (j := 1) rfl)))
theorem Val.ent {k : Nat} (hk : k < n) : F_slot_of [iL (pageOf rows n), .int (k : Int)] = some (.tuple [.int ((lay [] (fun _ => (0, 0)) rows).1 k).1, .int ((lay [] (fun _ => (0, 0)) rows).1 k).2]) := by
  have e := pg_ent (s := n) (u := total rows) (n := n) (f := (lay [] (fun _ => (0, 0)) rows).1) (d := (lay [] (fun _ => (0, 0)) rows).2) hk
  have q := slot_of_e (xs := pageOf rows n) (k := k) (by have := V.len; have := V.hz; omega)
  unfold pageOf at q
  rw [e.1, e.2] at q
  exact q
theorem Val.row {s : Nat} {r : List Int} (h : (s, r) ∈ rows) : F_row_in [iL (pageOf rows n), .int (s : Int)] = some (iL r) := by
  have hsn := V.hs _ h
  have hrne := V.ne _ h
  obtain ⟨pre, d0, h1, h2⟩ := lay_mem (d := []) (f := fun _ => (0, 0)) V.srt h
  have he := V.ent hsn
  rw [h2] at he
  have hrl : 0 < r.length := List.length_pos_iff.mpr hrne
  have hd := V.dl
  have hz := V.hz
  have hdl : (pre ++ (r ++ d0)).length = total rows := by rw [← h1]; exact hd
  rw [List.length_append, List.length_append] at hdl
  have hrd : (r ++ d0).length = r.length + d0.length := List.length_append
  have sl : ((pageOf rows n).drop (256 - (r ++ d0).length)).take r.length = r := by
    have := pg_drop (s := n) (u := total rows) (n := n) (f := (lay [] (fun _ => (0, 0)) rows).1) (d := (lay [] (fun _ => (0, 0)) rows).2) (p := pre) (e := r ++ d0) h1 (by rw [hd]; omega)
    unfold pageOf
    rw [this, List.take_append_of_le_length (Nat.le_refl _), List.take_length]
  refine runP_re (N := 4) (n := 2) (m := m_row_in) (ds := [iL (pageOf rows n), .int (s : Int)]) (u := ()) (seq_nx (if_no (not_e (b := true) (chain_t rfl rfl (le_t (by omega)) (call_e (cons_e rfl nil_e) V.slots) (lt_t (by show (s : Int) < (n : Int); omega))))) (seq_nx (asg_e (call_e (cons_e rfl (cons_e rfl nil_e)) he) rfl)
    (ret_e (mif_t (opT_e rfl rfl (gt_t (by omega))) (L_e (callF_e (cons_e (L_e (xs := r.map .int) ((slL_e (l := some ((256 - (r ++ d0).length : Nat) : Int)) (h := some ((256 - (r ++ d0).length + r.length : Nat) : Int)) rfl (part_e rfl) (part_e (op_e rfl rfl rfl))).trans ?_)) nil_e) rfl))))))
  rw [cut_mid _ _ _ (by rw [List.length_map, V.len]; omega), ← List.map_drop, ← List.map_take, show 256 - (r ++ d0).length + r.length - (256 - (r ++ d0).length) = r.length by omega, sl]
theorem Val.noRow {k : Nat} (h : k < n) (hn : ∀ p ∈ rows, p.1 ≠ k) : F_row_in [iL (pageOf rows n), .int (k : Int)] = some .none := by
  have he := V.ent h
  rw [lay_out hn] at he
  exact runP_re (N := 4) (n := 2) (m := m_row_in) (ds := [iL (pageOf rows n), .int (k : Int)]) (u := ()) (seq_nx (if_no (not_e (b := true) (chain_t rfl rfl (le_t (by omega)) (call_e (cons_e rfl nil_e) V.slots) (lt_t (by show (k : Int) < (n : Int); omega))))) (seq_nx (asg_e (call_e (cons_e rfl (cons_e rfl nil_e)) he) rfl)
    (ret_e (mif_f (opT_e rfl rfl (gt_f (by decide))) rfl))))
theorem Val.rowsLoop : ∀ {m k : Nat} {t : List (Nat × List Int)} {acc : List D} {a b : SV}, k + m = n → (∀ p ∈ rows, k ≤ p.1 ↔ p ∈ t) → Srt t → (∀ p ∈ t, k ≤ p.1 ∧ p ∈ rows) → acc.length + m ≤ 1000 →
    ∃ a' b', loopL (bName 2) lb_rows_in_1 (rng (k : Int) m) [.sh (iL (pageOf rows n)), .ow acc, a, b] () = some (Ct.nx, [.sh (iL (pageOf rows n)), .ow (acc ++ rowsD t), a', b'], ())
  | 0, k, t, acc, a, b, hk, h1, hs, h2, hl => by
    have : t = [] := List.eq_nil_iff_forall_not_mem.mpr fun p hp => by
      have := V.hs p (h2 p hp).2
      have := (h2 p hp).1
      omega
    subst this
    exact ⟨a, b, by rw [show rowsD [] = [] from rfl, List.append_nil]; rfl⟩
  | m + 1, k, t, acc, a, b, hk, h1, hs, h2, hl => by
    rw [rng_succ, show ((k : Int) + 1) = ((k + 1 : Nat) : Int) from rfl]
    by_cases hex : ∃ r t', t = (k, r) :: t'
    · obtain ⟨r, t', rfl⟩ := hex
      have hs' := List.pairwise_cons.mp hs
      have hm : (k, r) ∈ rows := (h2 (k, r) (by simp)).2
      obtain ⟨a', b', ih⟩ := Val.rowsLoop (m := m) (k := k + 1) (t := t') (acc := acc ++ [.tuple [.int (k : Int), iL r]]) (a := .sh (.int (k : Int))) (b := .sh (iL r)) (by omega) (fun p hp => by
        constructor
        · intro hkp
          rcases List.mem_cons.mp ((h1 p hp).mp (by omega)) with e | e
          · rw [e] at hkp; exact absurd hkp (by show ¬ k + 1 ≤ k; omega)
          · exact e
        · intro hp'
          have := hs'.1 p hp'
          show k + 1 ≤ p.1
          have : k < p.1 := this
          omega) hs'.2 (fun p hp => ⟨by have : k < p.1 := hs'.1 p hp; omega, (h2 p (List.mem_cons_of_mem _ hp)).2⟩) (by rw [List.length_append, List.length_singleton]; omega)
      refine ⟨a', b', loop_nx rfl (seq_nx (set_e (call_e (cons_e rfl (cons_e rfl nil_e)) (V.row hm))) (if_t (opT_e rfl rfl rfl) (app_e (tup_e (cons_e rfl (cons_e rfl nil_e))) rfl (by rw [line_val]; omega)))) ?_⟩
      rw [show acc ++ rowsD ((k, r) :: t') = acc ++ [.tuple [.int (k : Int), iL r]] ++ rowsD t' by rw [List.append_assoc]; rfl]
      exact ih
    · have hno : ∀ p ∈ rows, p.1 ≠ k := fun p hp e => by
        have hpt := (h1 p hp).mp (by omega)
        cases t with
        | nil => cases hpt
        | cons q t' =>
          have hs' := List.pairwise_cons.mp hs
          have hq : q.1 = k := by
            rcases List.mem_cons.mp hpt with z | z
            · rw [← z]; exact e
            · have := hs'.1 p z
              have := (h2 q (by simp)).1
              omega
          exact hex ⟨q.2, t', by rw [← hq]⟩
      obtain ⟨a', b', ih⟩ := Val.rowsLoop (m := m) (k := k + 1) (t := t) (acc := acc) (a := .sh (.int (k : Int))) (b := .sh .none) (by omega) (fun p hp => by
        constructor
        · intro hkp; exact (h1 p hp).mp (by omega)
        · intro hp'
          have := (h2 p hp').1
          have := hno p hp
          omega) hs (fun p hp => ⟨by have := (h2 p hp).1; have := hno p (h2 p hp).2; omega, (h2 p hp).2⟩) (by omega)
      exact ⟨a', b', loop_nx rfl (seq_nx (set_e (call_e (cons_e rfl (cons_e rfl nil_e)) (V.noRow (by omega) hno))) (if_no (opT_e rfl rfl rfl))) ih⟩
theorem Val.rows_in : F_rows_in [iL (pageOf rows n)] = some (.list (rowsD rows)) := by
  have hz := V.hz
  obtain ⟨a', b', h⟩ := V.rowsLoop (m := n) (k := 0) (t := rows) (acc := []) (a := .un) (b := .un) (by omega) (fun p hp => ⟨fun _ => hp, fun _ => Nat.zero_le _⟩) V.srt (fun p hp => ⟨Nat.zero_le _, hp⟩) (by simp; omega)
  rw [List.nil_append] at h
  exact runP_Rl (N := 4) (n := 1) (m := m_rows_in) (rl_nx (setF_e (lst_e nil_e)) (rl_nx (for_e (rng1_e (j := (n : Int)) (cons_e (call_e (cons_e rfl nil_e) V.slots) nil_e) (by omega)) h) (rl_retOw rfl)))
end
end K52

namespace K52
open PySem Pd
theorem max2_e (i j : Int) : dMax2 [.int i, .int j] = some (.int (if j > i then j else i)) := rfl
theorem min2_e (i j : Int) : dMin2 [.int i, .int j] = some (.int (if j < i then j else i)) := rfl
section
variable {rows : List (Nat × List Int)} {n : Nat} (V : Val rows n)
include V
/-- every slot has its row -/
theorem Val.free (hf : ∀ k, k < n → ∃ r, (k, r) ∈ rows) : F_first_free [iL (pageOf rows n)] = some (.int (n : Int)) := by
  have hz := V.hz
  obtain ⟨e2, g2, h, a', rfl, _⟩ := loop_inv (bt := bName 1) (mb := lb_first_free_1) (fun e (_ : Unit) => ∃ a', e = [.sh (iL (pageOf rows n)), a'] ∧ True) (ds := rng 0 n) (env := [.sh (iL (pageOf rows n)), .un]) (g := ()) ⟨_, rfl, trivial⟩ (by
    rintro x hx e g ⟨a', rfl, _⟩
    obtain ⟨k, hk, rfl⟩ := rng_mem hx
    obtain ⟨r, hr⟩ := hf k hk
    obtain ⟨pre, d0, h1, h2⟩ := lay_mem (d := []) (f := fun _ => (0, 0)) V.srt hr
    have he := V.ent hk
    rw [h2] at he
    have hrl : 0 < r.length := List.length_pos_iff.mpr (V.ne _ hr)
    exact ⟨_, rfl, _, (), .inl (if_no (opT_e (op_e (call_e (cons_e rfl (cons_e rfl nil_e)) he) rfl rfl) rfl (eq_if (by omega)))), _, rfl, trivial⟩)
  exact runP_re (N := 2) (n := 1) (m := m_first_free) (ds := [iL (pageOf rows n)]) (u := g2) (seq_nx (for_e (rng1_e (j := (n : Int)) (cons_e (call_e (cons_e rfl nil_e) V.slots) nil_e) (by omega)) h) (ret_e (call_e (cons_e rfl nil_e) V.slots)))
theorem Val.room (hf : ∀ k, k < n → ∃ r, (k, r) ∈ rows) : ∃ z : Int, F_room_in [iL (pageOf rows n)] = some (.int z) ∧ ∀ l : Nat, l ≤ 255 → 2 * (n + 1) + total rows + l ≤ 254 → (l : Int) ≤ z := by
  have hz := V.hz
  refine ⟨_, runP_re (N := 3) (n := 1) (m := m_room_in) (ds := [iL (pageOf rows n)]) (u := ()) (seq_nx (set_e (call_e (cons_e rfl nil_e) (V.free hf))) (seq_nx (set_e (call_e (cons_e (call_e (cons_e rfl nil_e) V.slots) (cons_e (op_e rfl rfl rfl) nil_e)) (max2_e _ _)))
    (ret_e (call_e (cons_e rfl (cons_e (call_e (cons_e rfl (cons_e (op_e (op_e (op_e rfl rfl rfl) (op_e rfl rfl (mul_l (by decide))) rfl) (call_e (cons_e rfl nil_e) V.used) rfl) nil_e)) (min2_e _ _)) nil_e)) (max2_e _ _))))), fun l h1 h2 => ?_⟩
  have e : (if ((n : Int) + 1 > (n : Int)) then ((n : Int) + 1) else (n : Int)) = (n : Int) + 1 := by rw [if_pos (by omega)]
  rw [e]
  split <;> split <;> omega
end
theorem alike_row (p q : Nat × List Int) : PySem.W.alike (.tuple [.int (p.1 : Int), iL p.2]) (.tuple [.int (q.1 : Int), iL q.2]) = true := by
  rw [PySem.W.alike, PySem.W.alikeAll, PySem.W.alikeAll, PySem.W.alikeAll, PySem.W.alike, PySem.W.alike, alike_iL]
  rfl
theorem sorted_rows {t : List (Nat × List Int)} (h : Srt t) : dSorted [.list (rowsD t)] = some (rowsD t) := by
  unfold dSorted
  have h1 : alikeB (rowsD t) = true := by
    unfold alikeB
    refine List.all_eq_true.mpr fun d hd => List.all_eq_true.mpr fun d' hd' => ?_
    obtain ⟨p, _, rfl⟩ := List.mem_map.mp hd
    obtain ⟨q, _, rfl⟩ := List.mem_map.mp hd'
    exact alike_row p q
  have h2 : (rowsD t).all isTupNe = true := List.all_eq_true.mpr fun d hd => by
    obtain ⟨p, _, rfl⟩ := List.mem_map.mp hd
    rfl
  have h3 : ((rowsD t).all fun d => decide (d.depth ≤ 60)) = true := List.all_eq_true.mpr fun d hd => by
    obtain ⟨p, _, rfl⟩ := List.mem_map.mp hd
    refine decide_eq_true (Nat.le_trans (depth_tup (n := 1) fun x hx => ?_) (by decide))
    rcases List.mem_cons.mp hx with e | e
    · rw [e, PyData.depth]; decide
    · rcases List.mem_cons.mp e with e | e
      · rw [e]; exact depth_iL1 _
      · cases e
  dsimp only
  rw [if_pos ⟨h1, .inl h2, h3⟩, List.mergeSort_of_pairwise]
  refine List.pairwise_map.mpr (List.Pairwise.imp ?_ h)
  intro a b hab
  rw [PySem.W.dataLe_eq]
  show (!PySem.W.dataLt (.tuple [.int (b.1 : Int), iL b.2]) (.tuple [.int (a.1 : Int), iL a.2])) = true
  rw [PySem.W.dataLt_tuple, PySem.W.dataLt_all_no (by rw [PySem.W.alike]) (by rw [PyData.eqv]; exact beq_false_of_ne (by omega)), PySem.W.dataLt_int, decide_eq_false (by omega)]
  rfl
section
variable {rows : List (Nat × List Int)} {n : Nat} (V : Val rows n)
include V
theorem total_app : ∀ {a b : List (Nat × List Int)}, total (a ++ b) = total a + total b
  | [], b => by show total b = 0 + total b; omega
  | (s, r) :: a, b => by show r.length + total (a ++ b) = r.length + total a + total b; rw [total_app]; omega
end
theorem Val.add {rows : List (Nat × List Int)} {n : Nat} (V : Val rows n) {r : List Int} (hr : r ≠ []) (hz : 2 * (n + 1) + total rows + r.length ≤ 254) : Val (rows ++ [(n, r)]) (n + 1) where
  hs := fun p hp => by
    rcases List.mem_append.mp hp with e | e
    · have := V.hs p e; omega
    · rw [List.mem_singleton.mp e]; show n < n + 1; omega
  hz := by rw [total_app V]; show 2 * (n + 1) + (total rows + (r.length + 0)) ≤ 254; omega
  srt := List.pairwise_append.mpr ⟨V.srt, List.pairwise_singleton _ _, fun a ha b hb => by rw [List.mem_singleton.mp hb]; exact V.hs a ha⟩
  ne := fun p hp => by
    rcases List.mem_append.mp hp with e | e
    · exact V.ne p e
    · rw [List.mem_singleton.mp e]; exact hr
end K52

namespace K52
open PySem Pd
theorem atI_last {α : Type} {xs : List α} {x : α} : L2.atI (xs ++ [x]) (-1) = some x := by
  unfold L2.atI L2.ixN
  rw [List.length_append, List.length_singleton, if_neg (by omega), if_pos (by omega)]
  show (xs ++ [x])[_]? = _
  rw [show ((-1 : Int) + ((xs.length + 1 : Nat) : Int)).toNat = xs.length by omega, List.getElem?_append_right (Nat.le_refl _), Nat.sub_self]
  rfl
theorem total_filter (p : Nat × List Int → Bool) : ∀ rows : List (Nat × List Int), total (rows.filter p) ≤ total rows
  | [] => Nat.le_refl _
  | (s, r) :: t => by
    have := total_filter p t
    rw [List.filter_cons]
    split
    · show r.length + total (t.filter p) ≤ r.length + total t; omega
    · show total (t.filter p) ≤ r.length + total t; omega
theorem Val.filter {rows : List (Nat × List Int)} {n : Nat} (V : Val rows n) (p : Nat × List Int → Bool) : Val (rows.filter p) n where
  hs := fun q hq => V.hs q (List.mem_filter.mp hq).1
  hz := by have := total_filter p rows; have := V.hz; omega
  srt := List.Pairwise.filter _ V.srt
  ne := fun q hq => V.ne q (List.mem_filter.mp hq).1
theorem Val.out {init : List (Nat × List Int)} {m : Nat} {rl : List Int} (V : Val (init ++ [(m, rl)]) (m + 1)) {k : Nat} (hk : k < m) {r : List Int} (hr : (k, r) ∈ init ++ [(m, rl)]) :
    F_taken_out [iL (pageOf (init ++ [(m, rl)]) (m + 1)), .int (k : Int)] = some (iL (pageOf ((init ++ [(m, rl)]).filter fun p => !(p.1 == k)) (m + 1))) := by
  have ef : (init ++ [(m, rl)]).filter (fun p => !(p.1 == k)) = init.filter (fun p => !(p.1 == k)) ++ [(m, rl)] := by
    rw [List.filter_append, List.filter_cons_of_pos (by simp; omega)]
    rfl
  have V2 := V.filter fun p => !(p.1 == k)
  have lay2 := laid_e V2.hs V2.hz
  have hrow : ∀ e : Pd.Env, e.at 0 = .sh (iL (pageOf (init ++ [(m, rl)]) (m + 1))) → e.at 1 = .sh (.int (k : Int)) → mCall F_row_in (mCons (mVar 0) (mCons (mVar 1) mNil)) e () = some (iL r, ()) := fun e e0 e1 => by
    refine call_e (cons_e (var_e e0) (cons_e (var_e e1) nil_e)) ?_
    exact V.row hr
  have hrows : ∀ e : Pd.Env, e.at 0 = .sh (iL (pageOf (init ++ [(m, rl)]) (m + 1))) → mCall F_rows_in (mCons (mVar 0) mNil) e () = some (.list (rowsD (init ++ [(m, rl)])), ()) := fun e e0 => by
    refine call_e (cons_e (var_e e0) nil_e) ?_
    exact V.rows_in
  have hlay : ∀ e : Pd.Env, e.at 2 = .sh (.list (rowsD ((init ++ [(m, rl)]).filter fun p => !(p.1 == k)))) → mCall F_laid (mCons (mVar 2) (mCons (mIf (mTru (mVar 2)) (mOp dAdd (mOp dIx (mOp dIx (mVar 2) (mUn dNeg (mC (.int 1)))) (mC (.int 0))) (mC (.int 1))) (mC (.int 0))) mNil)) e () = some (iL (pageOf ((init ++ [(m, rl)]).filter fun p => !(p.1 == k)) (m + 1)), ()) := fun e e2 => by
    have ed : rowsD ((init ++ [(m, rl)]).filter fun p => !(p.1 == k)) = rowsD (init.filter fun p => !(p.1 == k)) ++ [.tuple [.int (m : Int), iL rl]] := by rw [ef]; unfold rowsD; rw [List.map_append]; rfl
    have hx : mOp dIx (mVar 2) (mUn dNeg (mC (.int 1))) e () = some (.tuple [.int (m : Int), iL rl], ()) := op_e (var_e e2) (un_e (x := .int 1) (z := .int (-1)) rfl rfl) (by rw [ed]; exact atI_last)
    have ht : mTru (mVar 2) e () = some (true, ()) := tru_e (var_e e2) (by rw [ed]; show some (!(_ : List D).isEmpty) = _; simp)
    refine call_e (xs := [.list (rowsD ((init ++ [(m, rl)]).filter fun p => !(p.1 == k))), .int ((m + 1 : Nat) : Int)]) (cons_e (var_e e2) (cons_e (mif_t ht (op_e (op_e hx rfl rfl) rfl rfl)) nil_e)) ?_
    exact lay2
  refine runP_re (N := 4) (n := 2) (m := m_taken_out) (ds := [iL (pageOf (init ++ [(m, rl)]) (m + 1)), .int (k : Int)]) (u := ()) (seq_nx (if_no (opT_e (hrow _ rfl rfl) rfl rfl)) (seq_nx (then_e (setF_e (comp_e (itL_e (hrows _ rfl)) rfl (compL_filter (fun p : Nat × List Int => PyData.tuple [.int (p.1 : Int), iL p.2]) (fun p : Nat × List Int => PyData.tuple [.int (p.1 : Int), iL p.2]) (fun p : Nat × List Int => !(p.1 == k)) fun p hp => ⟨_, rfl, opT_e (op_e rfl rfl rfl) rfl ?_, rfl⟩)))) (ret_e (hlay _ rfl))))
  rw [ne_int]
  congr 3
  rw [Bool.eq_iff_iff]; simp; omega
end K52

namespace K52
open PySem Pd
theorem lay_at : ∀ {a : List (Nat × List Int)} {d : List Int} {f : Nat → Int × Int} {s : Nat} {r : List Int} {t : List (Nat × List Int)}, (∀ p ∈ t, p.1 ≠ s) → (lay d f (a ++ (s, r) :: t)).1 s = (((256 - (r.length + (total a + d.length)) : Nat) : Int), (r.length : Int))
  | [], d, f, s, r, t, h => by
    show (lay (r ++ d) _ t).1 s = _
    rw [lay_out h]
    unfold upf
    rw [if_pos rfl, List.length_append]
    show (((256 - (r.length + d.length) : Nat) : Int), (r.length : Int)) = (((256 - (r.length + (0 + d.length)) : Nat) : Int), (r.length : Int))
    rw [Nat.zero_add]
  | (s', r') :: a, d, f, s, r, t, h => by
    show (lay (r' ++ d) _ (a ++ (s, r) :: t)).1 s = _
    rw [lay_at h, List.length_append]
    show (((256 - (r.length + (total a + (r'.length + d.length))) : Nat) : Int), (r.length : Int)) = (((256 - (r.length + (r'.length + total a + d.length)) : Nat) : Int), (r.length : Int))
    rw [show total a + (r'.length + d.length) = r'.length + total a + d.length by omega]
theorem total_ap : ∀ {a b : List (Nat × List Int)}, total (a ++ b) = total a + total b
  | [], b => by show total b = 0 + total b; omega
  | (s, r) :: a, b => by show r.length + total (a ++ b) = r.length + total a + total b; rw [total_ap]; omega
/-- the reading of slots goes through -/
theorem Val.scan {rows : List (Nat × List Int)} {n : Nat} (V : Val rows n) : ∀ {m k : Nat} {a t : List (Nat × List Int)}, k + m = n → rows = a ++ t → (∀ p ∈ a, p.1 < k) → (∀ p ∈ t, k ≤ p.1) → scan (pageOf rows n) m k (((256 - total a : Nat) : Int)) = .inl ((256 - total rows : Nat) : Int)
  | 0, k, a, t, hk, e, ha, ht => by
    have : t = [] := List.eq_nil_iff_forall_not_mem.mpr fun p hp => by
      have := V.hs p (by rw [e]; exact List.mem_append_right _ hp)
      have := ht p hp
      omega
    rw [this, List.append_nil] at e
    rw [e]
    rfl
  | m + 1, k, a, t, hk, e, ha, ht => by
    have hz := V.hz
    have he := pg_ent (s := n) (u := total rows) (n := n) (f := (lay [] (fun _ => (0, 0)) rows).1) (d := (lay [] (fun _ => (0, 0)) rows).2) (k := k) (by omega)
    have h1 : (pageOf rows n).getD (2 + 2 * k) 0 = ((lay [] (fun _ => (0, 0)) rows).1 k).1 := he.1
    have h2 : (pageOf rows n).getD (3 + 2 * k) 0 = ((lay [] (fun _ => (0, 0)) rows).1 k).2 := he.2
    unfold K52.scan
    rw [h1, h2]
    by_cases hex : ∃ r t', t = (k, r) :: t'
    · obtain ⟨r, t', rfl⟩ := hex
      have hsr : Srt (a ++ (k, r) :: t') := by rw [← e]; exact V.srt
      have hst := List.pairwise_cons.mp (List.pairwise_append.mp hsr).2.1
      have hr : r ≠ [] := V.ne (k, r) (by rw [e]; simp)
      have hrl := List.length_pos_iff.mpr hr
      have hl : (lay [] (fun _ => (0, 0)) rows).1 k = (((256 - (r.length + (total a + 0)) : Nat) : Int), (r.length : Int)) := by
        rw [e]; exact lay_at fun p hp => by have : k < p.1 := hst.1 p hp; omega
      have ht2 : total rows = total a + (r.length + total t') := by rw [e, total_ap]; rfl
      rw [hl, if_neg (by show ¬ (r.length : Int) = 0; omega), if_pos (by show ((256 - (r.length + (total a + 0)) : Nat) : Int) = ((256 - total a : Nat) : Int) - (r.length : Int); omega)]
      have ih := Val.scan V (m := m) (k := k + 1) (a := a ++ [(k, r)]) (t := t') (by omega) (by rw [e]; simp) (fun p hp => by
        rcases List.mem_append.mp hp with z | z
        · have := ha p z; omega
        · rw [List.mem_singleton.mp z]; show k < k + 1; omega) (fun p hp => by have : k < p.1 := hst.1 p hp; omega)
      have et : total (a ++ [(k, r)]) = total a + r.length := by rw [total_ap]; show total a + (r.length + 0) = _; omega
      rw [et] at ih
      have ez : ((256 - total a : Nat) : Int) - (r.length : Int) = ((256 - (total a + r.length) : Nat) : Int) := by omega
      show K52.scan (pageOf rows n) m (k + 1) (((256 - total a : Nat) : Int) - (r.length : Int)) = _
      rw [ez]
      exact ih
    · have hno : ∀ p ∈ rows, p.1 ≠ k := fun p hp z => by
        rw [e] at hp
        rcases List.mem_append.mp hp with q | q
        · have := ha p q; omega
        · cases t with
          | nil => cases q
          | cons x t' =>
            have hsr : Srt (a ++ x :: t') := by rw [← e]; exact V.srt
            have hst := List.pairwise_cons.mp (List.pairwise_append.mp hsr).2.1
            have hx := ht x (by simp)
            rcases List.mem_cons.mp q with w | w
            · exact hex ⟨p.2, t', by rw [← w, ← z]⟩
            · have : x.1 < p.1 := hst.1 p w
              omega
      rw [lay_out hno, if_pos rfl, if_pos rfl]
      refine Val.scan V (m := m) (k := k + 1) (a := a) (t := t) (by omega) e (fun p hp => by have := ha p hp; omega) (fun p hp => by
        have := ht p hp
        have := hno p (by rw [e]; exact List.mem_append_right _ hp)
        omega)
end K52

namespace K52
open PySem Pd
def IsB (z : Int) : Prop := 0 ≤ z ∧ z < 256
theorem tbl_mem {f : Nat → Int × Int} : ∀ {n : Nat}, (∀ k, IsB (f k).1 ∧ IsB (f k).2) → ∀ z ∈ tbl f n, IsB z
  | 0, _, z, h => nomatch h
  | n + 1, hf, z, h => by
    rcases List.mem_append.mp h with e | e
    · exact tbl_mem hf z e
    · rcases List.mem_cons.mp e with e | e
      · rw [e]; exact (hf n).1
      · rw [List.mem_singleton.mp e]; exact (hf n).2
theorem lay_bytes : ∀ {rows : List (Nat × List Int)} {d : List Int} {f : Nat → Int × Int}, (∀ p ∈ rows, p.2 ≠ [] ∧ ∀ b ∈ p.2, IsB b) → (∀ b ∈ d, IsB b) → (∀ k, IsB (f k).1 ∧ IsB (f k).2) → total rows + d.length ≤ 254 →
    (∀ b ∈ (lay d f rows).2, IsB b) ∧ ∀ k, IsB ((lay d f rows).1 k).1 ∧ IsB ((lay d f rows).1 k).2
  | [], d, f, _, hd, hf, _ => ⟨hd, hf⟩
  | (s, r) :: t, d, f, hr, hd, hf, hz => by
    have h0 := hr (s, r) (by simp)
    have hrl := List.length_pos_iff.mpr h0.1
    have hz' : r.length + total t + d.length ≤ 254 := hz
    refine lay_bytes (rows := t) (fun p hp => hr p (by simp [hp])) (fun b hb => ?_) (fun k => ?_) (by rw [List.length_append]; omega)
    · rcases List.mem_append.mp hb with e | e
      · exact h0.2 b e
      · exact hd b e
    · unfold upf
      split
      · refine ⟨?_, ?_⟩
        · show 0 ≤ ((256 - (r ++ d).length : Nat) : Int) ∧ ((256 - (r ++ d).length : Nat) : Int) < 256
          have : 0 < r.length := hrl
          rw [List.length_append]; omega
        · show 0 ≤ (r.length : Int) ∧ (r.length : Int) < 256
          omega
      · exact hf k
theorem Val.faultless {rows : List (Nat × List Int)} {n : Nat} (V : Val rows n) (hb : ∀ p ∈ rows, ∀ b ∈ p.2, IsB b) (hl : n = 0 ∨ ∃ init rl, rows = init ++ [(n - 1, rl)]) : fault (pageOf rows n) = .none := by
  have hz := V.hz
  have LB := lay_bytes (rows := rows) (d := []) (f := fun _ => (0, 0)) (fun p hp => ⟨V.ne p hp, hb p hp⟩) (fun _ h => nomatch h) (fun k => ⟨⟨by decide, by decide⟩, ⟨by decide, by decide⟩⟩) (by simp; omega)
  have hall : ∀ z ∈ pageOf rows n, IsB z := fun z hz' => by
    unfold pageOf pg at hz'
    rcases List.mem_cons.mp hz' with e | e
    · rw [e]; exact ⟨by omega, by omega⟩
    rcases List.mem_cons.mp e with e | e
    · rw [e]; exact ⟨by omega, by omega⟩
    rcases List.mem_append.mp e with e | e
    · exact tbl_mem LB.2 z e
    rcases List.mem_append.mp e with e | e
    · rw [(List.mem_replicate.mp e).2]; exact ⟨by decide, by decide⟩
    · exact LB.1 z e
  have hbad : (List.range 256).filter (bad (pageOf rows n)) = [] := List.filter_eq_nil_iff.mpr fun k hk h => by
    have hk := List.mem_range.mp hk
    have hg : (pageOf rows n).getD k 0 ∈ pageOf rows n := by
      rw [List.getD_eq_getElem?_getD, List.getElem?_eq_getElem (by rw [V.len]; exact hk)]
      exact List.getElem_mem _
    have := hall _ hg
    unfold bad at h
    rw [decide_eq_true this.1, decide_eq_true this.2] at h
    cases h
  have hsc := V.scan (m := n) (k := 0) (a := []) (t := rows) (by omega) rfl (fun _ h => nomatch h) (fun _ _ => Nat.zero_le _)
  have hsc : K52.scan (pageOf rows n) n 0 256 = .inl ((256 - total rows : Nat) : Int) := hsc
  unfold fault
  rw [if_neg (by rw [V.len]; simp), hbad]
  dsimp only
  rw [V.at0, V.at1, if_neg (by omega), Int.toNat_natCast, hsc]
  dsimp only
  rw [if_neg (by omega)]
  have hlast : ¬ (0 < (n : Int) ∧ (pageOf rows n).getD (1 + 2 * n) 0 = 0) := fun ⟨h0, h1⟩ => by
    rcases hl with e | ⟨init, rl, e⟩
    · omega
    · have he := pg_ent (s := n) (u := total rows) (n := n) (f := (lay [] (fun _ => (0, 0)) rows).1) (d := (lay [] (fun _ => (0, 0)) rows).2) (k := n - 1) (by omega)
      have h2 : (pageOf rows n).getD (3 + 2 * (n - 1)) 0 = ((lay [] (fun _ => (0, 0)) rows).1 (n - 1)).2 := he.2
      rw [show 3 + 2 * (n - 1) = 1 + 2 * n by omega, h1, e, lay_at (t := []) (fun _ h => nomatch h)] at h2
      have hrl := List.length_pos_iff.mpr (V.ne (n - 1, rl) (by rw [e]; simp))
      have h2 : (0 : Int) = (rl.length : Int) := h2
      have hrl : 0 < rl.length := hrl
      omega
  rw [if_neg hlast]
  have hr := pg_rest (s := n) (u := total rows) (n := n) (f := (lay [] (fun _ => (0, 0)) rows).1) (d := (lay [] (fun _ => (0, 0)) rows).2) (by rw [V.dl]; exact hz)
  rw [V.dl] at hr
  rw [show ((256 - total rows : Nat) : Int) = 256 - (total rows : Int) by omega]
  have hr : rest (pageOf rows n) (2 + 2 * (n : Int)) (256 - (total rows : Int)) = _ := hr
  rw [hr, if_neg]
  intro h
  obtain ⟨x, hx, hx2⟩ := List.any_eq_true.mp h
  obtain ⟨z, hz3, rfl⟩ := List.mem_map.mp hx
  rw [(List.mem_replicate.mp hz3).2] at hx2
  cases hx2
end K52

namespace K52
open PySem Pd
theorem drawn (g : Dr) (i : Nat) {m : Int} (hm : 0 < m ∧ m < 1073741824) {e : Pd.Env} (he : e.at i = .st) : ∃ j g1, mCallG drawA (gConsS i (gCons (mC (.int m)) gNil)) e g = some (.int j, g1) ∧ 0 ≤ j ∧ j < m := by
  obtain ⟨j, g1, h1, h2⟩ := draw_ev g hm
  refine ⟨j, g1, ?_, h2⟩
  refine callG_e (as := [.st, .sh (.int m)]) (g1 := g) ?_ h1
  unfold gConsS
  rw [he]
  rfl
/-- a drawn row -/
theorem row_e (g : Dr) : ∃ (r : List Int) (g1 : Dr), F__law_row [.st] g = some (iL r, g1) ∧ r ≠ [] ∧ ∀ b ∈ r, IsB b := by
  obtain ⟨a, g1, e1, a0, a1⟩ := drawn g 0 (m := 6) (by decide) (e := startE 3 [.st]) rfl
  obtain ⟨b, g2, e2, b0, b1⟩ := drawn g1 0 (m := 3) (by decide) (e := startE 3 [.st]) rfl
  have hx : ∃ x, dIx (.list [.int 1, .int 3, .int 20, .int 60, .int 120, .int 253]) (.int a) = some (.int x) ∧ 1 ≤ x ∧ x ≤ 253 := by
    have : a = 0 ∨ a = 1 ∨ a = 2 ∨ a = 3 ∨ a = 4 ∨ a = 5 := by omega
    rcases this with rfl | rfl | rfl | rfl | rfl | rfl
    · exact ⟨1, rfl, by decide⟩
    · exact ⟨3, rfl, by decide⟩
    · exact ⟨20, rfl, by decide⟩
    · exact ⟨60, rfl, by decide⟩
    · exact ⟨120, rfl, by decide⟩
    · exact ⟨253, rfl, by decide⟩
  obtain ⟨x, hx, x0, x1⟩ := hx
  have hc := compL_ex (bt := bName 2) (me := mOp dMod (mOp dAdd (mCallG drawA (gConsS 0 (gCons (mC (.int 256)) gNil))) (mOp dMul (mC (.int 7)) (mVar 2))) (mC (.int 256))) (env := Pd.Env.wipe ((startE 3 [SV.st]).set 1 (.sh (.int (x + b)))) [2]) (fun d => ∃ z : Int, d = .int z ∧ IsB z) (ds := rng 0 (x + b).toNat) (g := g2) (fun d hd g => by
    obtain ⟨k, hk, rfl⟩ := rng_mem hd
    obtain ⟨j, g3, e3, j0, j1⟩ := drawn g 0 (m := 256) (by decide) (e := ((Pd.Env.wipe ((startE 3 [SV.st]).set 1 (.sh (.int (x + b)))) [2]).set 2 (.sh (.int (k : Int))))) rfl
    exact ⟨_, rfl, _, g3, op_e (op_e e3 (op_e rfl rfl (mul_l (by decide))) rfl) rfl (mod_e (by decide)), _, rfl, Int.fmod_nonneg_of_pos _ (by decide), Int.fmod_lt_of_pos _ (by decide)⟩)
  obtain ⟨xs, g3, e3, hl, hp⟩ := hc
  obtain ⟨r, rfl, hr⟩ := map_of hp
  rw [rng_len, List.length_map] at hl
  refine ⟨r, g3, runG_rl (seq_nx (set_e (op_e (op_e (L_e (lst_e (cons_e rfl (cons_e rfl (cons_e rfl (cons_e rfl (cons_e rfl (cons_e rfl nil_e)))))))) e1 hx) e2 rfl)) (retF_e (comp_e (rng1_e (cons_e rfl nil_e) (by omega)) rfl e3))), fun z => ?_, hr⟩
  rw [z] at hl
  simp at hl
  omega
end K52

namespace K52
open PySem Pd
abbrev Row := Nat × List Int
/-! #### sorted rows -/
theorem srt_ext : ∀ {a b : List Row}, Srt a → Srt b → (∀ x, x ∈ a ↔ x ∈ b) → a = b
  | [], [], _, _, _ => rfl
  | [], y :: _, _, _, h => nomatch (h y).mpr (List.mem_cons_self ..)
  | x :: _, [], _, _, h => nomatch (h x).mp (List.mem_cons_self ..)
  | x :: a, y :: b, ha, hb, h => by
    have ha' := List.pairwise_cons.mp ha
    have hb' := List.pairwise_cons.mp hb
    have e : x = y := by
      rcases List.mem_cons.mp ((h x).mp (List.mem_cons_self ..)) with e | e
      · exact e
      · rcases List.mem_cons.mp ((h y).mpr (List.mem_cons_self ..)) with e2 | e2
        · exact e2.symm
        · have h1 := hb'.1 x e
          have h2 := ha'.1 y e2
          omega
    subst e
    rw [srt_ext ha'.2 hb'.2 fun z => ⟨fun hz => ?_, fun hz => ?_⟩]
    · rcases List.mem_cons.mp ((h z).mp (List.mem_cons_of_mem _ hz)) with e | e
      · subst e
        have := ha'.1 z hz
        omega
      · exact e
    · rcases List.mem_cons.mp ((h z).mpr (List.mem_cons_of_mem _ hz)) with e | e
      · subst e
        have := hb'.1 z hz
        omega
      · exact e
/-! #### a table: slots and rows as they came -/
def nn : List Row → Nat
  | [] => 0
  | p :: t => max (p.1 + 1) (nn t)
theorem nn_lt : ∀ {T : List Row} {p : Row}, p ∈ T → p.1 < nn T
  | q :: t, p, h => by
    show p.1 < max (q.1 + 1) (nn t)
    rcases List.mem_cons.mp h with e | e
    · subst e; omega
    · have := nn_lt e; omega
theorem nn_le : ∀ {T : List Row} {m : Nat}, (∀ p ∈ T, p.1 < m) → nn T ≤ m
  | [], m, _ => Nat.zero_le _
  | q :: t, m, h => by
    show max (q.1 + 1) (nn t) ≤ m
    have h1 := h q (by simp)
    have h2 := nn_le (T := t) fun p hp => h p (List.mem_cons_of_mem _ hp)
    omega
theorem nn_ext {T U : List Row} (h : ∀ x, x ∈ T ↔ x ∈ U) : nn T = nn U :=
  Nat.le_antisymm (nn_le fun p hp => nn_lt ((h p).mp hp)) (nn_le fun p hp => nn_lt ((h p).mpr hp))
theorem nn_top : ∀ {T : List Row}, T ≠ [] → ∃ r, (nn T - 1, r) ∈ T
  | [q], _ => ⟨q.2, by show (max (q.1 + 1) 0 - 1, q.2) ∈ [q]; rw [show max (q.1 + 1) 0 - 1 = q.1 by omega]; exact List.mem_singleton_self _⟩
  | q :: p :: t, _ => by
    obtain ⟨r, h⟩ := nn_top (T := p :: t) (fun z => nomatch z)
    show ∃ r, (max (q.1 + 1) (nn (p :: t)) - 1, r) ∈ q :: p :: t
    by_cases c : q.1 + 1 ≤ nn (p :: t)
    · rw [Nat.max_eq_right c]
      exact ⟨r, List.mem_cons_of_mem _ h⟩
    · rw [Nat.max_eq_left (by omega), Nat.add_sub_cancel]
      exact ⟨q.2, List.mem_cons_self ..⟩
def has (T : List Row) (k : Nat) : Bool := T.any fun p => p.1 == k
theorem has_iff {T : List Row} {k : Nat} : has T k = true ↔ ∃ r, (k, r) ∈ T := by
  unfold has
  rw [List.any_eq_true]
  constructor
  · rintro ⟨p, hp, e⟩
    exact ⟨p.2, by rw [← eq_of_beq e]; exact hp⟩
  · rintro ⟨r, h⟩
    exact ⟨_, h, by simp⟩
theorem has_no {T : List Row} {k : Nat} : has T k = false ↔ ∀ p ∈ T, p.1 ≠ k := by
  unfold has
  rw [List.any_eq_false]
  exact ⟨fun h p hp e => h p hp (by simp [e]), fun h p hp e => h p hp (eq_of_beq e)⟩
theorem has_nn (T : List Row) : has T (nn T) = false := has_no.mpr fun p hp e => by have := nn_lt hp; omega
theorem has_ext {T U : List Row} (h : ∀ x, x ∈ T ↔ x ∈ U) (k : Nat) : has T k = has U k := by
  rw [Bool.eq_iff_iff, has_iff, has_iff]
  exact ⟨fun ⟨r, hr⟩ => ⟨r, (h _).mp hr⟩, fun ⟨r, hr⟩ => ⟨r, (h _).mpr hr⟩⟩
def freL (T : List Row) : Nat → Nat → Nat
  | 0, k => k
  | n + 1, k => if has T k = true then freL T n (k + 1) else k
theorem freL_sp {T : List Row} : ∀ {n k : Nat}, k + n = nn T → (∀ j, j < k → has T j = true) → has T (freL T n k) = false ∧ (∀ j, j < freL T n k → has T j = true) ∧ freL T n k ≤ nn T
  | 0, k, h, hk => by
    show has T k = false ∧ (∀ j, j < k → has T j = true) ∧ k ≤ nn T
    rw [show k = nn T by omega]
    refine ⟨has_nn T, fun j hj => hk j (by omega), Nat.le_refl _⟩
  | n + 1, k, h, hk => by
    unfold freL
    cases e : has T k with
    | true =>
      rw [if_pos rfl]
      refine freL_sp (by omega) fun j hj => ?_
      by_cases z : j = k
      · rw [z]; exact e
      · exact hk j (by omega)
    | false =>
      rw [if_neg (by decide)]
      exact ⟨e, hk, by omega⟩
def fre (T : List Row) : Nat := freL T (nn T) 0
theorem fre_sp (T : List Row) : has T (fre T) = false ∧ (∀ j, j < fre T → has T j = true) ∧ fre T ≤ nn T := freL_sp (Nat.zero_add _) fun _ h => nomatch h
theorem fre_uni {T : List Row} {s : Nat} (h1 : has T s = false) (h2 : ∀ j, j < s → has T j = true) : fre T = s := by
  obtain ⟨a, b, _⟩ := fre_sp T
  rcases Nat.lt_trichotomy (fre T) s with h | h | h
  · rw [h2 _ h] at a; cases a
  · exact h
  · rw [b _ h] at h1; cases h1
theorem fre_ext {T U : List Row} (h : ∀ x, x ∈ T ↔ x ∈ U) : fre T = fre U :=
  fre_uni (by rw [has_ext h]; exact (fre_sp U).1) fun j hj => by rw [has_ext h]; exact (fre_sp U).2.1 j hj
def rm (T : List Row) : Int := max 0 (min 255 (254 - 2 * (max (nn T) (fre T + 1) : Nat) - (total T : Int)))
theorem total_perm {T U : List Row} (h : T.Perm U) : total T = total U := by
  induction h with
  | nil => rfl
  | cons x _ ih => show x.2.length + total _ = x.2.length + total _; rw [ih]
  | swap x y l => show y.2.length + (x.2.length + total l) = x.2.length + (y.2.length + total l); omega
  | trans _ _ i1 i2 => exact i1.trans i2
structure Tab (T : List Row) : Prop where
  nd : (T.map (·.1)).Nodup
  ne : ∀ p ∈ T, p.2 ≠ []
  bt : ∀ p ∈ T, ∀ b ∈ p.2, IsB b
  hz : 2 * nn T + total T ≤ 254
def srt (T : List Row) : List Row := T.mergeSort fun a b => decide (a.1 ≤ b.1)
theorem srt_perm (T : List Row) : (srt T).Perm T := List.mergeSort_perm _ _
theorem srt_mem {T : List Row} {x : Row} : x ∈ srt T ↔ x ∈ T := (srt_perm T).mem_iff
theorem srt_srt {T : List Row} (nd : (T.map (·.1)).Nodup) : Srt (srt T) := by
  have h1 : (srt T).Pairwise fun a b => decide (a.1 ≤ b.1) = true := List.pairwise_mergeSort (fun a b c h1 h2 => by
    simp only [decide_eq_true_eq] at *
    omega) (fun a b => by
    rw [Bool.or_eq_true, decide_eq_true_eq, decide_eq_true_eq]
    omega) T
  have h2 : ((srt T).map (·.1)).Nodup := ((srt_perm T).map _).nodup_iff.mpr nd
  have h3 : (srt T).Pairwise fun a b => a.1 ≠ b.1 := List.pairwise_map.mp h2
  exact (h1.and h3).imp fun {a b} h => by
    have h4 := of_decide_eq_true h.1
    have h5 := h.2
    omega
theorem uni {T : List Row} (nd : (T.map (·.1)).Nodup) {x y : Row} (hx : x ∈ T) (hy : y ∈ T) (e : x.1 = y.1) : x = y := by
  induction T with
  | nil => cases hx
  | cons p t ih =>
    have nd' := List.nodup_cons.mp nd
    rcases List.mem_cons.mp hx with ex | ex <;> rcases List.mem_cons.mp hy with ey | ey
    · rw [ex, ey]
    · exact absurd (List.mem_map.mpr ⟨y, ey, by rw [← e, ex]⟩) nd'.1
    · exact absurd (List.mem_map.mpr ⟨x, ex, by rw [e, ey]⟩) nd'.1
    · exact ih nd'.2 ex ey
section
variable {T : List Row} (t : Tab T)
include t
theorem Tab.val : Val (srt T) (nn T) where
  hs := fun p hp => nn_lt (srt_mem.mp hp)
  hz := by rw [total_perm (srt_perm T)]; exact t.hz
  srt := srt_srt t.nd
  ne := fun p hp => t.ne p (srt_mem.mp hp)
theorem Tab.last : nn T = 0 ∨ ∃ init rl, srt T = init ++ [(nn T - 1, rl)] := by
  rcases List.eq_nil_or_concat (srt T) with h | ⟨init, ⟨m, rl⟩, h⟩
  · left
    have : T = [] := List.eq_nil_iff_forall_not_mem.mpr fun x hx => by
      have := srt_mem.mpr hx
      rw [h] at this; cases this
    rw [this]; rfl
  · right
    rw [List.concat_eq_append] at h
    refine ⟨init, rl, ?_⟩
    have hm : (m, rl) ∈ T := srt_mem.mp (by rw [h]; simp)
    have h1 := nn_lt hm
    obtain ⟨r, hr⟩ := nn_top (T := T) fun z => by rw [z] at hm; cases hm
    have hs := srt_srt t.nd
    rw [h] at hs
    have h2 := srt_mem.mpr hr
    rw [h] at h2
    have h1 : m < nn T := h1
    have e : nn T - 1 = m := by
      rcases List.mem_append.mp h2 with q | q
      · have := (List.pairwise_append.mp hs).2.2 _ q _ (List.mem_singleton_self _)
        have : nn T - 1 < m := this
        omega
      · exact (Prod.mk.inj (List.mem_singleton.mp q)).1
    rw [h, e]
end
def pgT (T : List Row) : List Int := pageOf (srt T) (nn T)
theorem sorted_any {U : List Row} (nd : (U.map (·.1)).Nodup) : (rowsD U).mergeSort (PySem.W.dataLe false id) = rowsD (srt U) := by
  unfold rowsD srt
  refine (List.map_mergeSort fun a ha b hb => ?_).symm
  rw [PySem.W.dataLe_eq]
  show decide (a.1 ≤ b.1) = !PySem.W.dataLt (.tuple [.int (b.1 : Int), iL b.2]) (.tuple [.int (a.1 : Int), iL a.2])
  by_cases e : a.1 = b.1
  · have := uni nd ha hb e
    subst this
    rw [decide_eq_true (Nat.le_refl _), PySem.W.dataLt_tuple, PySem.W.dataLt_all_yes (by rw [PySem.W.alike]) (by rw [PyData.eqv]; simp), ltAll_one (by rw [PySem.W.alike]; exact alike_iL _ _)]
    have := lt_iL a.2 a.2
    have h2 : PySem.W.dataLt (iL a.2) (iL a.2) = false := by
      unfold PySem.W.dataLt
      have h : ∀ l : List (Int ⊕ List Nat), PyProof.Rows.lexLt PyProof.Rows.itemOrd l l = false := fun l => by
        have := PySem.W.lex_pre l [] []
        rw [List.append_nil] at this
        rw [this]; rfl
      rw [h]
    rw [h2]; rfl
  · rw [PySem.W.dataLt_tuple, PySem.W.dataLt_all_no (by rw [PySem.W.alike]) (by rw [PyData.eqv]; exact beq_false_of_ne (by omega)), PySem.W.dataLt_int]
    by_cases h : a.1 ≤ b.1
    · rw [decide_eq_true h, decide_eq_false (by omega)]; rfl
    · rw [decide_eq_false h, decide_eq_true (by omega)]; rfl
theorem rows_alike (U : List Row) : alikeB (rowsD U) = true := by
  unfold alikeB
  refine List.all_eq_true.mpr fun d hd => List.all_eq_true.mpr fun d' hd' => ?_
  obtain ⟨p, _, rfl⟩ := List.mem_map.mp hd
  obtain ⟨q, _, rfl⟩ := List.mem_map.mp hd'
  exact alike_row p q
theorem rows_tup (U : List Row) : (rowsD U).all isTupNe = true := List.all_eq_true.mpr fun d hd => by
  obtain ⟨p, _, rfl⟩ := List.mem_map.mp hd
  rfl
theorem rows_dep (U : List Row) : ((rowsD U).all fun d => decide (d.depth ≤ 60)) = true := List.all_eq_true.mpr fun d hd => by
  obtain ⟨p, _, rfl⟩ := List.mem_map.mp hd
  refine decide_eq_true (Nat.le_trans (depth_tup (n := 1) fun x hx => ?_) (by decide))
  rcases List.mem_cons.mp hx with e | e
  · rw [e, PyData.depth]; decide
  · rcases List.mem_cons.mp e with e | e
    · rw [e]; exact depth_iL1 _
    · cases e
theorem dsorted {U : List Row} (nd : (U.map (·.1)).Nodup) : dSorted [.list (rowsD U)] = some (rowsD (srt U)) := by
  unfold dSorted
  dsimp only
  rw [if_pos ⟨rows_alike U, .inl (rows_tup U), rows_dep U⟩, sorted_any nd]
end K52

namespace K52
open PySem Pd
section
variable {T : List Row} (t : Tab T)
include t
theorem ff_loop : ∀ {m k : Nat} {a : SV}, k + m = nn T → (∀ j, j < k → has T j = true) →
    (fre T < nn T ∧ ∃ e, loopL (bName 1) lb_first_free_1 (rng (k : Int) m) [.sh (iL (pgT T)), a] () = some (.re (.int (fre T : Int)), e, ())) ∨
    (fre T = nn T ∧ ∃ a', loopL (bName 1) lb_first_free_1 (rng (k : Int) m) [.sh (iL (pgT T)), a] () = some (.nx, [.sh (iL (pgT T)), a'], ()))
  | 0, k, a, h, hk => .inr ⟨fre_uni (has_nn T) fun j hj => hk j (by omega), a, rfl⟩
  | m + 1, k, a, h, hk => by
    rw [rng_succ, show ((k : Int) + 1) = ((k + 1 : Nat) : Int) from rfl]
    have V := t.val
    have hkn : k < nn T := by omega
    have he := V.ent hkn
    cases hh : has T k with
    | true =>
      obtain ⟨r, hr⟩ := has_iff.mp hh
      obtain ⟨pre, d0, h1, h2⟩ := lay_mem (d := []) (f := fun _ => (0, 0)) V.srt (srt_mem.mpr hr)
      rw [h2] at he
      have hrl : 0 < r.length := List.length_pos_iff.mpr (t.ne _ hr)
      have st : lb_first_free_1 [.sh (iL (pgT T)), .sh (.int (k : Int))] () = some (.nx, [.sh (iL (pgT T)), .sh (.int (k : Int))], ()) := if_no (opT_e (op_e (call_e (cons_e rfl (cons_e rfl nil_e)) he) rfl rfl) rfl (eq_if (by omega)))
      rcases ff_loop (m := m) (k := k + 1) (a := .sh (.int (k : Int))) (by omega) (fun j hj => by
        by_cases z : j = k
        · rw [z]; exact hh
        · exact hk j (by omega)) with ⟨h3, e, h4⟩ | ⟨h3, a', h4⟩
      · exact .inl ⟨h3, e, loop_nx rfl st h4⟩
      · exact .inr ⟨h3, a', loop_nx rfl st h4⟩
    | false =>
      have ef : fre T = k := fre_uni hh hk
      rw [lay_out fun p hp => has_no.mp hh p (srt_mem.mp hp)] at he
      have st : lb_first_free_1 [.sh (iL (pgT T)), .sh (.int (k : Int))] () = some (.re (.int (k : Int)), [.sh (iL (pgT T)), .sh (.int (k : Int))], ()) := if_t (opT_e (op_e (call_e (cons_e rfl (cons_e rfl nil_e)) he) rfl rfl) rfl (eq_it rfl)) (ret_e rfl)
      exact .inl ⟨by omega, _, by rw [ef]; exact loop_re rfl st⟩
theorem Tab.free : F_first_free [iL (pgT T)] = some (.int (fre T : Int)) := by
  have hz := t.hz
  have sl : F_slots_in [iL (pgT T)] = some (.int (nn T : Int)) := t.val.slots
  have hr : ∀ e : Pd.Env, e.at 0 = .sh (iL (pgT T)) → mRng1 (mCons (mCall F_slots_in (mCons (mVar 0) mNil)) mNil) e () = some (rng 0 (nn T), ()) := fun e e0 => by
    refine rng1_e (j := (nn T : Int)) (cons_e (call_e (cons_e (var_e e0) nil_e) ?_) nil_e) (by omega)
    exact sl
  rcases ff_loop t (m := nn T) (k := 0) (a := .un) (Nat.zero_add _) (fun _ h => nomatch h) with ⟨h3, e, h4⟩ | ⟨h3, a', h4⟩
  · exact runP_re (N := 2) (n := 1) (m := m_first_free) (ds := [iL (pgT T)]) (u := ()) (seq_re (for_e (hr _ rfl) h4))
  · refine runP_re (N := 2) (n := 1) (m := m_first_free) (ds := [iL (pgT T)]) (u := ()) (seq_nx (for_e (hr _ rfl) h4) (ret_e (call_e (cons_e rfl nil_e) ?_)))
    rw [h3]
    exact sl
theorem max2_n (i j : Int) : dMax2 [.int i, .int j] = some (.int (max i j)) := by
  rw [max2_e]
  congr 2
  split <;> omega
theorem min2_n (i j : Int) : dMin2 [.int i, .int j] = some (.int (min i j)) := by
  rw [min2_e]
  congr 2
  split <;> omega
theorem Tab.room : F_room_in [iL (pgT T)] = some (.int (rm T)) := by
  have sl : F_slots_in [iL (pgT T)] = some (.int (nn T : Int)) := t.val.slots
  have us : F_used_in [iL (pgT T)] = some (.int (total T : Int)) := by
    have := t.val.used
    rw [total_perm (srt_perm T)] at this
    exact this
  refine runP_re (N := 3) (n := 1) (m := m_room_in) (ds := [iL (pgT T)]) (u := ()) (e := [.sh (iL (pgT T)), .sh (.int (fre T : Int)), .sh (.int ((max (nn T) (fre T + 1) : Nat) : Int))]) (seq_nx (set_e (d := .int (fre T : Int)) (call_e (cons_e rfl nil_e) ?_)) (seq_nx (set_e (d := .int ((max (nn T) (fre T + 1) : Nat) : Int)) (call_e (xs := [.int (nn T : Int), .int ((fre T : Int) + 1)]) (cons_e (call_e (cons_e rfl nil_e) ?_) (cons_e (op_e rfl rfl rfl) nil_e)) ?_)) (ret_e (call_e (xs := [.int 0, .int (min 255 (254 - 2 * ((max (nn T) (fre T + 1) : Nat) : Int) - (total T : Int)))]) (cons_e rfl (cons_e (call_e (xs := [.int 255, .int (254 - 2 * ((max (nn T) (fre T + 1) : Nat) : Int) - (total T : Int))]) (cons_e rfl (cons_e (op_e (x := .int (254 - 2 * ((max (nn T) (fre T + 1) : Nat) : Int))) (y := .int (total T : Int)) (op_e (op_e rfl rfl rfl) (op_e rfl rfl (mul_l (by decide))) rfl) (call_e (cons_e rfl nil_e) ?_) rfl) nil_e)) ?_) nil_e)) ?_))))
  · exact t.free
  · exact sl
  · rw [max2_n t]
    congr 2
    omega
  · exact us
  · exact min2_n t _ _
  · exact max2_n t _ _
/-- reading a slot -/
theorem Tab.row {k : Nat} {r : List Int} (h : (k, r) ∈ T) : F_row_in [iL (pgT T), .int (k : Int)] = some (iL r) := t.val.row (srt_mem.mpr h)
theorem Tab.noRow {z : Int} (h : ∀ p ∈ T, (p.1 : Int) ≠ z) : F_row_in [iL (pgT T), .int z] = some .none := by
  by_cases hz : 0 ≤ z
  · obtain ⟨k, rfl⟩ := Int.eq_ofNat_of_zero_le hz
    by_cases hk : k < nn T
    · exact t.val.noRow hk fun p hp e => h p (srt_mem.mp hp) (by omega)
    · refine runP_re (N := 4) (n := 2) (m := m_row_in) (ds := [iL (pgT T), .int (k : Int)]) (u := ()) (seq_re (if_t (not_e (b := false) (chain_t rfl rfl (le_t (by omega)) (call_e (cons_e rfl nil_e) ?_) (lt_f (j := (nn T : Int)) (by omega)))) (ret_e rfl)))
      exact t.val.slots
  · exact runP_re (N := 4) (n := 2) (m := m_row_in) (ds := [iL (pgT T), .int z]) (u := ()) (seq_re (if_t (not_e (b := false) (chain_f rfl rfl (le_f hz))) (ret_e rfl)))
theorem Tab.rows : F_rows_in [iL (pgT T)] = some (.list (rowsD (srt T))) := t.val.rows_in
theorem Tab.few : T.length ≤ 254 := by
  have h : ∀ t : List Row, (∀ p ∈ t, p.2 ≠ []) → t.length ≤ total t := fun t ht => by
    induction t with
    | nil => exact Nat.zero_le _
    | cons p t ih =>
      have := ih fun q hq => ht q (List.mem_cons_of_mem _ hq)
      have := List.length_pos_iff.mpr (ht p (by simp))
      show t.length + 1 ≤ p.2.length + total t
      omega
  have := h T t.ne
  have := t.hz
  omega
end
end K52

namespace K52
open PySem Pd
theorem nn_app : ∀ {T U : List Row}, nn (T ++ U) = max (nn T) (nn U)
  | [], U => by show nn U = max 0 (nn U); omega
  | p :: t, U => by
    show max (p.1 + 1) (nn (t ++ U)) = max (max (p.1 + 1) (nn t)) (nn U)
    rw [nn_app]; omega
theorem pgT_ext {T U : List Row} (a : (T.map (·.1)).Nodup) (b : (U.map (·.1)).Nodup) (h : ∀ x, x ∈ T ↔ x ∈ U) : srt T = srt U :=
  srt_ext (srt_srt a) (srt_srt b) fun x => by rw [srt_mem, srt_mem]; exact h x
/-! #### a row put in -/
def addT (T : List Row) (r : List Int) : List Row := T ++ [(fre T, r)]
theorem nn_add (T : List Row) (r : List Int) : nn (addT T r) = max (nn T) (fre T + 1) := by
  unfold addT
  rw [nn_app]
  show max (nn T) (max (fre T + 1) 0) = _
  omega
theorem rm_le {T : List Row} {r : List Int} (hr : r ≠ []) : (r.length : Int) ≤ rm T ↔ r.length ≤ 255 ∧ 2 * (max (nn T) (fre T + 1)) + total T + r.length ≤ 254 := by
  have := List.length_pos_iff.mpr hr
  unfold rm
  omega
theorem nd_add {T U : List Row} (hU : ∀ x, x ∈ U ↔ x ∈ T) (nd : (U.map (·.1)).Nodup) (r : List Int) : ((U ++ [(fre T, r)]).map (·.1)).Nodup := by
  rw [List.map_append, List.nodup_append]
  refine ⟨nd, by simp, fun a ha b hb => ?_⟩
  obtain ⟨p, hp, rfl⟩ := List.mem_map.mp ha
  rw [List.map_singleton, List.mem_singleton] at hb
  subst hb
  exact has_no.mp (fre_sp T).1 p ((hU p).mp hp)
section
variable {T : List Row} (t : Tab T)
include t
theorem Tab.add {r : List Int} (hr : r ≠ []) (hb : ∀ b ∈ r, IsB b) (hl : (r.length : Int) ≤ rm T) : Tab (addT T r) where
  nd := nd_add (fun _ => Iff.rfl) t.nd r
  ne := fun p hp => by
    rcases List.mem_append.mp hp with h | h
    · exact t.ne p h
    · rw [List.mem_singleton.mp h]; exact hr
  bt := fun p hp => by
    rcases List.mem_append.mp hp with h | h
    · exact t.bt p h
    · rw [List.mem_singleton.mp h]; exact hb
  hz := by
    have := (rm_le hr).mp hl
    rw [nn_add]
    unfold addT
    rw [total_ap]
    show _ + (total T + (r.length + 0)) ≤ _
    omega
theorem Tab.put {r : List Int} (hr : r ≠ []) (hb : ∀ b ∈ r, IsB b) (hl : (r.length : Int) ≤ rm T) :
    F_put_in [iL (pgT T), iL r] = some (.tuple [iL (pgT (addT T r)), .int (fre T : Int)]) := by
  have t2 := t.add hr hb hl
  have V2 := t2.val
  have hrl : 0 < r.length := List.length_pos_iff.mpr hr
  have es : srt (srt T ++ [(fre T, r)]) = srt (addT T r) := pgT_ext (nd_add (fun _ => srt_mem) (((srt_perm T).map _).nodup_iff.mpr t.nd) r) t2.nd fun x => by
    unfold addT
    rw [List.mem_append, List.mem_append, srt_mem]
  have hrc : (rowsD (srt T)).length ≤ 254 := by
    have := t.few
    unfold rowsD
    rw [List.length_map, (srt_perm T).length_eq]
    exact this
  have lay2 : F_laid [.list (rowsD (srt (addT T r))), .int (max (nn T : Int) ((fre T : Int) + 1))] = some (iL (pgT (addT T r))) := by
    have := laid_e V2.hs V2.hz
    rw [nn_add, show ((max (nn T) (fre T + 1) : Nat) : Int) = max (nn T : Int) ((fre T : Int) + 1) by omega] at this
    rw [this]
    unfold pgT
    rw [nn_add]
  have c1 : ∀ e : Pd.Env, e.at 0 = .sh (iL (pgT T)) → e.at 1 = .sh (iL r) → e.at 2 = .sh (.int (fre T : Int)) → mL (mCallF dSorted (mCons (mL (mCat (mCall F_rows_in (mCons (mVar 0) mNil)) (mL (mLst (mCons (mTup (mCons (mVar 2) (mCons (mL (mCallF dListOf (mCons (mVar 1) mNil))) mNil))) mNil))))) mNil)) e () = some (.list (rowsD (srt (addT T r))), ()) := fun e e0 e1' e2 => by
    refine L_e (callF_e (xs := [.list (rowsD (srt T ++ [(fre T, r)]))]) (cons_e (L_e ?_) nil_e) ?_)
    · refine (cat_e (xs := rowsD (srt T)) (ys := [.tuple [.int (fre T : Int), iL r]]) (g1 := ()) (g2 := ()) ?_ (L_e (lst_e (cons_e (tup_e (cons_e (var_e e2) (cons_e (L_e (callF_e (cons_e (var_e e1') nil_e) rfl)) nil_e))) nil_e))) ?_).trans ?_
      · refine call_e (cons_e (var_e e0) nil_e) ?_
        exact t.rows
      · rw [List.length_singleton, line_val]; omega
      · unfold rowsD
        rw [List.map_append]; rfl
    · rw [← es]
      exact dsorted (nd_add (fun _ => srt_mem) (((srt_perm T).map _).nodup_iff.mpr t.nd) r)
  have c2 : ∀ e : Pd.Env, e.at 0 = .sh (iL (pgT T)) → e.at 2 = .sh (.int (fre T : Int)) → e.at 3 = .sh (.list (rowsD (srt (addT T r)))) → mCall F_laid (mCons (mVar 3) (mCons (mCall dMax2 (mCons (mCall F_slots_in (mCons (mVar 0) mNil)) (mCons (mOp dAdd (mVar 2) (mC (.int 1))) mNil))) mNil)) e () = some (iL (pgT (addT T r)), ()) := fun e e0 e2 e3 => by
    refine call_e (xs := [.list (rowsD (srt (addT T r))), .int (max (nn T : Int) ((fre T : Int) + 1))]) (cons_e (var_e e3) (cons_e (call_e (cons_e (call_e (cons_e (var_e e0) nil_e) ?_) (cons_e (op_e (var_e e2) rfl rfl) nil_e)) (max2_n t (nn T : Int) ((fre T : Int) + 1))) nil_e)) ?_
    case refine_1 => exact t.val.slots
    exact lay2
  have c0 : ∀ e : Pd.Env, e.at 0 = .sh (iL (pgT T)) → mCall F_room_in (mCons (mVar 0) mNil) e () = some (.int (rm T), ()) := fun e e0 => by
    refine call_e (cons_e (var_e e0) nil_e) ?_
    exact t.room
  have c3 : ∀ e : Pd.Env, e.at 0 = .sh (iL (pgT T)) → mCall F_first_free (mCons (mVar 0) mNil) e () = some (.int (fre T : Int), ()) := fun e e0 => by
    refine call_e (cons_e (var_e e0) nil_e) ?_
    exact t.free
  exact runP_re (N := 4) (n := 2) (m := m_put_in) (ds := [iL (pgT T), iL r]) (u := ()) (seq_nx (if_no (not_e (b := true) (chain_t rfl (call_e (cons_e rfl nil_e) iL_len) (le_t (by omega)) (c0 _ rfl) (le_t hl)))) (seq_nx (set_e (c3 _ rfl)) (seq_nx (set_e (c1 _ rfl rfl rfl)) (ret_e (tup_e (cons_e (c2 _ rfl rfl rfl) (cons_e rfl nil_e)))))))
theorem Tab.noPut {r : List Int} (hr : r ≠ []) (hl : ¬ (r.length : Int) ≤ rm T) : F_put_in [iL (pgT T), iL r] = some .none := by
  have hrl : 0 < r.length := List.length_pos_iff.mpr hr
  refine runP_re (N := 4) (n := 2) (m := m_put_in) (ds := [iL (pgT T), iL r]) (u := ()) (seq_re (if_t (not_e (b := false) (chain_t rfl (call_e (cons_e rfl nil_e) iL_len) (le_t (by omega)) (call_e (cons_e rfl nil_e) ?_) (le_f hl))) (ret_e rfl)))
  exact t.room
end
/-! #### a row taken out -/
def outT (T : List Row) (k : Nat) : List Row := T.filter fun p => !(p.1 == k)
theorem outT_mem {T : List Row} {k : Nat} {x : Row} : x ∈ outT T k ↔ x ∈ T ∧ x.1 ≠ k := by
  unfold outT
  rw [List.mem_filter]
  simp
theorem nn_zero {T : List Row} (h : nn T = 0) : T = [] := List.eq_nil_iff_forall_not_mem.mpr fun x hx => by
  have := nn_lt hx
  omega
section
variable {T : List Row} (t : Tab T)
include t
theorem Tab.filt (k : Nat) : Tab (outT T k) where
  nd := List.Nodup.sublist (List.Sublist.map _ (List.filter_sublist (p := fun p : Row => !(p.1 == k)))) t.nd
  ne := fun p hp => t.ne p (outT_mem.mp hp).1
  bt := fun p hp => t.bt p (outT_mem.mp hp).1
  hz := by
    have h1 : total (outT T k) ≤ total T := total_filter _ _
    have h2 : nn (outT T k) ≤ nn T := nn_le fun p hp => nn_lt (outT_mem.mp hp).1
    have := t.hz
    omega
theorem Tab.out {k : Nat} {r : List Int} (hr : (k, r) ∈ T) : F_taken_out [iL (pgT T), .int (k : Int)] = some (iL (pgT (outT T k))) := by
  have t2 := t.filt k
  have V2 := t2.val
  have es : (srt T).filter (fun p => !(p.1 == k)) = srt (outT T k) := srt_ext (List.Pairwise.filter _ (srt_srt t.nd)) (srt_srt t2.nd) fun x => by
    rw [srt_mem, outT_mem, List.mem_filter, srt_mem]
    simp
  have lay2 : F_laid [.list (rowsD (srt (outT T k))), .int (nn (outT T k) : Int)] = some (iL (pgT (outT T k))) := laid_e V2.hs V2.hz
  have hrow : ∀ e : Pd.Env, e.at 0 = .sh (iL (pgT T)) → e.at 1 = .sh (.int (k : Int)) → mCall F_row_in (mCons (mVar 0) (mCons (mVar 1) mNil)) e () = some (iL r, ()) := fun e e0 e1 => by
    refine call_e (cons_e (var_e e0) (cons_e (var_e e1) nil_e)) ?_
    exact t.row hr
  have hrows : ∀ e : Pd.Env, e.at 0 = .sh (iL (pgT T)) → mCall F_rows_in (mCons (mVar 0) mNil) e () = some (.list (rowsD (srt T)), ()) := fun e e0 => by
    refine call_e (cons_e (var_e e0) nil_e) ?_
    exact t.rows
  have hlay : ∀ e : Pd.Env, e.at 2 = .sh (.list (rowsD ((srt T).filter fun p => !(p.1 == k)))) → mCall F_laid (mCons (mVar 2) (mCons (mIf (mTru (mVar 2)) (mOp dAdd (mOp dIx (mOp dIx (mVar 2) (mUn dNeg (mC (.int 1)))) (mC (.int 0))) (mC (.int 1))) (mC (.int 0))) mNil)) e () = some (iL (pgT (outT T k)), ()) := fun e e2 => by
    rw [es] at e2
    rcases t2.last with h0 | ⟨init, rl, h0⟩
    · have z : outT T k = [] := nn_zero h0
      have ht : mTru (mVar 2) e () = some (false, ()) := tru_e (var_e e2) (by rw [z, show srt [] = [] from List.mergeSort_nil]; rfl)
      refine call_e (xs := [.list (rowsD (srt (outT T k))), .int (nn (outT T k) : Int)]) (cons_e (var_e e2) (cons_e (mif_f ht ?_) nil_e)) ?_
      · rw [h0]; rfl
      · exact lay2
    · by_cases hn : nn (outT T k) = 0
      · have z : outT T k = [] := nn_zero hn
        rw [z] at h0
        exact absurd h0 (by show ([] : List Row).mergeSort _ ≠ _; rw [List.mergeSort_nil]; simp)
      have ed : rowsD (srt (outT T k)) = rowsD init ++ [.tuple [.int ((nn (outT T k) - 1 : Nat) : Int), iL rl]] := by
        rw [h0]; unfold rowsD; rw [List.map_append]; rfl
      have hx : mOp dIx (mVar 2) (mUn dNeg (mC (.int 1))) e () = some (.tuple [.int ((nn (outT T k) - 1 : Nat) : Int), iL rl], ()) := op_e (var_e e2) (un_e (x := .int 1) (z := .int (-1)) rfl rfl) (by rw [ed]; exact atI_last)
      have ht : mTru (mVar 2) e () = some (true, ()) := tru_e (var_e e2) (by rw [ed]; show some (!(_ : List D).isEmpty) = _; simp)
      refine call_e (xs := [.list (rowsD (srt (outT T k))), .int (nn (outT T k) : Int)]) (cons_e (var_e e2) (cons_e (mif_t ht (op_e (op_e hx rfl rfl) rfl ?_)) nil_e)) ?_
      · show some (PyData.int (((nn (outT T k) - 1 : Nat) : Int) + 1)) = _
        rw [show (((nn (outT T k) - 1 : Nat) : Int) + 1) = (nn (outT T k) : Int) by omega]
      · exact lay2
  refine runP_re (N := 4) (n := 2) (m := m_taken_out) (ds := [iL (pgT T), .int (k : Int)]) (u := ()) (seq_nx (if_no (opT_e (hrow _ rfl rfl) rfl rfl)) (seq_nx (then_e (setF_e (comp_e (itL_e (hrows _ rfl)) rfl (compL_filter (fun p : Nat × List Int => PyData.tuple [.int (p.1 : Int), iL p.2]) (fun p : Nat × List Int => PyData.tuple [.int (p.1 : Int), iL p.2]) (fun p : Nat × List Int => !(p.1 == k)) fun p hp => ⟨_, rfl, opT_e (op_e rfl rfl rfl) rfl ?_, rfl⟩)))) (ret_e (hlay _ rfl))))
  rw [ne_int]
  congr 3
  rw [Bool.eq_iff_iff]; simp; omega
theorem Tab.noOut {k : Nat} (h : has T k = false) : F_taken_out [iL (pgT T), .int (k : Int)] = some .none := by
  refine runP_re (N := 4) (n := 2) (m := m_taken_out) (ds := [iL (pgT T), .int (k : Int)]) (u := ()) (seq_re (if_t (opT_e (x := .none) (call_e (cons_e rfl (cons_e rfl nil_e)) ?_) rfl rfl) (ret_e rfl)))
  exact t.noRow fun p hp e => has_no.mp h p hp (by omega)
end
end K52

namespace K52
open PySem Pd
/-! #### a row changed -/
def chT (T : List Row) (k : Nat) (r : List Int) : List Row := T.map fun p => (p.1, if p.1 == k then r else p.2)
theorem chT_keys (T : List Row) (k : Nat) (r : List Int) : (chT T k r).map (·.1) = T.map (·.1) := by
  unfold chT
  rw [List.map_map]; rfl
theorem nn_ch : ∀ (T : List Row) (k : Nat) (r : List Int), nn (chT T k r) = nn T
  | [], _, _ => rfl
  | p :: t, k, r => by
    show max (p.1 + 1) (nn (chT t k r)) = max (p.1 + 1) (nn t)
    rw [nn_ch]
theorem ch_id : ∀ {T : List Row} {k : Nat} {r : List Int}, (∀ p ∈ T, p.1 ≠ k) → chT T k r = T
  | [], _, _, _ => rfl
  | p :: t, k, r, h => by
    show (p.1, if p.1 == k then r else p.2) :: chT t k r = p :: t
    rw [ch_id fun q hq => h q (List.mem_cons_of_mem _ hq), if_neg (by have := h p (List.mem_cons_self ..); simpa using this)]
theorem total_ch : ∀ {T : List Row} {k : Nat} {o r : List Int}, (T.map (·.1)).Nodup → (k, o) ∈ T → total (chT T k r) + o.length = total T + r.length
  | p :: t, k, o, r, nd, h => by
    show (if p.1 == k then r else p.2).length + total (chT t k r) + o.length = p.2.length + total t + r.length
    have nd' := List.nodup_cons.mp nd
    rcases List.mem_cons.mp h with e | e
    · subst e
      rw [ch_id fun q hq e => nd'.1 (List.mem_map.mpr ⟨q, hq, e⟩), if_pos (by simp)]
      show r.length + total t + o.length = o.length + total t + r.length
      omega
    · rw [if_neg (fun c => nd'.1 (List.mem_map.mpr ⟨_, e, (eq_of_beq c).symm⟩))]
      have := total_ch nd'.2 e (r := r)
      omega
def sp (T : List Row) (o : List Int) : Int := 254 - 2 * (nn T : Int) - (total T : Int) + (o.length : Int)
section
variable {T : List Row} (t : Tab T)
include t
theorem Tab.ch {k : Nat} {o r : List Int} (ho : (k, o) ∈ T) (hr : r ≠ []) (hb : ∀ b ∈ r, IsB b) (hl : (r.length : Int) ≤ min 255 (sp T o)) : Tab (chT T k r) where
  nd := by rw [chT_keys]; exact t.nd
  ne := fun p hp => by
    obtain ⟨q, hq, rfl⟩ := List.mem_map.mp hp
    dsimp only
    split
    · exact hr
    · exact t.ne q hq
  bt := fun p hp => by
    obtain ⟨q, hq, rfl⟩ := List.mem_map.mp hp
    dsimp only
    split
    · exact hb
    · exact t.bt q hq
  hz := by
    have := total_ch t.nd ho (r := r)
    rw [nn_ch]
    unfold sp at hl
    omega
theorem Tab.chg {k : Nat} {o r : List Int} (ho : (k, o) ∈ T) (hr : r ≠ []) (hb : ∀ b ∈ r, IsB b) (hl : (r.length : Int) ≤ min 255 (sp T o)) :
    F_changed [iL (pgT T), .int (k : Int), iL r] = some (iL (pgT (chT T k r))) := by
  have t2 := t.ch ho hr hb hl
  have V2 := t2.val
  have hrl : 0 < r.length := List.length_pos_iff.mpr hr
  have es : chT (srt T) k r = srt (chT T k r) := by
    refine srt_ext ?_ (srt_srt t2.nd) fun x => ?_
    · unfold chT Srt
      exact List.pairwise_map.mpr ((srt_srt t.nd).imp fun h => h)
    · rw [srt_mem]
      unfold chT
      constructor <;> intro h
      · obtain ⟨q, hq, rfl⟩ := List.mem_map.mp h
        exact List.mem_map.mpr ⟨q, srt_mem.mp hq, rfl⟩
      · obtain ⟨q, hq, rfl⟩ := List.mem_map.mp h
        exact List.mem_map.mpr ⟨q, srt_mem.mpr hq, rfl⟩
  have lay2 : F_laid [.list (rowsD (srt (chT T k r))), .int (nn T : Int)] = some (iL (pgT (chT T k r))) := by
    have := laid_e V2.hs V2.hz
    rw [nn_ch] at this
    rw [this]
    unfold pgT
    rw [nn_ch]
  have us : F_used_in [iL (pgT T)] = some (.int (total T : Int)) := by
    have := t.val.used
    rw [total_perm (srt_perm T)] at this
    exact this
  have hrow : ∀ e : Pd.Env, e.at 0 = .sh (iL (pgT T)) → e.at 1 = .sh (.int (k : Int)) → mCall F_row_in (mCons (mVar 0) (mCons (mVar 1) mNil)) e () = some (iL o, ()) := fun e e0 e1 => by
    refine call_e (cons_e (var_e e0) (cons_e (var_e e1) nil_e)) ?_
    exact t.row ho
  have hrows : ∀ e : Pd.Env, e.at 0 = .sh (iL (pgT T)) → mCall F_rows_in (mCons (mVar 0) mNil) e () = some (.list (rowsD (srt T)), ()) := fun e e0 => by
    refine call_e (cons_e (var_e e0) nil_e) ?_
    exact t.rows
  have hsl : ∀ e : Pd.Env, e.at 0 = .sh (iL (pgT T)) → mCall F_slots_in (mCons (mVar 0) mNil) e () = some (.int (nn T : Int), ()) := fun e e0 => by
    refine call_e (cons_e (var_e e0) nil_e) ?_
    exact t.val.slots
  have hus : ∀ e : Pd.Env, e.at 0 = .sh (iL (pgT T)) → mCall F_used_in (mCons (mVar 0) mNil) e () = some (.int (total T : Int), ()) := fun e e0 => by
    refine call_e (cons_e (var_e e0) nil_e) ?_
    exact us
  have hmin : ∀ e : Pd.Env, e.at 0 = .sh (iL (pgT T)) → e.at 3 = .sh (iL o) → mCall dMin2 (mCons (mC (.int 255)) (mCons (mOp dAdd (mOp dSub (mOp dSub (mOp dSub (mC (.int 256)) (mC (.int 2))) (mOp dMul (mC (.int 2)) (mCall F_slots_in (mCons (mVar 0) mNil)))) (mCall F_used_in (mCons (mVar 0) mNil))) (mCall dLen (mCons (mVar 3) mNil))) mNil)) e () = some (.int (min 255 (sp T o)), ()) := fun e e0 e3 =>
    call_e (xs := [.int 255, .int (sp T o)]) (cons_e rfl (cons_e (op_e (x := .int (254 - 2 * (nn T : Int) - (total T : Int))) (y := .int (o.length : Int)) (op_e (x := .int (254 - 2 * (nn T : Int))) (op_e (x := .int 254) (y := .int (2 * (nn T : Int))) (op_e rfl rfl rfl) (op_e rfl (hsl e e0) (mul_l (by decide))) rfl) (hus e e0) rfl) (call_e (cons_e (var_e e3) nil_e) iL_len) rfl) nil_e)) (min2_n t _ _)
  have hlay : ∀ e : Pd.Env, e.at 0 = .sh (iL (pgT T)) → e.at 4 = .sh (.list (rowsD (chT (srt T) k r))) → mCall F_laid (mCons (mVar 4) (mCons (mCall F_slots_in (mCons (mVar 0) mNil)) mNil)) e () = some (iL (pgT (chT T k r)), ()) := fun e e0 e4 => by
    rw [es] at e4
    refine call_e (xs := [.list (rowsD (srt (chT T k r))), .int (nn T : Int)]) (cons_e (var_e e4) (cons_e (hsl e e0) nil_e)) ?_
    exact lay2
  have er : rowsD (chT (srt T) k r) = (srt T).map fun p => PyData.tuple [.int (p.1 : Int), iL (if p.1 == k then r else p.2)] := by
    unfold rowsD chT
    rw [List.map_map]; rfl
  refine runP_re (N := 7) (n := 3) (m := m_changed) (ds := [iL (pgT T), .int (k : Int), iL r]) (u := ()) (seq_nx (set_e (hrow _ rfl rfl)) (seq_nx (if_no (or_f (opT_e rfl rfl rfl) (not_e (b := true) (chain_t rfl (call_e (cons_e rfl nil_e) iL_len) (le_t (by omega)) (hmin _ rfl rfl) (le_t hl))))) (seq_nx (then_e (setF_e (ds := rowsD (chT (srt T) k r)) (comp_e (itL_e (hrows _ rfl)) rfl ?_))) (ret_e (hlay _ rfl rfl)))))
  rw [er]
  refine compL_mm (fun p : Row => PyData.tuple [.int (p.1 : Int), iL p.2]) _ fun p hp => ⟨_, bt_row, ?_⟩
  have hc : ∀ e : Pd.Env, e.at 5 = .sh (.int (p.1 : Int)) → e.at 1 = .sh (.int (k : Int)) → e.at 2 = .sh (iL r) → e.at 6 = .sh (iL p.2) → mTup (mCons (mVar 5) (mCons (mIf (mOpT dEq (mVar 5) (mVar 1)) (mL (mCallF dListOf (mCons (mVar 2) mNil))) (mVar 6)) mNil)) e () = some (.tuple [.int (p.1 : Int), iL (if p.1 == k then r else p.2)], ()) := fun e e5 e1 e2 e6 => by
    refine tup_e (cons_e (var_e e5) (cons_e ?_ nil_e))
    by_cases c : p.1 = k
    · rw [if_pos (by simp [c])]
      exact mif_t (opT_e (var_e e5) (var_e e1) (eq_it (by omega))) (L_e (callF_e (cons_e (var_e e2) nil_e) rfl))
    · rw [if_neg (by simp [c])]
      exact mif_f (opT_e (var_e e5) (var_e e1) (eq_if (by omega))) (var_e e6)
  exact hc _ rfl rfl rfl rfl
theorem Tab.noChg {k : Nat} {o r : List Int} (ho : (k, o) ∈ T) (hr : r ≠ []) (hl : ¬ (r.length : Int) ≤ min 255 (sp T o)) :
    F_changed [iL (pgT T), .int (k : Int), iL r] = some .none := by
  have hrl : 0 < r.length := List.length_pos_iff.mpr hr
  have us : F_used_in [iL (pgT T)] = some (.int (total T : Int)) := by
    have := t.val.used
    rw [total_perm (srt_perm T)] at this
    exact this
  refine runP_re (N := 7) (n := 3) (m := m_changed) (ds := [iL (pgT T), .int (k : Int), iL r]) (u := ()) (seq_nx (set_e (d := iL o) (call_e (cons_e rfl (cons_e rfl nil_e)) ?_)) (seq_re (if_t (or_f (opT_e rfl rfl rfl) (not_e (b := false) (chain_t rfl (call_e (cons_e rfl nil_e) iL_len) (le_t (by omega)) (call_e (xs := [.int 255, .int (sp T o)]) (cons_e rfl (cons_e (op_e (x := .int (254 - 2 * (nn T : Int) - (total T : Int))) (y := .int (o.length : Int)) (op_e (x := .int (254 - 2 * (nn T : Int))) (y := .int (total T : Int)) (op_e (x := .int 254) (y := .int (2 * (nn T : Int))) (op_e rfl rfl rfl) (op_e rfl (call_e (cons_e rfl nil_e) ?_) (mul_l (by decide))) rfl) (call_e (cons_e rfl nil_e) ?_) rfl) (call_e (cons_e rfl nil_e) iL_len) rfl) nil_e)) (min2_n t _ _)) (le_f hl)))) (ret_e rfl))))
  · exact t.row ho
  · exact t.val.slots
  · exact us
theorem Tab.chNone {k : Nat} {r : List Int} (h : has T k = false) : F_changed [iL (pgT T), .int (k : Int), iL r] = some .none := by
  refine runP_re (N := 7) (n := 3) (m := m_changed) (ds := [iL (pgT T), .int (k : Int), iL r]) (u := ()) (seq_nx (set_e (d := .none) (call_e (cons_e rfl (cons_e rfl nil_e)) ?_)) (seq_re (if_t (or_t (opT_e rfl rfl rfl)) (ret_e rfl))))
  exact t.noRow fun p hp e => has_no.mp h p hp (by omega)
end
end K52

namespace K52
open PySem Pd
open L2 (Key)
/-! #### the law's own table, locked -/
def kv (T : List Row) : List (Key × D) := T.map fun p => (.inl (p.1 : Int), iL p.2)
theorem hasK_kv (T : List Row) (k : Nat) : hasK (kv T) (.inl (k : Int)) = has T k := by
  unfold hasK kv has
  rw [List.any_map]
  congr 1
  funext p
  show decide ((Sum.inl (p.1 : Int) : Key) = .inl (k : Int)) = (p.1 == k)
  rw [Bool.eq_iff_iff]
  simp
  omega
theorem hasK_neg (T : List Row) {z : Int} (h : z < 0) : hasK (kv T) (.inl z) = false := by
  unfold hasK kv
  rw [List.any_map, List.any_eq_false]
  intro p _
  show ¬ decide ((Sum.inl (p.1 : Int) : Key) = .inl z) = true
  simp
  omega
theorem findK_kv : ∀ {T : List Row} {k : Nat} {r : List Int}, (T.map (·.1)).Nodup → (k, r) ∈ T → findK (kv T) (.inl (k : Int)) = some (iL r)
  | p :: t, k, r, nd, h => by
    show (List.find? _ ((Sum.inl (p.1 : Int), iL p.2) :: kv t)).map _ = _
    have nd' := List.nodup_cons.mp nd
    rcases List.mem_cons.mp h with e | e
    · subst e
      rw [List.find?_cons_of_pos (by simp)]; rfl
    · rw [List.find?_cons_of_neg (by
        have : p.1 ≠ k := fun z => nd'.1 (List.mem_map.mpr ⟨_, e, z.symm⟩)
        simp
        omega)]
      exact findK_kv nd'.2 e
theorem intK_kv : ∀ T : List Row, intK (kv T) = some (T.map fun p => (p.1 : Int))
  | [] => rfl
  | p :: t => by
    show (intK (kv t)).map ((p.1 : Int) :: ·) = _
    rw [intK_kv t]; rfl
theorem maxI_kv {T : List Row} (h : T ≠ []) : maxI (T.map fun p => (p.1 : Int)) = (nn T : Int) - 1 := by
  obtain ⟨r, hr⟩ := nn_top h
  have h0 : 0 < nn T := by have := nn_lt hr; omega
  refine (maxI_uni (List.mem_map.mpr ⟨_, hr, ?_⟩) fun j hj => ?_).symm
  · dsimp only; omega
  · obtain ⟨p, hp, rfl⟩ := List.mem_map.mp hj
    have := nn_lt hp
    omega
theorem maxK_kv {T : List Row} (h : T ≠ []) : dMaxK (kv T) = some (.int ((nn T : Int) - 1)) := by
  unfold dMaxK
  rw [intK_kv]
  cases T with
  | nil => exact absurd rfl h
  | cons p t =>
    have := maxI_kv h
    exact congrArg (fun z => some (PyData.int z)) this
theorem maxI_free (T : List Row) : maxI ((fre T : Int) :: T.map fun p => (p.1 : Int)) = ((max (nn T) (fre T + 1) : Nat) : Int) - 1 := by
  refine (maxI_uni ?_ fun j hj => ?_).symm
  · by_cases c : nn T ≤ fre T + 1
    · rw [Nat.max_eq_right c]
      exact List.mem_cons.mpr (.inl (by omega))
    · rw [Nat.max_eq_left (by omega)]
      obtain ⟨r, hr⟩ := nn_top (T := T) fun z => by rw [z] at c; exact c (Nat.zero_le _)
      exact List.mem_cons_of_mem _ (List.mem_map.mpr ⟨_, hr, by dsimp only; omega⟩)
  · rcases List.mem_cons.mp hj with e | e
    · omega
    · obtain ⟨p, hp, rfl⟩ := List.mem_map.mp e
      have := nn_lt hp
      omega
theorem itFz_kv {j : Nat} {e : Pd.Env} {g : Dr} {T : List Row} (h : e.at j = .fz (kv T)) : mItFz j e g = some (T.map fun p => .int (p.1 : Int), g) := by
  unfold mItFz
  rw [h]
  dsimp only
  rw [if_pos ⟨List.all_eq_true.mpr fun p hp => by
    obtain ⟨q, _, rfl⟩ := List.mem_map.mp hp
    exact decide_eq_true rfl, List.all_eq_true.mpr fun p hp => by
    obtain ⟨q, _, rfl⟩ := List.mem_map.mp hp
    rfl⟩]
  unfold kv
  rw [List.map_map]
  rfl
theorem fzIx_kv {j : Nat} {e : Pd.Env} {g g1 : Dr} {T : List Row} {k : Nat} {r : List Int} {me : ME Dr} (h : e.at j = .fz (kv T)) (hm : me e g = some (.int (k : Int), g1)) (nd : (T.map (·.1)).Nodup) (hr : (k, r) ∈ T) : mFzIx j me e g = some (iL r, g1) := by
  unfold mFzIx
  rw [hm]
  dsimp only [bD]
  rw [h]
  dsimp only [keyD]
  rw [findK_kv nd hr]; rfl
theorem inFz_kv {neg : Bool} {j : Nat} {e : Pd.Env} {g g1 : Dr} {T : List Row} {z : Int} {me : ME Dr} (h : e.at j = .fz (kv T)) (hm : me e g = some (.int z, g1)) : mInFzT neg j me e g = some (if neg then !hasK (kv T) (.inl z) else hasK (kv T) (.inl z), g1) := by
  unfold mInFzT
  rw [hm]
  dsimp only [bD]
  rw [h]
  rfl
theorem tup_kv (T : List Row) : (kv T).map tupD = rowsD T := by
  unfold kv rowsD
  rw [List.map_map]; rfl
theorem items_kv {T : List Row} (nd : (T.map (·.1)).Nodup) : dSortItems (kv T) = some (rowsD (srt T)) := by
  unfold dSortItems
  rw [tup_kv, if_pos ⟨rows_alike T, .inl (rows_tup T), rows_dep T, by rw [intK_kv]; rfl⟩, sorted_any nd]
theorem sum_tot : ∀ T : List Row, (T.map fun p => (p.2.length : Int)).sum = (total T : Int)
  | [] => rfl
  | p :: t => by
    rw [List.map_cons, List.sum_cons, sum_tot t]
    show _ = ((p.2.length + total t : Nat) : Int)
    omega
/-- the sum of the rows' lengths -/
theorem sum_kv {j v : Nat} {e : Pd.Env} {g : Dr} {T : List Row} (h : e.at j = .fz (kv T)) (hw : Pd.Env.at (e.wipe [v]) j = .fz (kv T)) (hv : Pd.Env.at ((e.wipe [v]).set v (.sh (.int 0))) v = .sh (.int 0)) (hne : j ≠ v) (ho : (e.at v).notOw = true) (nd : (T.map (·.1)).Nodup) :
    mCall dSum (mCons (mL (mComp (mItFz j) [v] (bName v) mYes (mCall dLen (mCons (mFzIx j (mVar v)) mNil)))) mNil) e g = some (.int (total T : Int), g) := by
  refine call_e (xs := [.list (T.map fun p => .int (p.2.length : Int))]) (cons_e (L_e (comp_e (itFz_kv h) (by rw [List.all_cons, ho]; rfl) (compL_mm (fun p : Row => PyData.int (p.1 : Int)) (fun p : Row => PyData.int (p.2.length : Int)) fun p hp => ⟨_, rfl, ?_⟩))) nil_e) ?_
  · have hl : v < (e.wipe [v]).length := by
      rcases Nat.lt_or_ge v (e.wipe [v]).length with q | q
      · exact q
      · exfalso
        rw [Pd.Env.at, List.getD_eq_getElem?_getD, List.getElem?_set_self', List.getElem?_eq_none q] at hv
        cases hv
    have a1 : Pd.Env.at ((e.wipe [v]).set v (.sh (.int (p.1 : Int)))) j = .fz (kv T) := by
      rw [Pd.Env.at, List.getD_eq_getElem?_getD, List.getElem?_set_ne (Ne.symm hne), ← List.getD_eq_getElem?_getD]
      exact hw
    have a2 : Pd.Env.at ((e.wipe [v]).set v (.sh (.int (p.1 : Int)))) v = .sh (.int (p.1 : Int)) := by
      rw [Pd.Env.at, List.getD_eq_getElem?_getD, List.getElem?_set_self hl]; rfl
    exact call_e (cons_e (fzIx_kv a1 (var_e a2) nd hp) nil_e) iL_len
  · rw [sum_e, sum_tot]
theorem lfree_loop (T : List Row) (g : Dr) : ∀ {m k : Nat}, k + m = fre T → whileN wt__law_free_1 wb__law_free_2 (m + 1) [.fz (kv T), .sh (.int (k : Int))] g = some (.nx, [.fz (kv T), .sh (.int (fre T : Int))], g)
  | 0, k, h => by
    have e : k = fre T := by omega
    subst e
    refine wn_f ?_
    unfold wt__law_free_1
    rw [inFz_kv (T := T) rfl rfl, hasK_kv, (fre_sp T).1]; rfl
  | m + 1, k, h => by
    refine wn_t (e1 := [.fz (kv T), .sh (.int ((k + 1 : Nat) : Int))]) (g1 := g) (g2 := g) ?_ (set_e (op_e rfl rfl rfl)) (lfree_loop T g (by omega))
    unfold wt__law_free_1
    rw [inFz_kv (T := T) rfl rfl, hasK_kv, (fre_sp T).2.1 k (by omega)]; rfl
theorem lfree_e (T : List Row) (g : Dr) : F__law_free [.fz (kv T)] g = some (.int (fre T : Int), g) :=
  runG_re (N := 2) (n := 1) (m := m__law_free) (seq_nx (set_e rfl) (seq_nx (while_e (fre T + 1) (lfree_loop T g (Nat.zero_add _))) (ret_e rfl)))
section
variable {T : List Row} (t : Tab T)
include t
theorem Tab.lroom (g : Dr) : F__law_room [.fz (kv T)] g = some (.int (rm T), g) := by
  have c0 : ∀ e : Pd.Env, e.at 0 = .fz (kv T) → mCallG F__law_free (gConsF 0 gNil) e g = some (.int (fre T : Int), g) := fun e e0 => by
    refine callG_e (as := [.fz (kv T)]) (g1 := g) ?_ (lfree_e T g)
    unfold gConsF
    rw [e0]; rfl
  have c1 : ∀ e : Pd.Env, e.at 0 = .fz (kv T) → mFzF dListK 0 e g = some (T.map fun p => .int (p.1 : Int), g) := fun e e0 => by
    unfold mFzF
    rw [e0]
    dsimp only [dListK]
    rw [intK_kv]
    show some (List.map _ (List.map _ _), g) = _
    rw [List.map_map]; rfl
  have few := t.few
  refine runG_re (N := 3) (n := 1) (m := m__law_room) (e := [.fz (kv T), .sh (.int ((max (nn T) (fre T + 1) : Nat) : Int)), .un]) (seq_nx (set_e (op_e (x := .int (((max (nn T) (fre T + 1) : Nat) : Int) - 1)) (call_e (cons_e (L_e (cat_e (L_e (lst_e (cons_e (c0 _ rfl) nil_e))) (L_e (c1 _ rfl)) ?_)) nil_e) ?_) rfl ?_)) (ret_e (call_e (xs := [.int 0, .int (min 255 (254 - 2 * ((max (nn T) (fre T + 1) : Nat) : Int) - (total T : Int)))]) (cons_e rfl (cons_e (call_e (xs := [.int 255, .int (254 - 2 * ((max (nn T) (fre T + 1) : Nat) : Int) - (total T : Int))]) (cons_e rfl (cons_e (op_e (x := .int (254 - 2 * ((max (nn T) (fre T + 1) : Nat) : Int))) (y := .int (total T : Int)) (op_e rfl (op_e rfl rfl (mul_l (by decide))) rfl) (sum_kv rfl rfl rfl (by decide) rfl t.nd) rfl) nil_e)) (min2_n t _ _)) nil_e)) (max2_n t _ _))))
  · rw [List.length_singleton, List.length_map, line_val]; omega
  · show dMaxL [.list (PyData.int (fre T : Int) :: T.map fun p => PyData.int (p.1 : Int))] = _
    have : (PyData.int (fre T : Int) :: T.map fun p => PyData.int (p.1 : Int)) = ((fre T : Int) :: T.map fun p => (p.1 : Int)).map .int := by rw [List.map_cons, List.map_map]; rfl
    rw [this]
    unfold dMaxL
    dsimp only
    rw [intsD_mm]
    dsimp only
    rw [maxI_free]
  · show some (PyData.int (((max (nn T) (fre T + 1) : Nat) : Int) - 1 + 1)) = _
    rw [Int.sub_add_cancel]
theorem Tab.lpage (g : Dr) : F__law_page [.fz (kv T)] g = some (iL (pgT T), g) := by
  have V := t.val
  have hl : F__law_laid [.list (rowsD (srt T)), .int (nn T : Int)] = some (iL (pgT T)) := llaid_e V.hs V.hz
  have c1 : mFzF dSortItems 0 [.fz (kv T)] g = some (rowsD (srt T), g) := by
    unfold mFzF
    show (dSortItems (kv T)).map _ = _
    rw [items_kv t.nd]; rfl
  have c2 : mIf (mOpT dGtI (mFz dLenK 0) (mC (.int 0))) (mOp dAdd (mFz dMaxK 0) (mC (.int 1))) (mC (.int 0)) [.fz (kv T)] g = some (.int (nn T : Int), g) := by
    by_cases h : T = []
    · subst h
      rfl
    · have hp := List.length_pos_iff.mpr h
      refine mif_t (g1 := g) (opT_e (g1 := g) (x := .int (T.length : Int)) ?_ rfl (gt_t (by omega))) (op_e (g1 := g) (x := .int ((nn T : Int) - 1)) ?_ rfl ?_)
      · show some (PyData.int ((kv T).length : Int), g) = _
        unfold kv
        rw [List.length_map]
      · show (dMaxK (kv T)).map _ = _
        rw [maxK_kv h]; rfl
      · show some (PyData.int ((nn T : Int) - 1 + 1)) = _
        rw [Int.sub_add_cancel]
  refine runG_re (N := 1) (n := 1) (m := m__law_page) (ret_e (call_e (cons_e (L_e c1) (cons_e c2 nil_e)) ?_))
  exact hl
end
end K52

namespace K52
open PySem Pd
open L2 (Key)
theorem lk_e {α G : Type} {j : Nat} {m : Pd.Env → G → Option (α × G)} {e : Pd.Env} {g : G} {kvs : List (Key × D)} {r} (h : e.at j = .tr (.one (.dc kvs))) (k : m (e.set j (.fz kvs)) g = r) : mLk j m e g = r := by
  unfold mLk
  rw [h]
  exact k
/-- the law's place in the first loop -/
abbrev E1 (T : List Row) (a b c d f h i j k l : SV) : Pd.Env := [.un, .st, .sh (iL (pgT T)), .tr (.one (.dc (kv T))), a, b, c, d, f, h, i, j, k, .un, l, .un, .un, .un, .un, .un, .un, .un, .un]
theorem put_new {T : List Row} {k : Nat} {r : List Int} (h : has T k = false) : putKD (kv T) (.inl (k : Int)) (iL r) = kv (T ++ [(k, r)]) := by
  unfold putKD
  rw [hasK_kv, h, if_neg (by decide)]
  unfold kv
  rw [List.map_append]; rfl
theorem put_old {T : List Row} {k : Nat} {r : List Int} (h : has T k = true) : putKD (kv T) (.inl (k : Int)) (iL r) = kv (chT T k r) := by
  unfold putKD
  rw [hasK_kv, h, if_pos rfl]
  unfold kv chT
  rw [List.map_map, List.map_map]
  refine List.map_congr_left fun p _ => ?_
  show (if (Sum.inl (p.1 : Int) : Key) = .inl (k : Int) then ((Sum.inl (p.1 : Int) : Key), iL r) else (.inl (p.1 : Int), iL p.2)) = (.inl (p.1 : Int), iL (if p.1 == k then r else p.2))
  by_cases c : p.1 = k
  · rw [if_pos (by rw [c]), if_pos (by simp [c])]
  · rw [if_neg (by intro z; exact c (by have := Sum.inl.inj z; omega)), if_neg (by simp [c])]
theorem kv_len (T : List Row) : (kv T).length = T.length := by unfold kv; rw [List.length_map]
theorem putD_e {j : Nat} {mi me : ME Dr} {e : Pd.Env} {g g1 g2 : Dr} {d : D} {k : Nat} {T : List Row} (h : me e g = some (d, g1)) (hi : mi e g1 = some (.int (k : Int), g2)) (hj : e.at j = .tr (.one (.dc (kv T)))) (hl : T.length ≤ 254) :
    mPutD j mi me e g = some (.nx, e.set j (.tr (.one (.dc (putKD (kv T) (.inl (k : Int)) d)))), g2) := by
  unfold mPutD
  rw [h]
  dsimp only [bD]
  rw [hi]
  dsimp only [bD]
  rw [hj]
  dsimp only [keyD]
  exact if_pos (by rw [kv_len, line_val]; omega)
theorem noDict_rows (R : List Row) : noDict (.list (rowsD R)) = true := by
  show noDictA (rowsD R) = true
  refine noDictA_of fun x hx => ?_
  obtain ⟨p, _, rfl⟩ := List.mem_map.mp hx
  show noDictA [.int (p.1 : Int), iL p.2] = true
  refine noDictA_of fun y hy => ?_
  rcases List.mem_cons.mp hy with e | e
  · rw [e]; rfl
  · rw [List.mem_singleton.mp e]; exact noDict_iL _
theorem depth_rows (R : List Row) : (PyData.list (rowsD R)).depth ≤ 64 := by
  refine Nat.le_trans (depth_list (n := 60) fun x hx => ?_) (by decide)
  exact of_decide_eq_true (List.all_eq_true.mp (rows_dep R) x hx)
section
variable {T : List Row} (t : Tab T)
include t
theorem Tab.fault : F_page_fault [iL (pgT T)] = some .none := by
  have h1 : (pgT T).length = 256 := t.val.len
  rw [page_fault_e _ (by rw [h1]; decide)]
  have := t.val.faultless (fun p hp => t.bt p (srt_mem.mp hp)) t.last
  unfold pgT
  rw [this]
/-- one slot looked at -/
theorem Tab.look {a b c d f h i k l : SV} {z : Int} {g : Dr} : lb_law_1 (E1 T a b c d f h i (.sh (.int z)) k l) g = some (.nx, E1 T a b c d f h i (.sh (.int z)) k l, g) := by
  unfold lb_law_1
  by_cases c : ∃ p ∈ T, (p.1 : Int) = z
  · obtain ⟨p, hp, rfl⟩ := c
    refine if_no (lk_e rfl (opT_e (x := iL p.2) (y := iL p.2) (call_e (cons_e rfl (cons_e rfl nil_e)) ?_) (mif_t ((inFz_kv (z := (p.1 : Int)) rfl rfl).trans ?_) (fzIx_kv (k := p.1) rfl rfl t.nd hp)) ((ne_iL _ _).trans (by simp))))
    · exact t.row hp
    · rw [hasK_kv, has_iff.mpr ⟨_, hp⟩]; rfl
  · have c' : ∀ p ∈ T, (p.1 : Int) ≠ z := fun p hp e => c ⟨p, hp, e⟩
    have hk : hasK (kv T) (.inl z) = false := by
      by_cases hz : 0 ≤ z
      · obtain ⟨n, rfl⟩ := Int.eq_ofNat_of_zero_le hz
        rw [hasK_kv]
        exact has_no.mpr fun p hp e => c' p hp (by rw [e])
      · exact hasK_neg T (by omega)
    refine if_no (lk_e rfl (opT_e (x := .none) (y := .none) (call_e (cons_e rfl (cons_e rfl nil_e)) ?_) (mif_f ((inFz_kv (z := z) rfl rfl).trans ?_) rfl) (ne_self rfl (by rw [PyData.depth]; decide))))
    · exact t.noRow c'
    · rw [hk]; rfl
theorem Tab.tail {a b c h i j k l : SV} {P : List Int} {g : Dr} (hj : j.notOw = true) : ∃ j', j'.notOw = true ∧ (mSeq (mIfS (mLk 3 (mOr (mOpT dNe (mVar 7) (mVar 8)) (mOr (mOpT dNe (mVar 2) (mCallG F__law_page (gConsF 3 gNil))) (mOr (mOpT dIsNot (mCall F_page_fault (mCons (mVar 2) mNil)) (mC .none)) (mOpT dNe (mCall F_rows_in (mCons (mVar 2) mNil)) (mL (mFzF dSortItems 3)))))))
    (mRet (mC (.bool false)))
    mSkip)
    (mFor (mRng2 (mCons (mOp dSub (mC (.int 0)) (mC (.int 1))) (mCons (mC (.int 12)) mNil))) (bName 11) lb_law_1)) (E1 T a b c (.sh (iL P)) (.sh (iL P)) h i j k l) g = some (.nx, E1 T a b c (.sh (iL P)) (.sh (iL P)) h i j' k l, g) := by
  have c1 : ∀ e : Pd.Env, e.at 3 = .fz (kv T) → mCallG F__law_page (gConsF 3 gNil) e g = some (iL (pgT T), g) := fun e e3 => by
    refine callG_e (as := [.fz (kv T)]) (g1 := g) ?_ (t.lpage g)
    unfold gConsF
    rw [e3]; rfl
  have c2 : ∀ e : Pd.Env, e.at 3 = .fz (kv T) → mFzF dSortItems 3 e g = some (rowsD (srt T), g) := fun e e3 => by
    unfold mFzF
    rw [e3]
    dsimp only
    rw [items_kv t.nd]; rfl
  obtain ⟨e2, g2, hl, j', rfl, rfl, hj'⟩ := loop_inv (bt := bName 11) (mb := lb_law_1) (fun e g' => ∃ j' : SV, e = E1 T a b c (.sh (iL P)) (.sh (iL P)) h i j' k l ∧ g' = g ∧ j'.notOw = true) (ds := rng (-1) 13) (env := E1 T a b c (.sh (iL P)) (.sh (iL P)) h i j k l) (g := g) ⟨j, rfl, rfl, hj⟩ (by
    rintro d hd env g' ⟨j', rfl, rfl, _⟩
    obtain ⟨q, _, rfl⟩ := List.mem_map.mp hd
    exact ⟨_, rfl, _, g', .inl (t.look), _, rfl, rfl, rfl⟩)
  refine ⟨j', hj', seq_nx (if_no (lk_e rfl (or_f (opT_e rfl rfl ((ne_iL _ _).trans (by simp))) (or_f (opT_e rfl (c1 _ rfl) ((ne_iL _ _).trans (by simp))) (or_f (opT_e (x := .none) (call_e (cons_e rfl nil_e) ?_) rfl rfl) (opT_e (x := .list (rowsD (srt T))) (y := .list (rowsD (srt T))) (call_e (cons_e rfl nil_e) ?_) (L_e (c2 _ rfl)) (ne_self (noDict_rows _) (depth_rows _)))))))) (for_e (rng2_e (i := -1) (j := 12) (cons_e (op_e rfl rfl rfl) (cons_e rfl nil_e)) (by decide)) hl)⟩
  · exact t.fault
  · exact t.rows
end
end K52

namespace K52
open PySem Pd
open L2 (Key)
noncomputable def tPut : MS Dr := (mSeq (mSet 10 (mCall F_put_in (mCons (mVar 2) (mCons (mVar 5) mNil))))
    (mSeq (mIfS (mOpT dNe (mOp dIs (mVar 10) (mC .none)) (mOp dGtI (mCall dLen (mCons (mVar 5) mNil)) (mVar 9)))
    (mRet (mC (.bool false)))
    mSkip)
    (mIfS (mOpT dIsNot (mVar 10) (mC .none))
    (mSeq (mSet 11 (mLk 3 (mCallG F__law_free (gConsF 3 gNil))))
    (mSeq (mPutD 3 (mVar 11) (mVar 5))
    (mSeq (mIfS (mOpT dNe (mOp dIx (mVar 10) (mC (.int 1))) (mVar 11))
    (mRet (mC (.bool false)))
    mSkip)
    (mSet 2 (mOp dIx (mVar 10) (mC (.int 0)))))))
    mSkip)))
noncomputable def tRest : MS Dr := (mIfS (mLk 3 (mInFzT true 3 (mVar 11)))
    (mIfS (mOpT dIsNot (mVar 12) (mC .none))
    (mRet (mC (.bool false)))
    mSkip)
    (mIfS (mOpT dEq (mVar 6) (mC (.int 2)))
    (mSeq (mSetK 3 (mLk 3 (mDictOf (mL (mComp (mItFz 3) [13] (bName 13) (mOpT dNe (mVar 13) (mVar 11)) (mTup (mCons (mVar 13) (mCons (mFzIx 3 (mVar 13)) mNil))))))))
    (mSet 2 (mVar 12)))
    (mSeq (mSet 14 (mLk 3 (mOp dAdd (mOp dSub (mOp dSub (mC (.int 254)) (mOp dMul (mC (.int 2)) (mOp dAdd (mFz dMaxK 3) (mC (.int 1))))) (mCall dSum (mCons (mL (mComp (mItFz 3) [13] (bName 13) mYes (mCall dLen (mCons (mFzIx 3 (mVar 13)) mNil)))) mNil))) (mCall dLen (mCons (mFzIx 3 (mVar 11)) mNil)))))
    (mSeq (mIfS (mOpT dNe (mOp dIs (mVar 12) (mC .none)) (mOp dGtI (mCall dLen (mCons (mVar 5) mNil)) (mCall dMin2 (mCons (mC (.int 255)) (mCons (mVar 14) mNil)))))
    (mRet (mC (.bool false)))
    mSkip)
    (mIfS (mOpT dIsNot (mVar 12) (mC .none))
    (mSeq (mPutD 3 (mVar 11) (mVar 5))
    (mSet 2 (mVar 12)))
    mSkip)))))
noncomputable def tChg : MS Dr := (mSeq (mSet 11 (mCallG drawA (gConsS 1 (gCons (mC (.int 8)) gNil))))
    (mSeq (mSet 12 (mIf (mOpT dEq (mVar 6) (mC (.int 2))) (mCall F_taken_out (mCons (mVar 2) (mCons (mVar 11) mNil))) (mCall F_changed (mCons (mVar 2) (mCons (mVar 11) (mCons (mVar 5) mNil))))))
    (mIfS (mLk 3 (mInFzT true 3 (mVar 11)))
    (mIfS (mOpT dIsNot (mVar 12) (mC .none))
    (mRet (mC (.bool false)))
    mSkip)
    (mIfS (mOpT dEq (mVar 6) (mC (.int 2)))
    (mSeq (mSetK 3 (mLk 3 (mDictOf (mL (mComp (mItFz 3) [13] (bName 13) (mOpT dNe (mVar 13) (mVar 11)) (mTup (mCons (mVar 13) (mCons (mFzIx 3 (mVar 13)) mNil))))))))
    (mSet 2 (mVar 12)))
    (mSeq (mSet 14 (mLk 3 (mOp dAdd (mOp dSub (mOp dSub (mC (.int 254)) (mOp dMul (mC (.int 2)) (mOp dAdd (mFz dMaxK 3) (mC (.int 1))))) (mCall dSum (mCons (mL (mComp (mItFz 3) [13] (bName 13) mYes (mCall dLen (mCons (mFzIx 3 (mVar 13)) mNil)))) mNil))) (mCall dLen (mCons (mFzIx 3 (mVar 11)) mNil)))))
    (mSeq (mIfS (mOpT dNe (mOp dIs (mVar 12) (mC .none)) (mOp dGtI (mCall dLen (mCons (mVar 5) mNil)) (mCall dMin2 (mCons (mC (.int 255)) (mCons (mVar 14) mNil)))))
    (mRet (mC (.bool false)))
    mSkip)
    (mIfS (mOpT dIsNot (mVar 12) (mC .none))
    (mSeq (mPutD 3 (mVar 11) (mVar 5))
    (mSet 2 (mVar 12)))
    mSkip)))))))
theorem setK_e {i : Nat} {mk : MK Dr} {e : Pd.Env} {g g1 : Dr} {kvs : List (Key × D)} (h : mk e g = some (kvs, g1)) : mSetK i mk e g = some (.nx, e.set i (.tr (.one (.dc kvs))), g1) := by unfold mSetK; rw [h]
theorem dictOf_e {ma : ME Dr} {e : Pd.Env} {g g1 : Dr} {ds : List D} {kvs : List (Key × D)} (h : ma e g = some (.list ds, g1)) (hp : pairsK ds = some kvs) (hn : ndK kvs = true) : mDictOf ma e g = some (kvs, g1) := by
  unfold mDictOf
  rw [h]
  dsimp only [bD]
  rw [hp]
  exact if_pos hn
theorem fin_e {e e1 e2 : Pd.Env} {m : MS Dr} {g g1 : Dr} {c : Ct} (h : e1 = e2) (k : m e g = some (c, e1, g1)) : m e g = some (c, e2, g1) := by rw [← h]; exact k
theorem out_pairs (T : List Row) : pairsK (rowsD T) = some (kv T) := by
  induction T with
  | nil => rfl
  | cons p t ih =>
    show (pairsK (rowsD t)).map ((Sum.inl (p.1 : Int), iL p.2) :: ·) = _
    rw [ih]; rfl
theorem nd_kv {T : List Row} (nd : (T.map (·.1)).Nodup) : ndK (kv T) = true := by
  unfold ndK kv
  rw [List.map_map]
  refine decide_eq_true ?_
  refine List.pairwise_map.mpr ((List.pairwise_map.mp nd).imp fun {a b} h z => h ?_)
  have := Sum.inl.inj z
  omega
section
variable {T : List Row} (t : Tab T)
include t
theorem Tab.putE {r : List Int} (hr : r ≠ []) (hb : ∀ b ∈ r, IsB b) {a c d f i j k l : SV} {g : Dr} (hj : j.notOw = true) :
    ∃ T' i' j', Tab T' ∧ (i'.notOw = true ∧ j'.notOw = true) ∧ tPut (E1 T a (.sh (iL r)) c d f (.sh (.int (rm T))) i j k l) g = some (.nx, E1 T' a (.sh (iL r)) c d f (.sh (.int (rm T))) i' j' k l, g) := by
  by_cases hl : (r.length : Int) ≤ rm T
  · have hp := t.put hr hb hl
    have t2 := t.add hr hb hl
    refine ⟨addT T r, .sh (.tuple [iL (pgT (addT T r)), .int (fre T : Int)]), .sh (.int (fre T : Int)), t2, ⟨rfl, rfl⟩, ?_⟩
    have few := t.few
    have hf : ∀ e : Pd.Env, e.at 3 = .fz (kv T) → mCallG F__law_free (gConsF 3 gNil) e g = some (.int (fre T : Int), g) := fun e e3 => by
      refine callG_e (as := [.fz (kv T)]) (g1 := g) ?_ (lfree_e T g)
      unfold gConsF
      rw [e3]; rfl
    unfold tPut
    refine seq_nx (set_e (d := .tuple [iL (pgT (addT T r)), .int (fre T : Int)]) (call_e (cons_e rfl (cons_e rfl nil_e)) ?_)) (seq_nx (if_no (opT_e (x := .bool false) (y := .bool false) (op_e rfl rfl rfl) (op_e (call_e (cons_e rfl nil_e) iL_len) rfl (gt_f (by omega))) (ne_bb _ _))) (if_t (opT_e rfl rfl rfl) (seq_nx (set_e (lk_e rfl (hf _ rfl))) (seq_nx (putD_e (k := fre T) (T := T) rfl rfl rfl few) (seq_nx (if_no (opT_e (x := .int (fre T : Int)) (y := .int (fre T : Int)) (op_e rfl rfl rfl) rfl (neq_f rfl))) (fin_e ?_ (set_e (d := iL (pgT (addT T r))) (op_e rfl rfl rfl))))))))
    · exact hp
    · rw [put_new (fre_sp T).1]; rfl
  · have hp := t.noPut hr hl
    refine ⟨T, .sh .none, j, t, ⟨rfl, hj⟩, ?_⟩
    unfold tPut
    refine seq_nx (set_e (d := .none) (call_e (cons_e rfl (cons_e rfl nil_e)) ?_)) (seq_nx (if_no (opT_e (x := .bool true) (y := .bool true) (op_e rfl rfl rfl) (op_e (call_e (cons_e rfl nil_e) iL_len) rfl (gt_t (by omega))) (ne_bb _ _))) (if_no (opT_e rfl rfl rfl)))
    exact hp
theorem Tab.restNo {s : Nat} {a b c d f h i l : SV} {g : Dr} (hs : has T s = false) :
    tRest (E1 T a b c d f h i (.sh (.int (s : Int))) (.sh .none) l) g = some (.nx, E1 T a b c d f h i (.sh (.int (s : Int))) (.sh .none) l, g) := by
  unfold tRest
  refine if_t (lk_e rfl ((inFz_kv (z := (s : Int)) rfl rfl).trans ?_)) (if_no (opT_e rfl rfl rfl))
  rw [hasK_kv, hs]; rfl
theorem Tab.restOut {s : Nat} {o : List Int} {a b d f h i l : SV} {g : Dr} (ho : (s, o) ∈ T) :
    tRest (E1 T a b (.sh (.int 2)) d f h i (.sh (.int (s : Int))) (.sh (iL (pgT (outT T s)))) l) g = some (.nx, E1 (outT T s) a b (.sh (.int 2)) d f h i (.sh (.int (s : Int))) (.sh (iL (pgT (outT T s)))) l, g) := by
  unfold tRest
  have hh : has T s = true := has_iff.mpr ⟨_, ho⟩
  refine if_f (lk_e rfl ((inFz_kv (z := (s : Int)) rfl rfl).trans ?_)) (if_t (opT_e rfl rfl rfl) (seq_nx (setK_e (kvs := kv (outT T s)) (lk_e rfl (dictOf_e (ds := rowsD (outT T s)) (L_e (comp_e (itFz_kv rfl) rfl (compL_filter (fun p : Row => PyData.int (p.1 : Int)) (fun p : Row => PyData.tuple [.int (p.1 : Int), iL p.2]) (fun p : Row => !(p.1 == s)) fun p hp => ⟨_, rfl, opT_e rfl rfl ?_, tup_e (cons_e rfl (cons_e (fzIx_kv rfl rfl t.nd hp) nil_e))⟩))) (out_pairs _) (nd_kv (t.filt s).nd)))) (set_e rfl)))
  · rw [hasK_kv, hh]; rfl
  · rw [ne_int]
    congr 3
    rw [Bool.eq_iff_iff]; simp; omega
theorem Tab.spare {s : Nat} {o : List Int} {a b c d f h i k l : SV} {g : Dr} (ho : (s, o) ∈ T) :
    mLk 3 (mOp dAdd (mOp dSub (mOp dSub (mC (.int 254)) (mOp dMul (mC (.int 2)) (mOp dAdd (mFz dMaxK 3) (mC (.int 1))))) (mCall dSum (mCons (mL (mComp (mItFz 3) [13] (bName 13) mYes (mCall dLen (mCons (mFzIx 3 (mVar 13)) mNil)))) mNil))) (mCall dLen (mCons (mFzIx 3 (mVar 11)) mNil))) (E1 T a b c d f h i (.sh (.int (s : Int))) k l) g = some (.int (sp T o), g) := by
  have hne : T ≠ [] := fun z => by rw [z] at ho; cases ho
  refine lk_e rfl (op_e (x := .int (254 - 2 * (nn T : Int) - (total T : Int))) (y := .int (o.length : Int)) (op_e (x := .int (254 - 2 * (nn T : Int))) (y := .int (total T : Int)) (op_e (x := .int 254) (y := .int (2 * (nn T : Int))) rfl (op_e (x := .int 2) (y := .int (nn T : Int)) rfl (op_e (x := .int ((nn T : Int) - 1)) (y := .int 1) ?_ rfl ?_) (mul_l (by decide))) rfl) (sum_kv rfl rfl rfl (by decide) rfl t.nd) rfl) (call_e (cons_e (fzIx_kv rfl rfl t.nd ho) nil_e) iL_len) rfl)
  · show (dMaxK (kv T)).map _ = _
    rw [maxK_kv hne]; rfl
  · show some (PyData.int ((nn T : Int) - 1 + 1)) = _
    rw [Int.sub_add_cancel]
theorem Tab.restCh {s : Nat} {o r : List Int} {kd : Int} {a d f h i l : SV} {g : Dr} (hk : kd ≠ 2) (ho : (s, o) ∈ T) (hr : r ≠ []) (hb : ∀ b ∈ r, IsB b) :
    ∃ T' l' x, Tab T' ∧ l'.notOw = true ∧ F_changed [iL (pgT T), .int (s : Int), iL r] = some x ∧ tRest (E1 T a (.sh (iL r)) (.sh (.int kd)) d f h i (.sh (.int (s : Int))) (.sh x) l) g = some (.nx, E1 T' a (.sh (iL r)) (.sh (.int kd)) d f h i (.sh (.int (s : Int))) (.sh x) l', g) := by
  have hh : has T s = true := has_iff.mpr ⟨_, ho⟩
  have few := t.few
  unfold tRest
  by_cases hl : (r.length : Int) ≤ min 255 (sp T o)
  · refine ⟨chT T s r, .sh (.int (sp T o)), _, t.ch ho hr hb hl, rfl, t.chg ho hr hb hl, ?_⟩
    refine if_f (lk_e rfl ((inFz_kv (z := (s : Int)) rfl rfl).trans ?_)) (if_f (opT_e rfl rfl (eq_if hk)) (seq_nx (set_e (t.spare ho)) (seq_nx (if_no (opT_e (x := .bool false) (y := .bool false) (op_e rfl rfl rfl) (op_e (y := .int (min 255 (sp T o))) (call_e (cons_e rfl nil_e) iL_len) (call_e (xs := [.int 255, .int (sp T o)]) (cons_e rfl (cons_e rfl nil_e)) (min2_n t _ _)) (gt_f (by omega))) (ne_bb _ _))) (if_t (opT_e rfl rfl rfl) (seq_nx (putD_e (k := s) (T := T) rfl rfl rfl few) (fin_e ?_ (set_e (d := iL (pgT (chT T s r))) rfl)))))))
    · rw [hasK_kv, hh]; rfl
    · rw [put_old hh]; rfl
  · refine ⟨T, .sh (.int (sp T o)), _, t, rfl, t.noChg ho hr hl, ?_⟩
    refine if_f (lk_e rfl ((inFz_kv (z := (s : Int)) rfl rfl).trans ?_)) (if_f (opT_e rfl rfl (eq_if hk)) (seq_nx (set_e (t.spare ho)) (seq_nx (if_no (opT_e (x := .bool true) (y := .bool true) (op_e rfl rfl rfl) (op_e (y := .int (min 255 (sp T o))) (call_e (cons_e rfl nil_e) iL_len) (call_e (xs := [.int 255, .int (sp T o)]) (cons_e rfl (cons_e rfl nil_e)) (min2_n t _ _)) (gt_t (by omega))) (ne_bb _ _))) (if_no (opT_e rfl rfl rfl)))))
    rw [hasK_kv, hh]; rfl
end
end K52

namespace K52
open PySem Pd
open L2 (Key)
section
variable {T : List Row} (t : Tab T)
include t
theorem Tab.chgE {r : List Int} {kd : Int} (hr : r ≠ []) (hb : ∀ b ∈ r, IsB b) {a d f h i j k l : SV} {g : Dr} (hl : l.notOw = true) :
    ∃ T' j' k' l' g', Tab T' ∧ (j'.notOw = true ∧ k'.notOw = true ∧ l'.notOw = true) ∧ tChg (E1 T a (.sh (iL r)) (.sh (.int kd)) d f h i j k l) g = some (.nx, E1 T' a (.sh (iL r)) (.sh (.int kd)) d f h i j' k' l', g') := by
  obtain ⟨z, g1, e1, z0, z1⟩ := drawn g 1 (m := 8) (by decide) (e := E1 T a (.sh (iL r)) (.sh (.int kd)) d f h i j k l) rfl
  obtain ⟨s, rfl⟩ := Int.eq_ofNat_of_zero_le z0
  have pick : ∀ {x : D} {j : SV}, (if kd = 2 then F_taken_out [iL (pgT T), .int (s : Int)] else F_changed [iL (pgT T), .int (s : Int), iL r]) = some x →
      mIf (mOpT dEq (mVar 6) (mC (.int 2))) (mCall F_taken_out (mCons (mVar 2) (mCons (mVar 11) mNil))) (mCall F_changed (mCons (mVar 2) (mCons (mVar 11) (mCons (mVar 5) mNil)))) (E1 T a (.sh (iL r)) (.sh (.int kd)) d f h i (.sh (.int (s : Int))) j l) g1 = some (x, g1) := fun {x j} hx => by
    by_cases c : kd = 2
    · rw [if_pos c] at hx
      subst c
      exact mif_t (opT_e rfl rfl (eq_it rfl)) (call_e (cons_e rfl (cons_e rfl nil_e)) hx)
    · rw [if_neg c] at hx
      exact mif_f (opT_e rfl rfl (eq_if c)) (call_e (cons_e rfl (cons_e rfl (cons_e rfl nil_e))) hx)
  cases hs : has T s with
  | false =>
    refine ⟨T, _, _, l, g1, t, ⟨rfl, rfl, hl⟩, seq_nx (set_e e1) (seq_nx (set_e (d := .none) (pick ?_)) (t.restNo hs))⟩
    split
    · exact t.noOut hs
    · exact t.chNone hs
  | true =>
    obtain ⟨o, ho⟩ := has_iff.mp hs
    by_cases c : kd = 2
    · subst c
      exact ⟨outT T s, _, _, l, g1, t.filt s, ⟨rfl, rfl, hl⟩, seq_nx (set_e e1) (seq_nx (set_e (pick (by rw [if_pos rfl]; exact t.out ho))) (t.restOut ho))⟩
    · obtain ⟨T', l', x, t', hl', hx, h2⟩ := t.restCh (a := a) (d := d) (f := f) (h := h) (i := i) (l := l) (g := g1) c ho hr hb
      exact ⟨T', _, _, l', g1, t', ⟨rfl, rfl, hl'⟩, seq_nx (set_e e1) (seq_nx (set_e (pick (by rw [if_neg c]; exact hx))) h2)⟩
/-- a turn of the first loop -/
theorem Tab.turn {a b c d f h i j k l : SV} {g : Dr} (n : i.notOw = true ∧ j.notOw = true ∧ k.notOw = true ∧ l.notOw = true) : ∃ T' b' c' d' f' h' i' j' k' l' g', Tab T' ∧ (b'.notOw = true ∧ c'.notOw = true ∧ d'.notOw = true ∧ f'.notOw = true ∧ h'.notOw = true ∧ i'.notOw = true ∧ j'.notOw = true ∧ k'.notOw = true ∧ l'.notOw = true) ∧ lb_law_2 (E1 T a b c d f h i j k l) g = some (.nx, E1 T' a b' c' d' f' h' i' j' k' l', g') := by
  obtain ⟨r, g1, e1, hr, hb⟩ := row_e g
  obtain ⟨kd, g2, e2, k0, k1⟩ := drawn g1 1 (m := 4) (by decide) (e := E1 T a b c d f h i j k l) rfl
  have er : ∀ e : Pd.Env, e.at 1 = .st → mCallG F__law_row (gConsS 1 gNil) e g = some (iL r, g1) := fun e h1 => by
    refine callG_e (as := [.st]) (g1 := g) ?_ e1
    unfold gConsS
    rw [h1]; rfl
  have em : ∀ e : Pd.Env, e.at 3 = .fz (kv T) → mCallG F__law_room (gConsF 3 gNil) e g2 = some (.int (rm T), g2) := fun e e3 => by
    refine callG_e (as := [.fz (kv T)]) (g1 := g2) ?_ (t.lroom g2)
    unfold gConsF
    rw [e3]; rfl
  have mid : ∃ T' i' j' k' l' g3, Tab T' ∧ (i'.notOw = true ∧ j'.notOw = true ∧ k'.notOw = true ∧ l'.notOw = true) ∧ mIfS (mOpT dLtI (mVar 6) (mC (.int 2))) tPut tChg (E1 T a (.sh (iL r)) (.sh (.int kd)) (.sh (iL (pgT T))) (.sh (iL (pgT T))) (.sh (.int (rm T))) i j k l) g2 = some (.nx, E1 T' a (.sh (iL r)) (.sh (.int kd)) (.sh (iL (pgT T))) (.sh (iL (pgT T))) (.sh (.int (rm T))) i' j' k' l', g3) := by
    by_cases c : kd < 2
    · obtain ⟨T', i', j', t', n', h2⟩ := t.putE (a := a) (c := .sh (.int kd)) (d := .sh (iL (pgT T))) (f := .sh (iL (pgT T))) (i := i) (j := j) (k := k) (l := l) (g := g2) hr hb n.2.1
      exact ⟨T', i', j', k, l, g2, t', ⟨n'.1, n'.2, n.2.2.1, n.2.2.2⟩, if_t (opT_e rfl rfl (lt_t c)) h2⟩
    · obtain ⟨T', j', k', l', g3, t', n', h2⟩ := t.chgE (kd := kd) (a := a) (d := .sh (iL (pgT T))) (f := .sh (iL (pgT T))) (h := .sh (.int (rm T))) (i := i) (j := j) (k := k) (l := l) (g := g2) hr hb n.2.2.2
      exact ⟨T', i, j', k', l', g3, t', ⟨n.1, n'⟩, if_f (opT_e rfl rfl (lt_f c)) h2⟩
  obtain ⟨T', i', j', k', l', g3, t', n', hm⟩ := mid
  obtain ⟨j2, hj2, ht⟩ := t'.tail (a := a) (b := .sh (iL r)) (c := .sh (.int kd)) (h := .sh (.int (rm T))) (i := i') (j := j') (k := k') (l := l') (P := pgT T) (g := g3) n'.2.1
  refine ⟨T', .sh (iL r), .sh (.int kd), .sh (iL (pgT T)), .sh (iL (pgT T)), .sh (.int (rm T)), i', j2, k', l', g3, t', ⟨rfl, rfl, rfl, rfl, rfl, n'.1, hj2, n'.2.2⟩, ?_⟩
  unfold lb_law_2
  refine seq_nx (par_e (cons_e (er _ rfl) (cons_e e2 nil_e))) (seq_nx (par_e (cons_e rfl (cons_e (L_e (callF_e (cons_e rfl nil_e) rfl)) nil_e))) (seq_nx (set_e (lk_e rfl (em _ rfl))) (seq_nx (if_no (opT_e (x := .int (rm T)) (y := .int (rm T)) (call_e (cons_e rfl nil_e) ?_) rfl (neq_f rfl))) (seq_nx hm ht))))
  exact t.room
end
theorem tab_nil : Tab [] := ⟨List.Pairwise.nil, (fun _ h => nomatch h), (fun _ h => nomatch h), by decide⟩
end K52

namespace K52
open PySem Pd
open L2 (Key)
/-! #### pages for rows -/
def ixs : Nat → List (List Row) → List (Nat × List Row)
  | _, [] => []
  | k, T :: ts => (k, T) :: ixs (k + 1) ts
theorem ixs_mem : ∀ {ts : List (List Row)} {k : Nat} {p : Nat × List Row}, p ∈ ixs k ts → ∃ i, p.1 = k + i ∧ ts[i]? = some p.2
  | T :: ts, k, p, h => by
    rcases List.mem_cons.mp h with e | e
    · exact ⟨0, by rw [e]; rfl, by rw [e]; rfl⟩
    · obtain ⟨i, h1, h2⟩ := ixs_mem e
      exact ⟨i + 1, by omega, by simpa using h2⟩
theorem ixs_mem0 {ts : List (List Row)} {p : Nat × List Row} (h : p ∈ ixs 0 ts) : ts[p.1]? = some p.2 := by
  obtain ⟨i, h1, h2⟩ := ixs_mem h
  rw [h1, Nat.zero_add]; exact h2
theorem ixs_enm : ∀ (ts : List (List Row)) (k : Nat), enm k (ts.map fun T => iL (pgT T)) = (ixs k ts).map fun p => PyData.tuple [.int (p.1 : Int), iL (pgT p.2)]
  | [], _ => rfl
  | T :: ts, k => by
    show PyData.tuple [.int (k : Int), iL (pgT T)] :: enm (k + 1) (ts.map fun T => iL (pgT T)) = _
    rw [ixs_enm ts]; rfl
theorem ixs_rng : ∀ (ts : List (List Row)) (k : Nat), rng (k : Int) ts.length = (ixs k ts).map fun p => PyData.int (p.1 : Int)
  | [], _ => rfl
  | T :: ts, k => by
    rw [List.length_cons, rng_succ]
    have := ixs_rng ts (k + 1)
    rw [show ((k + 1 : Nat) : Int) = (k : Int) + 1 from rfl] at this
    rw [this]; rfl
def able (ts : List (List Row)) (r : List Int) : List (Nat × List Row) := (ixs 0 ts).filter fun p => decide ((r.length : Int) ≤ rm p.2)
def pk (ts : List (List Row)) (r : List Int) : Nat × List Row := match able ts r with
  | [] => (ts.length, [])
  | p :: _ => p
def bs (ts : List (List Row)) (r : List Int) : List (List Row) := match able ts r with
  | [] => ts ++ [[]]
  | _ :: _ => ts
def nxt (ts : List (List Row)) (r : List Int) : List (List Row) := (bs ts r).set (pk ts r).1 (addT (pk ts r).2 r)
theorem rm_nil : rm [] = 252 := rfl
/-- a row as it is drawn -/
structure Rw (r : List Int) : Prop where
  ne : r ≠ []
  by_ : ∀ b ∈ r, IsB b
  sz : r.length ≤ 252
theorem pk_sp {ts : List (List Row)} {r : List Int} (hT : ∀ T ∈ ts, Tab T) (h : Rw r) : (bs ts r)[(pk ts r).1]? = some (pk ts r).2 ∧ (r.length : Int) ≤ rm (pk ts r).2 ∧ Tab (pk ts r).2 := by
  unfold bs pk
  cases e : able ts r with
  | nil =>
    dsimp only
    refine ⟨by simp, ?_, tab_nil⟩
    rw [rm_nil]
    have := h.sz
    omega
  | cons p l =>
    dsimp only
    have hp : p ∈ able ts r := by rw [e]; exact List.mem_cons_self ..
    obtain ⟨h1, h2⟩ := List.mem_filter.mp hp
    have h3 := ixs_mem0 h1
    exact ⟨h3, of_decide_eq_true h2, hT _ (List.mem_of_getElem? h3)⟩
theorem bs_tab {ts : List (List Row)} {r : List Int} (hT : ∀ T ∈ ts, Tab T) : ∀ T ∈ bs ts r, Tab T := by
  unfold bs
  split
  · intro T h
    rcases List.mem_append.mp h with e | e
    · exact hT T e
    · rw [List.mem_singleton.mp e]; exact tab_nil
  · exact hT
theorem bs_len {ts : List (List Row)} {r : List Int} : (bs ts r).length ≤ ts.length + 1 := by
  unfold bs
  split
  · simp
  · omega
theorem nxt_len {ts : List (List Row)} {r : List Int} : (nxt ts r).length ≤ ts.length + 1 := by
  unfold nxt
  rw [List.length_set]
  exact bs_len
theorem nxt_tab {ts : List (List Row)} {r : List Int} (hT : ∀ T ∈ ts, Tab T) (h : Rw r) : ∀ T ∈ nxt ts r, Tab T := by
  intro T hm
  unfold nxt at hm
  obtain ⟨h1, h2, h3⟩ := pk_sp hT h
  rcases List.mem_or_eq_of_mem_set hm with e | e
  · exact bs_tab hT T e
  · rw [e]; exact h3.add h.ne h.by_ h2
theorem pgT_nil : pgT [] = List.replicate 256 0 := by
  unfold pgT
  rw [show srt [] = [] from List.mergeSort_nil]; rfl
def pagesD (ts : List (List Row)) : List D := ts.map fun T => iL (pgT T)
def plD (p : Nat × Nat) : D := .tuple [.int (p.1 : Int), .int (p.2 : Int)]
abbrev F2 (rows : D) (ts : List (List Row)) (ps : List (Nat × Nat)) (r a s : SV) : Pd.Env := [.sh rows, .ow (pagesD ts), .ow (ps.map plD), r, a, .un, .un, s]
theorem noOw_F2 {rows x y : D} {r a s : SV} (hr : r.notOw = true) (ha : a.notOw = true) (hs : s.notOw = true) : Env.noOw [.sh rows, .sh x, .sh y, r, a, .un, .un, s] = true := by
  show (true && (true && (true && (r.notOw && (a.notOw && (true && (true && (s.notOw && true)))))))) = true
  rw [hr, ha, hs]; rfl
theorem lendF_e {js : List Nat} {ml : ML Unit} {e : Pd.Env} {g g1 : Unit} {ds : List D} (h0 : (Env.lend js e).noOw = true) (h : ml (Env.lend js e) g = some (ds, g1)) (hd : ds.all scal0 = true) : mLendF js ml e g = some (ds, g1) := by
  unfold mLendF
  rw [if_pos h0, h]
  exact if_pos hd
theorem lend_e {js : List Nat} {ma : ME Unit} {e : Pd.Env} {g g1 : Unit} {d : D} (h0 : (Env.lend js e).noOw = true) (h : ma (Env.lend js e) g = some (d, g1)) (hd : scal0 d = true) : mLend js ma e g = some (d, g1) := by
  unfold mLend
  rw [if_pos h0, h]
  exact if_pos hd
theorem pf_put {rows : D} {ts : List (List Row)} {ps : List (Nat × Nat)} {r : List Int} {k : Nat} {T : List Row} {l : List D} {s : SV} (hk : ts[k]? = some T) (t : Tab T) (hr : r ≠ []) (hb : ∀ b ∈ r, IsB b) (hl : (r.length : Int) ≤ rm T) (hp : ps.length ≤ 100) :
    (mSeq (mAsg (bTup 2 (bCons (bSub 1 (mOp dIx (mVar 4) (mC (.int 0)))) (bCons (bName 7) bNil))) (mCall F_put_in (mCons (mIxOw 1 (mOp dIx (mVar 4) (mC (.int 0)))) (mCons (mVar 3) mNil))))
    (mApp 2 (mTup (mCons (mOp dIx (mVar 4) (mC (.int 0))) (mCons (mVar 7) mNil))))) (F2 rows ts ps (.sh (iL r)) (.sh (.list (.int (k : Int) :: l))) s) () = some (.nx, F2 rows (ts.set k (addT T r)) (ps ++ [(k, fre T)]) (.sh (iL r)) (.sh (.list (.int (k : Int) :: l))) (.sh (.int (fre T : Int))), ()) := by
  have hkl : k < ts.length := (List.getElem?_eq_some_iff.mp hk).1
  have hi : ∀ (e : Pd.Env) (u : Unit), e.at 4 = .sh (.list (.int (k : Int) :: l)) → mOp dIx (mVar 4) (mC (.int 0)) e u = some (.int (k : Int), u) := fun e u h4 => op_e (var_e h4) rfl (ix_nat (j := 0) rfl)
  refine seq_nx (g1 := ()) (asg_e (g1 := ()) (e1 := [.sh rows, .ow (pagesD (ts.set k (addT T r))), .ow (ps.map plD), .sh (iL r), .sh (.list (.int (k : Int) :: l)), .un, .un, .sh (.int (fre T : Int))]) (d := .tuple [iL (pgT (addT T r)), .int (fre T : Int)]) (call_e (xs := [iL (pgT T), iL r]) (cons_e (ixOw_e (hi _ () rfl) rfl ?_) (cons_e rfl nil_e)) ?_) (tup2_e (e1 := [.sh rows, .ow (pagesD (ts.set k (addT T r))), .ow (ps.map plD), .sh (iL r), .sh (.list (.int (k : Int) :: l)), .un, .un, s]) ?_ rfl)) ((app_e (g1 := ()) (d := plD (k, fre T)) (tup_e (cons_e (hi _ () rfl) (cons_e rfl nil_e))) rfl ?_).trans ?_)
  · refine L2.atI_nat ?_
    unfold pagesD
    rw [List.getElem?_map, hk]; rfl
  · exact t.put hr hb hl
  · unfold bSub
    rw [hi _ () rfl]
    dsimp only [bD]
    show ((L2.ixN (pagesD ts).length (k : Int)).map _) = _
    rw [ixN_nat (by unfold pagesD; rw [List.length_map]; exact hkl)]
    show some ([.sh rows, .ow ((pagesD ts).set k (iL (pgT (addT T r)))), .ow (ps.map plD), .sh (iL r), .sh (.list (.int (k : Int) :: l)), .un, .un, s], ()) = _
    unfold pagesD
    rw [List.map_set]
  · rw [List.length_map, line_val]; omega
  · have e2 : (ps ++ [(k, fre T)]).map plD = ps.map plD ++ [plD (k, fre T)] := by rw [List.map_append]; rfl
    show _ = some (Ct.nx, ([.sh rows, .ow (pagesD (ts.set k (addT T r))), .ow ((ps ++ [(k, fre T)]).map plD), .sh (iL r), .sh (.list (.int (k : Int) :: l)), .un, .un, .sh (.int (fre T : Int))] : Pd.Env), ())
    rw [e2]; rfl
theorem pf_step {rows : D} {ts : List (List Row)} {ps : List (Nat × Nat)} {r : List Int} {a s : SV} (hT : ∀ T ∈ ts, Tab T) (h : Rw r) (ha : a.notOw = true) (hs : s.notOw = true) (hn : ts.length ≤ 100) (hp : ps.length ≤ 100) :
    ∃ a' s', lb_pages_for_1 (F2 rows ts ps (.sh (iL r)) a s) () = some (.nx, F2 rows (nxt ts r) (ps ++ [((pk ts r).1, fre (pk ts r).2)]) (.sh (iL r)) a' s', ()) ∧ a'.notOw = true ∧ s'.notOw = true := by
  have c1 : mLendF [1, 2] (mComp (mEnum (mCons (mVar 1) mNil)) [5, 6] (bTup 2 (bCons (bName 5) (bCons (bName 6) bNil))) (mOpT dLeI (mCall dLen (mCons (mVar 3) mNil)) (mCall F_room_in (mCons (mVar 6) mNil))) (mVar 5)) (F2 rows ts ps (.sh (iL r)) a s) () = some ((able ts r).map fun p => PyData.int (p.1 : Int), ()) := by
    refine lendF_e (noOw_F2 rfl ha hs) (comp_e ((enum_e (cons_e rfl nil_e)).trans (by unfold pagesD; rw [ixs_enm])) rfl (compL_filter (fun p : Nat × List Row => PyData.tuple [.int (p.1 : Int), iL (pgT p.2)]) (fun p : Nat × List Row => PyData.int (p.1 : Int)) (fun p : Nat × List Row => decide ((r.length : Int) ≤ rm p.2)) fun p hp => ⟨_, rfl, opT_e (y := .int (rm p.2)) (call_e (cons_e rfl nil_e) iL_len) (call_e (xs := [iL (pgT p.2)]) (cons_e rfl nil_e) ?_) rfl, rfl⟩)) ?_
    · exact (hT _ (List.mem_of_getElem? (ixs_mem0 hp))).room
    · exact List.all_eq_true.mpr fun d hd => by
        obtain ⟨p, _, rfl⟩ := List.mem_map.mp hd
        rfl
  obtain ⟨h1, h2, h3⟩ := pk_sp hT h
  have hbl := bs_len (ts := ts) (r := r)
  unfold nxt
  revert h1 h2 h3
  unfold bs pk
  cases e : able ts r with
  | nil =>
    dsimp only
    intro h1 h2 h3
    rw [e] at c1
    refine ⟨_, _, seq_nx (e1 := F2 rows ts ps (.sh (iL r)) (.sh (.list [])) s) (then_e (setF_e c1)) (seq_nx (e1 := F2 rows (ts ++ [[]]) ps (.sh (iL r)) (.sh (.list [.int (ts.length : Int)])) s) (if_t (not_e (b := false) (tru_e rfl rfl)) (seq_nx (e1 := F2 rows (ts ++ [[]]) ps (.sh (iL r)) (.sh (.list [])) s) ((app_e (d := iL (pgT [])) (L_e (callF_e nil_e (by rw [empty_e, pgT_nil]))) rfl ?_).trans ?_) (set_e (L_e (lst_e (cons_e (op_e (x := .int ((ts.length : Int) + 1)) (lend_e (noOw_F2 rfl rfl hs) (call_e (cons_e rfl nil_e) ?_) rfl) rfl ?_) nil_e)))))) (pf_put h1 h3 h.ne h.by_ h2 hp)), rfl, rfl⟩
    · unfold pagesD
      rw [List.length_map, line_val]; omega
    · have e2 : pagesD (ts ++ [[]]) = pagesD ts ++ [iL (pgT [])] := by unfold pagesD; rw [List.map_append]; rfl
      show _ = some (Ct.nx, ([.sh rows, .ow (pagesD (ts ++ [[]])), .ow (ps.map plD), .sh (iL r), .sh (.list []), .un, .un, s] : Pd.Env), ())
      rw [e2]; rfl
    · show some (PyData.int ((pagesD (ts ++ [[]])).length : Int)) = _
      unfold pagesD
      rw [List.length_map, List.length_append]; rfl
    · show some (PyData.int ((ts.length : Int) + 1 - 1)) = _
      rw [Int.add_sub_cancel]
  | cons p l =>
    dsimp only
    intro h1 h2 h3
    rw [e] at c1
    exact ⟨_, _, seq_nx (e1 := F2 rows ts ps (.sh (iL r)) (.sh (.list (.int (p.1 : Int) :: l.map fun p => .int (p.1 : Int)))) s) (then_e (setF_e c1)) (seq_nx (if_no (not_e (b := true) (tru_e rfl rfl))) (pf_put h1 h3 h.ne h.by_ h2 hp)), rfl, rfl⟩
end K52

namespace K52
open PySem Pd
open L2 (Key)
def pl (ts : List (List Row)) (r : List Int) : Nat × Nat := ((pk ts r).1, fre (pk ts r).2)
def pls : List (List Row) → List (List Int) → List (Nat × Nat)
  | _, [] => []
  | ts, r :: rs => pl ts r :: pls (nxt ts r) rs
def fin (ts : List (List Row)) (rs : List (List Int)) : List (List Row) := rs.foldl nxt ts
theorem pf_loop {rows : D} : ∀ {rs : List (List Int)} {ts : List (List Row)} {ps : List (Nat × Nat)} {r a s : SV}, (∀ T ∈ ts, Tab T) → (∀ r ∈ rs, Rw r) → r.notOw = true → a.notOw = true → s.notOw = true → ts.length + rs.length ≤ 100 → ps.length + rs.length ≤ 100 →
    ∃ r' a' s', loopL (bName 3) lb_pages_for_1 (rs.map iL) (F2 rows ts ps r a s) () = some (.nx, F2 rows (fin ts rs) (ps ++ pls ts rs) r' a' s', ())
  | [], ts, ps, r, a, s, _, _, _, _, _, _, _ => ⟨r, a, s, by
    show some (Ct.nx, F2 rows ts ps r a s, ()) = some (Ct.nx, F2 rows ts (ps ++ []) r a s, ())
    rw [List.append_nil]⟩
  | x :: rs, ts, ps, r, a, s, hT, hR, hr, ha, hs, h1, h2 => by
    rw [List.length_cons] at h1 h2
    have hx := hR x (List.mem_cons_self ..)
    obtain ⟨a1, s1, e1, ha1, hs1⟩ := pf_step (rows := rows) (ps := ps) hT hx ha hs (by omega) (by omega)
    have hn := nxt_len (ts := ts) (r := x)
    obtain ⟨r', a', s', e2⟩ := pf_loop (rows := rows) (rs := rs) (ts := nxt ts x) (ps := ps ++ [pl ts x]) (r := .sh (iL x)) (a := a1) (s := s1) (nxt_tab hT hx) (fun y hy => hR y (List.mem_cons_of_mem _ hy)) rfl ha1 hs1 (by omega) (by rw [List.length_append, List.length_singleton]; omega)
    refine ⟨r', a', s', loop_nx rfl e1 (e2.trans ?_)⟩
    rw [List.append_assoc]; rfl
theorem pages_e {rs : List (List Int)} (hR : ∀ r ∈ rs, Rw r) (hl : rs.length ≤ 100) : F_pages_for [.list (rs.map iL)] = some (.tuple [.list (pagesD (fin [] rs)), .list ((pls [] rs).map plD)]) := by
  obtain ⟨r', a', s', e⟩ := pf_loop (rows := .list (rs.map iL)) (rs := rs) (ts := []) (ps := []) (r := .un) (a := .un) (s := .un) (fun _ h => nomatch h) hR rfl rfl rfl (by simpa using hl) (by simpa using hl)
  exact runP_re (N := 8) (n := 1) (m := m_pages_for) (ds := [.list (rs.map iL)]) (u := ()) (seq_nx (setF_e (lst_e nil_e)) (seq_nx (setF_e (lst_e nil_e)) (seq_nx (for_e (itL_e rfl) e) (frz_e (frz_e (ret_e (tup_e (cons_e rfl (cons_e rfl nil_e)))))))))
/-! #### the law's second loop -/
theorem no_sh (x : D) : SV.notOw (.sh x) = true := rfl
theorem no_un : SV.notOw .un = true := rfl
theorem no_st : SV.notOw .st = true := rfl
theorem no_fz (x : List (Key × D)) : SV.notOw (.fz x) = true := rfl
theorem no_fl (x : List (List (Key × D))) : SV.notOw (.fl x) = true := rfl
theorem noOw_of {e : Pd.Env} (h : e.all SV.notOw = true) : Env.noOw e = true := by
  unfold Env.noOw
  refine List.all_eq_true.mpr fun k hk => ?_
  have hk := List.mem_range.mp hk
  refine List.all_eq_true.mp h _ ?_
  rw [Env.at, List.getD_eq_getElem?_getD, List.getElem?_eq_getElem hk]
  exact List.getElem_mem hk
theorem lkL_e {α G : Type} {j : Nat} {m : Pd.Env → G → Option (α × G)} {e : Pd.Env} {g : G} {kss : List (List (Key × D))} {r} (h : e.at j = .tr (.ls (kss.map .dc))) (n : (List.set e j (.fl kss)).all SV.notOw = true) (k : m (e.set j (.fl kss)) g = r) : mLkL j m e g = r := by
  unfold mLkL
  rw [h]
  dsimp only
  rw [kss_of]
  dsimp only
  rw [if_pos (noOw_of n)]
  exact k
abbrev E3 (T : List Row) (ts : List (List Row)) (a b c d f h i j k l : SV) (rs : List (List Int)) (q : SV) (pages places : D) (ab : SV) : Pd.Env :=
  [.un, .st, .sh (iL (pgT T)), .tr (.one (.dc (kv T))), a, b, c, d, f, h, i, j, k, .un, l, .sh (.list (rs.map iL)), q, .sh pages, .sh places, .tr (.ls ((ts.map kv).map .dc)), ab, .un, .un]
theorem flx {j : Nat} {e : Pd.Env} {g : Dr} {ts : List (List Row)} {k : Nat} {U : List Row} {mi : ME Dr} (h : e.at j = .fl (ts.map kv)) (hi : mi e g = some (.int (k : Int), g)) (hk : ts[k]? = some U) : gConsFl j mi gNil e g = some ([.fz (kv U)], g) := by
  unfold gConsFl
  rw [hi]
  dsimp only [bD]
  rw [h]
  dsimp only
  rw [L2.atI_nat (v := kv U) (by rw [List.getElem?_map, hk]; rfl)]
  rfl
def NoS (a b c d f h i j k l : SV) : Prop := a.notOw = true ∧ b.notOw = true ∧ c.notOw = true ∧ d.notOw = true ∧ f.notOw = true ∧ h.notOw = true ∧ i.notOw = true ∧ j.notOw = true ∧ k.notOw = true ∧ l.notOw = true
theorem lenTs_e {T : List Row} {ts : List (List Row)} {a b c d f h i j k l q ab : SV} {rs : List (List Int)} {pages places : D} {g : Dr} : mLenTs 19 (E3 T ts a b c d f h i j k l rs q pages places ab) g = some (.int (ts.length : Int), g) := by
  show some (PyData.int ((((ts.map kv).map T1.dc).length : Nat) : Int), g) = _
  rw [List.length_map, List.length_map]
/-- the part of a turn after the table is picked -/
theorem l3_put {T : List Row} {ts : List (List Row)} {a b c d f h i j k l : SV} {rs : List (List Int)} {pages places : D} {n : Nat} {m : Nat} {U : List Row} {x : List D} {r : List Int} {g : Dr} (ns : NoS a b c d f h i j k l)
    (hm : rs[m]? = some r) (hp : dIx places (.int (m : Int)) = some (plD (n, fre U))) (hn : ts[n]? = some U) (tU : Tab U) :
    (mSeq (mSet 11 (mLk 3 (mLkL 19 (mScal (mCallG F__law_free (gConsFl 19 (mOp dIx (mVar 20) (mC (.int 0))) gNil))))))
    (mSeq (mIfS (mOpT dNe (mOp dIx (mVar 18) (mVar 16)) (mTup (mCons (mOp dIx (mVar 20) (mC (.int 0))) (mCons (mVar 11) mNil))))
    (mRet (mC (.bool false)))
    mSkip)
    (mPutTs 19 (mOp dIx (mVar 20) (mC (.int 0))) 11 (mOp dIx (mVar 15) (mVar 16))))) (E3 T ts a b c d f h i j k l rs (.sh (.int (m : Int))) pages places (.sh (.list (.int (n : Int) :: x)))) g =
      some (.nx, E3 T (ts.set n (addT U r)) a b c d f h i (.sh (.int (fre U : Int))) k l rs (.sh (.int (m : Int))) pages places (.sh (.list (.int (n : Int) :: x))), g) := by
  obtain ⟨n1, n2, n3, n4, n5, n6, n7, n8, n9, n10⟩ := ns
  have hnl : n < ts.length := (List.getElem?_eq_some_iff.mp hn).1
  have few := tU.few
  have hi : ∀ e : Pd.Env, e.at 20 = .sh (.list (.int (n : Int) :: x)) → mOp dIx (mVar 20) (mC (.int 0)) e g = some (.int (n : Int), g) := fun e h4 => op_e (var_e h4) rfl (ix_nat (j := 0) rfl)
  have hr : ∀ e : Pd.Env, e.at 15 = .sh (.list (rs.map iL)) → e.at 16 = .sh (.int (m : Int)) → mOp dIx (mVar 15) (mVar 16) e g = some (iL r, g) := fun e h1 h2 => op_e (var_e h1) (var_e h2) (ix_nat (by rw [List.getElem?_map, hm]; rfl))
  have c1 : mLk 3 (mLkL 19 (mScal (mCallG F__law_free (gConsFl 19 (mOp dIx (mVar 20) (mC (.int 0))) gNil)))) (E3 T ts a b c d f h i j k l rs (.sh (.int (m : Int))) pages places (.sh (.list (.int (n : Int) :: x)))) g = some (.int (fre U : Int), g) := by
    refine lk_e rfl (lkL_e rfl ?_ ?_)
    · simp [List.all_cons, no_sh, no_un, no_st, no_fz, no_fl, n1, n2, n3, n4, n5, n6, n7, n8, n9, n10]
    · unfold mScal
      rw [callG_e (flx rfl (hi _ rfl) hn) (lfree_e U g)]
      rfl
  refine seq_nx (set_e c1) (seq_nx (if_no (opT_e (x := plD (n, fre U)) (y := plD (n, fre U)) (op_e rfl rfl hp) (tup_e (cons_e (hi _ rfl) (cons_e rfl nil_e))) (ne_self ?_ ?_))) ?_)
  · show noDictA [.int (n : Int), .int (fre U : Int)] = true
    rfl
  · refine Nat.le_trans (depth_tup (n := 0) fun y hy => ?_) (by decide)
    rcases List.mem_cons.mp hy with e | e
    · rw [e, PyData.depth]; exact Nat.le_refl _
    · rw [List.mem_singleton.mp e, PyData.depth]; exact Nat.le_refl _
  · unfold mPutTs
    rw [hr _ rfl rfl]
    dsimp only [bD]
    rw [hi _ rfl]
    dsimp only [bD]
    show (match L2.ixN ((ts.map kv).map T1.dc).length (n : Int), (some (Sum.inl (fre U : Int)) : Option Key) with | some n, some k => _ | _, _ => none) = _
    rw [ixN_nat (by rw [List.length_map, List.length_map]; exact hnl)]
    dsimp only
    rw [show ((ts.map kv).map T1.dc)[n]? = some (.dc (kv U)) by rw [List.getElem?_map, List.getElem?_map, hn]; rfl]
    dsimp only
    rw [if_pos (by rw [kv_len, line_val]; omega), put_new (fre_sp U).1]
    have e2 : ((ts.set n (addT U r)).map kv).map T1.dc = ((ts.map kv).map T1.dc).set n (.dc (kv (U ++ [(fre U, r)]))) := by rw [List.map_set, List.map_set]; rfl
    show _ = some (Ct.nx, ([.un, .st, .sh (iL (pgT T)), .tr (.one (.dc (kv T))), a, b, c, d, f, h, i, .sh (.int (fre U : Int)), k, .un, l, .sh (.list (rs.map iL)), .sh (.int (m : Int)), .sh pages, .sh places, .tr (.ls (((ts.set n (addT U r)).map kv).map .dc)), .sh (.list (.int (n : Int) :: x)), .un, .un] : Pd.Env), g)
    rw [e2]
    rfl
end K52

namespace K52
open PySem Pd
open L2 (Key)
theorem pls_get : ∀ {rs : List (List Int)} {ts : List (List Row)} {m : Nat} {r : List Int}, rs[m]? = some r → (pls ts rs)[m]? = some (pl (fin ts (rs.take m)) r)
  | x :: rs, ts, 0, r, h => by
    have e : x = r := by simpa using h
    subst e; rfl
  | x :: rs, ts, m + 1, r, h => pls_get (rs := rs) (ts := nxt ts x) (m := m) (by simpa using h)
theorem fin_take {rs : List (List Int)} {ts : List (List Row)} {m : Nat} {r : List Int} (h : rs[m]? = some r) : fin ts (rs.take (m + 1)) = nxt (fin ts (rs.take m)) r := by
  unfold fin
  rw [List.take_add_one, h, List.foldl_append]
  rfl
theorem fin_tab : ∀ {rs : List (List Int)} {ts : List (List Row)}, (∀ T ∈ ts, Tab T) → (∀ r ∈ rs, Rw r) → (∀ T ∈ fin ts rs, Tab T) ∧ (fin ts rs).length ≤ ts.length + rs.length
  | [], ts, h, _ => ⟨h, Nat.le_refl _⟩
  | x :: rs, ts, h, hR => by
    obtain ⟨h1, h2⟩ := fin_tab (rs := rs) (ts := nxt ts x) (nxt_tab h (hR x (List.mem_cons_self ..))) fun r hr => hR r (List.mem_cons_of_mem _ hr)
    refine ⟨h1, ?_⟩
    have := nxt_len (ts := ts) (r := x)
    rw [List.length_cons]
    show (fin (nxt ts x) rs).length ≤ _
    omega
theorem l3_step {T : List Row} (tT : Tab T) {ts : List (List Row)} {a b c d f h i j k l : SV} {rs : List (List Int)} {pages places : D} {m : Nat} {ab : SV} {r : List Int} {g : Dr} (ns : NoS a b c d f h i j k l) (hab : ab.notOw = true)
    (hT : ∀ U ∈ ts, Tab U) (hts : ts.length ≤ 100) (hw : Rw r) (hm : rs[m]? = some r) (hp : dIx places (.int (m : Int)) = some (plD (pl ts r))) :
    ∃ j' ab', lb_law_3 (E3 T ts a b c d f h i j k l rs (.sh (.int (m : Int))) pages places ab) g = some (.nx, E3 T (nxt ts r) a b c d f h i j' k l rs (.sh (.int (m : Int))) pages places ab', g) ∧ j'.notOw = true ∧ ab'.notOw = true := by
  have hr : ∀ e : Pd.Env, e.at 15 = .sh (.list (rs.map iL)) → e.at 16 = .sh (.int (m : Int)) → mOp dIx (mVar 15) (mVar 16) e g = some (iL r, g) := fun e h1 h2 => op_e (var_e h1) (var_e h2) (ix_nat (by rw [List.getElem?_map, hm]; rfl))
  have ns' := ns
  obtain ⟨n1, n2, n3, n4, n5, n6, n7, n8, n9, n10⟩ := ns'
  have c1 : mComp (mRng1 (mCons (mLenTs 19) mNil)) [21] (bName 21) (mLk 3 (mLkL 19 (mOpT dLeI (mCall dLen (mCons (mOp dIx (mVar 15) (mVar 16)) mNil)) (mCallG F__law_room (gConsFl 19 (mVar 21) gNil))))) (mVar 21) (E3 T ts a b c d f h i j k l rs (.sh (.int (m : Int))) pages places ab) g = some ((able ts r).map fun p => PyData.int (p.1 : Int), g) := by
    refine comp_e ((rng1_e (cons_e lenTs_e nil_e) (by omega)).trans ?_) rfl (compL_filter (fun p : Nat × List Row => PyData.int (p.1 : Int)) (fun p : Nat × List Row => PyData.int (p.1 : Int)) (fun p : Nat × List Row => decide ((r.length : Int) ≤ rm p.2)) (l := ixs 0 ts) fun p hp => ⟨_, rfl, lk_e rfl (lkL_e rfl ?_ (opT_e (y := .int (rm p.2)) (call_e (cons_e (hr _ rfl rfl) nil_e) iL_len) (callG_e (flx rfl rfl (ixs_mem0 hp)) ((hT _ (List.mem_of_getElem? (ixs_mem0 hp))).lroom g)) rfl)), rfl⟩)
    · rw [Int.toNat_natCast]
      have := ixs_rng ts 0
      rw [show ((0 : Nat) : Int) = 0 from rfl] at this
      rw [this]
    · simp [Env.wipe, List.all_cons, no_sh, no_un, no_st, no_fz, no_fl, n1, n2, n3, n4, n5, n6, n7, n8, n9, n10, hab]
  obtain ⟨h1, h2, h3⟩ := pk_sp hT hw
  unfold pl at hp
  unfold nxt
  revert h1 h2 h3 hp
  unfold bs pk
  cases e : able ts r with
  | nil =>
    dsimp only
    intro hp h1 h2 h3
    rw [e] at c1
    refine ⟨_, _, seq_nx (e1 := E3 T ts a b c d f h i j k l rs (.sh (.int (m : Int))) pages places (.sh (.list []))) (then_e (setF_e c1)) (seq_nx (e1 := E3 T (ts ++ [[]]) a b c d f h i j k l rs (.sh (.int (m : Int))) pages places (.sh (.list [.int (ts.length : Int)]))) (if_t (opT_e (x := .int 0) (call_e (cons_e rfl nil_e) rfl) rfl (eq_it rfl)) (seq_nx (e1 := E3 T (ts ++ [[]]) a b c d f h i j k l rs (.sh (.int (m : Int))) pages places (.sh (.list []))) (g1 := g) ?_ (set_e (L_e (lst_e (cons_e (op_e (x := .int ((ts.length : Int) + 1)) (y := .int 1) (lenTs_e.trans ?_) rfl ?_) nil_e)))))) (l3_put ns hm hp h1 h3)), rfl, rfl⟩
    · unfold mAppTs
      show (if ((ts.map kv).map T1.dc).length < sizeLine then _ else _) = _
      rw [if_pos (by rw [List.length_map, List.length_map, line_val]; omega)]
      have e2 : ((ts ++ [[]]).map kv).map T1.dc = (ts.map kv).map T1.dc ++ [.dc []] := by rw [List.map_append, List.map_append]; rfl
      show _ = some (Ct.nx, ([.un, .st, .sh (iL (pgT T)), .tr (.one (.dc (kv T))), a, b, c, d, f, h, i, j, k, .un, l, .sh (.list (rs.map iL)), .sh (.int (m : Int)), .sh pages, .sh places, .tr (.ls (((ts ++ [[]]).map kv).map .dc)), .sh (.list []), .un, .un] : Pd.Env), g)
      rw [e2]
      rfl
    · rw [List.length_append]; rfl
    · show some (PyData.int ((ts.length : Int) + 1 - 1)) = _
      rw [Int.add_sub_cancel]
  | cons p l' =>
    dsimp only
    intro hp h1 h2 h3
    rw [e] at c1
    refine ⟨_, _, seq_nx (e1 := E3 T ts a b c d f h i j k l rs (.sh (.int (m : Int))) pages places (.sh (.list (.int (p.1 : Int) :: l'.map fun p => .int (p.1 : Int))))) (then_e (setF_e c1)) (seq_nx (if_no (opT_e (x := .int (((l'.map fun p => PyData.int (p.1 : Int)).length + 1 : Nat) : Int)) (call_e (cons_e rfl nil_e) rfl) rfl (eq_if (by omega)))) (l3_put ns hm hp h1 h3)), rfl, rfl⟩
/-! #### all on one page -/
def S (rs : List (List Int)) : Nat := (rs.map fun r => r.length + 2).sum
theorem add_full {T : List Row} {r : List Int} (h : fre T = nn T) : nn (addT T r) = nn T + 1 ∧ fre (addT T r) = nn T + 1 := by
  have e : nn (addT T r) = nn T + 1 := by rw [nn_add, h]; omega
  refine ⟨e, fre_uni ?_ fun j hj => ?_⟩
  · rw [← e]; exact has_nn _
  · by_cases c : j = nn T
    · subst c
      rw [← h]
      exact has_iff.mpr ⟨r, by unfold addT; simp⟩
    · obtain ⟨o, ho⟩ := has_iff.mp ((fre_sp T).2.1 j (by omega))
      exact has_iff.mpr ⟨o, by unfold addT; simp [ho]⟩
theorem total_add (T : List Row) (r : List Int) : total (addT T r) = total T + r.length := by
  unfold addT
  rw [total_ap]
  show total T + (r.length + 0) = _
  omega
theorem one_fit : ∀ {rs : List (List Int)} {T : List Row}, fre T = nn T → 2 * nn T + total T + S rs ≤ 254 → (fin [T] rs).length = 1
  | [], T, _, _ => rfl
  | r :: rs, T, hf, hs => by
    have e0 : S (r :: rs) = r.length + 2 + S rs := by unfold S; rw [List.map_cons, List.sum_cons]
    have fit : (r.length : Int) ≤ rm T := by
      unfold rm
      rw [hf]
      omega
    have ea : able [T] r = [(0, T)] := by
      unfold able
      show List.filter _ [(0, T)] = _
      rw [List.filter_cons_of_pos (by simpa using fit)]; rfl
    have en : nxt [T] r = [addT T r] := by
      unfold nxt bs pk
      rw [ea]; rfl
    show (fin (nxt [T] r) rs).length = 1
    rw [en]
    obtain ⟨h1, h2⟩ := add_full (r := r) hf
    refine one_fit (by rw [h1, h2]) ?_
    rw [h1, total_add]
    omega
theorem fit_len {rs : List (List Int)} (h : S rs ≤ 254) : (fin [] rs).length < 2 := by
  cases rs with
  | nil => exact Nat.zero_lt_succ _
  | cons r rs =>
    have e0 : S (r :: rs) = r.length + 2 + S rs := by unfold S; rw [List.map_cons, List.sum_cons]
    have en : nxt [] r = [addT [] r] := rfl
    show (fin (nxt [] r) rs).length < 2
    rw [en]
    obtain ⟨h1, h2⟩ := add_full (T := []) (r := r) rfl
    rw [one_fit (by rw [h1, h2]) (by rw [h1, total_add]; show 2 * (0 + 1) + (0 + r.length) + S rs ≤ 254; omega)]
    decide
theorem sum_S : ∀ rs : List (List Int), (rs.map fun r => (r.length : Int) + 2).sum = (S rs : Int)
  | [] => rfl
  | r :: rs => by
    rw [List.map_cons, List.sum_cons, sum_S rs]
    have e0 : S (r :: rs) = r.length + 2 + S rs := by unfold S; rw [List.map_cons, List.sum_cons]
    rw [e0]
    omega
theorem fits_e (rs : List (List Int)) : F_fits_all [.list (rs.map iL)] = some (.bool (decide ((S rs : Int) ≤ 254))) := by
  refine runP_re (N := 2) (n := 1) (m := m_fits_all) (ds := [.list (rs.map iL)]) (u := ()) (ret_e (op_e (x := .int (S rs : Int)) (y := .int 254) (call_e (xs := [.list (rs.map fun r => .int ((r.length : Int) + 2))]) (cons_e (L_e (comp_e (itL_e rfl) rfl (compL_mm iL (fun r => PyData.int ((r.length : Int) + 2)) fun r hr => ⟨_, rfl, op_e (call_e (cons_e rfl nil_e) iL_len) rfl rfl⟩))) nil_e) ?_) (op_e rfl rfl rfl) rfl))
  rw [sum_e, sum_S]
end K52

namespace K52
open PySem Pd
open L2 (Key)
theorem ixs_snd : ∀ (ts : List (List Row)) (k : Nat), (ixs k ts).map (·.2) = ts
  | [], _ => rfl
  | T :: ts, k => by
    show T :: (ixs (k + 1) ts).map (·.2) = _
    rw [ixs_snd ts]
theorem bfl_e {e : Pd.Env} {g : Dr} {ts : List (List Row)} {k : Nat} {U : List Row} (h : e.at 19 = .fl (ts.map kv)) (hk : ts[k]? = some U) : bFl 19 22 (.int (k : Int)) e g = some (e.set 22 (.fz (kv U)), g) := by
  unfold bFl
  rw [h]
  show ((ts.map kv)[((k : Int)).toNat]?).map _ = _
  rw [Int.toNat_natCast, List.getElem?_map, hk]
  rfl
theorem row_cut {r : List Int} (hr : r ≠ []) (hb : ∀ b ∈ r, IsB b) : cut (r.map PyData.int) none (some 252) = (r.take 252).map .int ∧ Rw (r.take 252) := by
  refine ⟨by rw [show (252 : Int) = ((252 : Nat) : Int) from rfl, cut_to, List.map_take], ⟨fun z => ?_, fun b h => hb b (List.mem_of_mem_take h), ?_⟩⟩
  · have := congrArg List.length z
    rw [List.length_take, List.length_nil] at this
    have h2 := List.length_pos_iff.mpr hr
    omega
  · rw [List.length_take]; omega
theorem noDict_ints (l : List (List Row)) : noDict (.list (pagesD l)) = true := by
  show noDictA (pagesD l) = true
  refine noDictA_of fun x hx => ?_
  obtain ⟨p, _, rfl⟩ := List.mem_map.mp hx
  exact noDict_iL _
theorem depth_pages (l : List (List Row)) : (PyData.list (pagesD l)).depth ≤ 64 := by
  refine Nat.le_trans (depth_list (n := 1) fun x hx => ?_) (by decide)
  obtain ⟨p, _, rfl⟩ := List.mem_map.mp hx
  exact depth_iL1 _
theorem law_true (g : Dr) : ∃ e g1, m_law (lawE n_law.length 1) g = some (.re (.bool true), e, g1) := by
  show Tr m_law (lawE n_law.length 1) g
  have e0 : mParK 2 3 (mL (mCallF F_empty_page mNil)) (lawE n_law.length 1) g = some (.nx, E1 [] .un .un .un .un .un .un .un .un .un .un, g) := by
    unfold mParK
    rw [L_e (callF_e nil_e empty_e)]
    rw [← pgT_nil]
    rfl
  refine tr_seq e0 ?_
  obtain ⟨z, g1, e1, z0, z1⟩ := drawn g 1 (m := 12) (by decide) (e := E1 [] .un .un .un .un .un .un .un .un .un .un) rfl
  obtain ⟨e2, g2, h2, T, a, b, c, d, f, h, i, j, k, l, rfl, tT, ns⟩ := loop_inv (bt := bName 4) (mb := lb_law_2) (fun e g' => ∃ T a b c d f h i j k l, e = E1 T a b c d f h i j k l ∧ Tab T ∧ NoS a b c d f h i j k l) (ds := rng 0 (3 + z).toNat) (env := E1 [] .un .un .un .un .un .un .un .un .un .un) (g := g1)
    ⟨[], _, _, _, _, _, _, _, _, _, _, rfl, tab_nil, rfl, rfl, rfl, rfl, rfl, rfl, rfl, rfl, rfl, rfl⟩ (by
    rintro x hx env g' ⟨T, a, b, c, d, f, h, i, j, k, l, rfl, tT, n1, n2, n3, n4, n5, n6, n7, n8, n9, n10⟩
    obtain ⟨T', b', c', d', f', h', i', j', k', l', g3, t', ns', ht⟩ := tT.turn (a := .sh x) (b := b) (c := c) (d := d) (f := f) (h := h) (i := i) (j := j) (k := k) (l := l) (g := g') ⟨n7, n8, n9, n10⟩
    exact ⟨_, rfl, _, g3, .inl ht, T', _, b', c', d', f', h', i', j', k', l', rfl, t', rfl, ns'⟩)
  refine tr_seq (for_e (rng1_e (j := 3 + z) (cons_e (op_e rfl e1 rfl) nil_e) (by omega)) h2) ?_
  obtain ⟨w, g3, e3, w0, w1⟩ := drawn g2 1 (m := 6) (by decide) (e := E1 T a b c d f h i j k l) rfl
  have hc := compL_ex (bt := bName 16) (me := mL (mSlL (mCallG F__law_row (gConsS 1 gNil)) mNo (mPart (mC (.int 252))))) (env := Pd.Env.wipe (E1 T a b c d f h i j k l) [16]) (fun d => ∃ r : List Int, d = iL r ∧ Rw r) (ds := rng 0 w.toNat) (g := g3) (fun x hx g => by
    obtain ⟨r, g4, e4, hr, hb⟩ := row_e g
    obtain ⟨q1, q2⟩ := row_cut hr hb
    refine ⟨_, rfl, _, g4, L_e (slL_e (xs := r.map .int) (callG_e (as := [.st]) (g1 := g) rfl e4) rfl (part_e rfl)), r.take 252, ?_, q2⟩
    rw [q1])
  obtain ⟨xs, g4, e4, hl, hp⟩ := hc
  obtain ⟨rs, rfl, hR⟩ := map_of hp
  rw [rng_len, List.length_map] at hl
  have hrl : rs.length ≤ 5 := by omega
  refine tr_seq (set_e (d := .list (rs.map iL)) (L_e (comp_e (rng1_e (cons_e e3 nil_e) (by omega)) rfl e4))) ?_
  refine tr_seq (asg_e (d := .tuple [.list (pagesD (fin [] rs)), .list ((pls [] rs).map plD)]) (call_e (xs := [.list (rs.map iL)]) (cons_e rfl nil_e) ?hpages) (tup2_e rfl rfl)) ?_
  case hpages => exact pages_e hR (by omega)
  have e5 : mSetTs 19 (mLst mNil) [.un, .st, .sh (iL (pgT T)), .tr (.one (.dc (kv T))), a, b, c, d, f, h, i, j, k, .un, l, .sh (.list (rs.map iL)), .un, .sh (.list (pagesD (fin [] rs))), .sh (.list ((pls [] rs).map plD)), .un, .un, .un, .un] g4 = some (.nx, E3 T [] a b c d f h i j k l rs .un (.list (pagesD (fin [] rs))) (.list ((pls [] rs).map plD)) .un, g4) := by
    unfold mSetTs
    rw [lst_e nil_e]
    rfl
  refine tr_seq e5 ?_
  obtain ⟨n1, n2, n3, n4, n5, n6, n7, n8, n9, n10⟩ := ns
  obtain ⟨e6, g6, h6, j', q', ab', rfl, rfl, hj', hab', hq'⟩ := loop_at (bt := bName 16) (mb := lb_law_3) (fun m e g' => ∃ j' q' ab', e = E3 T (fin [] (rs.take m)) a b c d f h i j' k l rs q' (.list (pagesD (fin [] rs))) (.list ((pls [] rs).map plD)) ab' ∧ g' = g4 ∧ j'.notOw = true ∧ ab'.notOw = true ∧ q'.notOw = true) (ds := rng 0 rs.length) (k := 0) (env := E3 T [] a b c d f h i j k l rs .un (.list (pagesD (fin [] rs))) (.list ((pls [] rs).map plD)) .un) (g := g4)
    ⟨j, .un, .un, rfl, rfl, n8, rfl, rfl⟩ (by
    rintro m x hx env g' ⟨j', q', ab', rfl, rfl, hj', hab', _⟩
    rw [rng0, List.getElem?_map, Option.map_eq_some_iff] at hx
    obtain ⟨k', hk, rfl⟩ := hx
    obtain ⟨h1, h2⟩ := List.getElem?_eq_some_iff.mp hk
    rw [List.getElem_range] at h2
    subst h2
    rw [List.length_range] at h1
    rw [Nat.zero_add]
    have hm : rs[m]? = some rs[m] := List.getElem?_eq_getElem h1
    have hR' : ∀ r ∈ rs.take m, Rw r := fun r hr => hR r (List.mem_of_mem_take hr)
    obtain ⟨t1, t2⟩ := fin_tab (rs := rs.take m) (ts := []) (fun _ h => nomatch h) hR'
    rw [List.length_take] at t2
    obtain ⟨j2, ab2, e7, hj2, hab2⟩ := l3_step tT (ts := fin [] (rs.take m)) (a := a) (b := b) (c := c) (d := d) (f := f) (h := h) (i := i) (j := j') (k := k) (l := l) (rs := rs) (pages := .list (pagesD (fin [] rs))) (places := .list ((pls [] rs).map plD)) (m := m) (ab := ab') (r := rs[m]) (g := g') ⟨n1, n2, n3, n4, n5, n6, n7, hj', n9, n10⟩ hab' t1 (by simp at t2; omega) (hR _ (List.mem_of_getElem? hm)) hm (ix_nat (by rw [List.getElem?_map, pls_get hm]; rfl))
    exact ⟨_, rfl, _, g', .inl e7, j2, _, ab2, by rw [fin_take hm], rfl, hj2, hab2, rfl⟩)
  rw [rng_len, Nat.zero_add, List.take_length] at h6
  refine tr_seq (for_e (rng1_e (j := (rs.length : Int)) (cons_e (call_e (cons_e rfl nil_e) ?hlen) nil_e) (by omega)) (by rw [Int.toNat_natCast]; exact h6)) ?_
  case hlen =>
    show some (PyData.int ((rs.map iL).length : Int)) = _
    rw [List.length_map]
  obtain ⟨t1, t2⟩ := fin_tab (rs := rs) (ts := []) (fun _ h => nomatch h) hR
  refine tr_seq (g1 := g6) (if_no (g1 := g6) (lk_e rfl (lkL_e rfl ?hno (opT_e (g1 := g6) (g2 := g6) (x := .list (pagesD (fin [] rs))) (y := .list (pagesD (fin [] rs))) rfl (L_e (comp_e (g1 := g6) (ds := (ixs 0 (fin [] rs)).map fun p => .int (p.1 : Int)) ?hix rfl ?hcomp)) (ne_self (noDict_ints _) (depth_pages _)))))) ?_
  case hno => simp [List.all_cons, no_sh, no_un, no_st, no_fz, no_fl, n1, n2, n3, n4, n5, n6, n7, hj', n9, n10, hab', hq']
  case hix =>
    have := ixs_rng (fin [] rs) 0
    rw [show ((0 : Nat) : Int) = 0 from rfl] at this
    rw [← this]
    show some (rng 0 ((fin [] rs).map kv).length, _) = _
    rw [List.length_map]
  case hcomp =>
    have e9 : pagesD (fin [] rs) = (ixs 0 (fin [] rs)).map fun p => iL (pgT p.2) := by
      unfold pagesD
      conv => lhs; rw [← ixs_snd (fin [] rs) 0]
      rw [List.map_map]; rfl
    rw [e9]
    exact compL_mm (fun p : Nat × List Row => PyData.int (p.1 : Int)) _ fun p hp => ⟨_, bfl_e rfl (ixs_mem0 hp), callG_e (as := [.fz (kv p.2)]) (g1 := g6) rfl ((t1 _ (List.mem_of_getElem? (ixs_mem0 hp))).lpage g6)⟩
  have fe := fits_e rs
  have hfit : ∀ e : Pd.Env, e.at 15 = .sh (.list (rs.map iL)) → mCall F_fits_all (mCons (mVar 15) mNil) e g6 = some (.bool (decide ((S rs : Int) ≤ 254)), g6) := fun e h15 => by
    refine call_e (cons_e (var_e h15) nil_e) ?_
    exact fe
  have hsum : mOp dLeI (mCall dSum (mCons (mL (mComp (mItL (mVar 15)) [5] (bName 5) mYes (mOp dAdd (mCall dLen (mCons (mVar 5) mNil)) (mC (.int 2))))) mNil)) (mC (.int 254)) (E3 T (fin [] rs) a b c d f h i j' k l rs q' (.list (pagesD (fin [] rs))) (.list ((pls [] rs).map plD)) ab') g6 = some (.bool (decide ((S rs : Int) ≤ 254)), g6) := by
    refine op_e (x := .int (S rs : Int)) (call_e (xs := [.list (rs.map fun r => .int ((r.length : Int) + 2))]) (cons_e (L_e (comp_e (itL_e rfl) ?_ (compL_mm iL (fun r => PyData.int ((r.length : Int) + 2)) fun r hr => ⟨_, rfl, op_e (call_e (cons_e rfl nil_e) iL_len) rfl rfl⟩))) nil_e) ?_) rfl rfl
    · show (b.notOw && true) = true
      rw [n2]; rfl
    · rw [sum_e, sum_S]
  refine tr_ret (g1 := g6) (band_t (op_e (hfit _ rfl) hsum ?_) ?_)
  · unfold dEq
    rw [if_pos ⟨by rw [PyData.depth]; decide, by rw [PyData.depth]; decide⟩, eqv_self rfl]
  · by_cases hs : S rs ≤ 254
    · have hlen := fit_len hs
      unfold mBOr mBNot
      rw [hfit _ rfl]
      dsimp only [bD]
      rw [decide_eq_true (by omega : (S rs : Int) ≤ 254)]
      refine op_e (x := .int ((fin [] rs).length : Int)) (call_e (cons_e rfl nil_e) ?_) rfl (lt_t (by omega))
      show some (PyData.int ((pagesD (fin [] rs)).length : Int)) = _
      unfold pagesD
      rw [List.length_map]
    · unfold mBOr mBNot
      rw [hfit _ rfl]
      dsimp only [bD]
      rw [decide_eq_false (by omega : ¬ (S rs : Int) ≤ 254)]
      rfl
end K52

namespace K52
open PySem PySem.Spec L2 Pd
section
variable {P : Program} {wd : World} {K : PySem.W.Frag} {mg : Str → Option Value} {base : Heap}
theorem ok_law {f : Addr} {fd : FuncData} (F : Fun K "law" "law" s_law f fd) (T : Txt K mg) : FnOk P wd K mg base CX0 6 f fd ["script"] (spLaw K) := by
  refine F.ok sc_law (fun vs H Q E h => ?_) (fun cdv A outer s H vs Q E hr h => ?_)
  · obtain ⟨a, ns, rfl, _⟩ := h
    rfl
  · obtain ⟨a, ns, rfl, hS, hl, kk⟩ := h
    obtain ⟨f1, fd1, F1, hm, hk, hB⟩ := (ok__law_state T).ex
    refine ⟨_, pss_cons (ps_set (i := 1) sc_law.nd rfl (by first | exact Or.inl rfl | exact Or.inr rfl) (pe_call F1 (hr.mono (by decide)) rfl hm hk hB .nil pass0 (pa_cons (pv 0) pa_nil))) (body_law T f cdv A outer s H E hr), ?_⟩
    exact ⟨_, rfl, a, ns, rfl, hS, hl, fun g H' _ _ ok _ => law_start (N := n_law.length) (i := 1) rfl rfl ok (law_true g) fun H' => kk H'⟩
end
theorem all_mk {l : PySem.W.OpenLaw} {w : World} {K : PySem.W.Frag} {h : Heap} {mg : Str → Option Value} {fa : Addr} (X : K.In h) (G : h.Ns mainGlobals mg) (hfa : mg "law" = some (.ref fa))
    {tk0 : Tok}
    {tk1 : Tok}
    {f0 : Addr} {od0 an0 : Option Addr} {sl0 : Array (Option Value)} {oc0 kV0 dc0 pm0 cd0 ct0 : Value}
    {f1 : Addr} {od1 an1 : Option Addr} {sl1 : Array (Option Value)} {oc1 kV1 dc1 pm1 cd1 ct1 : Value}
    {f2 : Addr} {od2 an2 : Option Addr} {sl2 : Array (Option Value)} {oc2 kV2 dc2 pm2 cd2 ct2 : Value}
    {f3 : Addr} {od3 an3 : Option Addr} {sl3 : Array (Option Value)} {oc3 kV3 dc3 pm3 cd3 ct3 : Value}
    {f4 : Addr} {od4 an4 : Option Addr} {sl4 : Array (Option Value)} {oc4 kV4 dc4 pm4 cd4 ct4 : Value}
    {f5 : Addr} {od5 an5 : Option Addr} {sl5 : Array (Option Value)} {oc5 kV5 dc5 pm5 cd5 ct5 : Value}
    {f6 : Addr} {od6 an6 : Option Addr} {sl6 : Array (Option Value)} {oc6 kV6 dc6 pm6 cd6 ct6 : Value}
    {f7 : Addr} {od7 an7 : Option Addr} {sl7 : Array (Option Value)} {oc7 kV7 dc7 pm7 cd7 ct7 : Value}
    {f8 : Addr} {od8 an8 : Option Addr} {sl8 : Array (Option Value)} {oc8 kV8 dc8 pm8 cd8 ct8 : Value}
    {f9 : Addr} {od9 an9 : Option Addr} {sl9 : Array (Option Value)} {oc9 kV9 dc9 pm9 cd9 ct9 : Value}
    {f10 : Addr} {od10 an10 : Option Addr} {sl10 : Array (Option Value)} {oc10 kV10 dc10 pm10 cd10 ct10 : Value}
    {f11 : Addr} {od11 an11 : Option Addr} {sl11 : Array (Option Value)} {oc11 kV11 dc11 pm11 cd11 ct11 : Value}
    {f12 : Addr} {od12 an12 : Option Addr} {sl12 : Array (Option Value)} {oc12 kV12 dc12 pm12 cd12 ct12 : Value}
    {f13 : Addr} {od13 an13 : Option Addr} {sl13 : Array (Option Value)} {oc13 kV13 dc13 pm13 cd13 ct13 : Value}
    {f14 : Addr} {od14 an14 : Option Addr} {sl14 : Array (Option Value)} {oc14 kV14 dc14 pm14 cd14 ct14 : Value}
    {f15 : Addr} {od15 an15 : Option Addr} {sl15 : Array (Option Value)} {oc15 kV15 dc15 pm15 cd15 ct15 : Value}
    {f16 : Addr} {od16 an16 : Option Addr} {sl16 : Array (Option Value)} {oc16 kV16 dc16 pm16 cd16 ct16 : Value}
    {f17 : Addr} {od17 an17 : Option Addr} {sl17 : Array (Option Value)} {oc17 kV17 dc17 pm17 cd17 ct17 : Value}
    {f18 : Addr} {od18 an18 : Option Addr} {sl18 : Array (Option Value)} {oc18 kV18 dc18 pm18 cd18 ct18 : Value}
    {f19 : Addr} {od19 an19 : Option Addr} {sl19 : Array (Option Value)} {oc19 kV19 dc19 pm19 cd19 ct19 : Value}
    {f20 : Addr} {od20 an20 : Option Addr} {sl20 : Array (Option Value)} {oc20 kV20 dc20 pm20 cd20 ct20 : Value}
    {f21 : Addr} {od21 an21 : Option Addr} {sl21 : Array (Option Value)} {oc21 kV21 dc21 pm21 cd21 ct21 : Value}
    {f22 : Addr} {od22 an22 : Option Addr} {sl22 : Array (Option Value)} {oc22 kV22 dc22 pm22 cd22 ct22 : Value}
    (e0 : PySem.W.nsIn K mainGlobals "AHEAD" = some (some (.int 2 tk0)))
    (e1 : PySem.W.nsIn K mainGlobals "SIZE" = some (some (.int 256 tk1)))
    (a0 : PySem.W.nsIn K mainGlobals "empty_page" = some (some (.ref f0))) (l0 : K.lookup f0 = some ⟨oc0, od0, .func (PySem.W.fnOf "empty_page" "empty_page" (defArgs s_empty_page) (defBody s_empty_page) (defScope s_empty_page) .none kV0 dc0 pm0 an0 cd0 ct0), sl0⟩) (c0 : PySem.W.codeIn K cd0 "empty_page" = true) (k0 : PySem.W.keepIn K (.ref f0) = true)
    (a1 : PySem.W.nsIn K mainGlobals "slots_in" = some (some (.ref f1))) (l1 : K.lookup f1 = some ⟨oc1, od1, .func (PySem.W.fnOf "slots_in" "slots_in" (defArgs s_slots_in) (defBody s_slots_in) (defScope s_slots_in) .none kV1 dc1 pm1 an1 cd1 ct1), sl1⟩) (c1 : PySem.W.codeIn K cd1 "slots_in" = true) (k1 : PySem.W.keepIn K (.ref f1) = true)
    (a2 : PySem.W.nsIn K mainGlobals "slot_of" = some (some (.ref f2))) (l2 : K.lookup f2 = some ⟨oc2, od2, .func (PySem.W.fnOf "slot_of" "slot_of" (defArgs s_slot_of) (defBody s_slot_of) (defScope s_slot_of) .none kV2 dc2 pm2 an2 cd2 ct2), sl2⟩) (c2 : PySem.W.codeIn K cd2 "slot_of" = true) (k2 : PySem.W.keepIn K (.ref f2) = true)
    (a3 : PySem.W.nsIn K mainGlobals "row_in" = some (some (.ref f3))) (l3 : K.lookup f3 = some ⟨oc3, od3, .func (PySem.W.fnOf "row_in" "row_in" (defArgs s_row_in) (defBody s_row_in) (defScope s_row_in) .none kV3 dc3 pm3 an3 cd3 ct3), sl3⟩) (c3 : PySem.W.codeIn K cd3 "row_in" = true) (k3 : PySem.W.keepIn K (.ref f3) = true)
    (a4 : PySem.W.nsIn K mainGlobals "rows_in" = some (some (.ref f4))) (l4 : K.lookup f4 = some ⟨oc4, od4, .func (PySem.W.fnOf "rows_in" "rows_in" (defArgs s_rows_in) (defBody s_rows_in) (defScope s_rows_in) .none kV4 dc4 pm4 an4 cd4 ct4), sl4⟩) (c4 : PySem.W.codeIn K cd4 "rows_in" = true) (k4 : PySem.W.keepIn K (.ref f4) = true)
    (a5 : PySem.W.nsIn K mainGlobals "laid" = some (some (.ref f5))) (l5 : K.lookup f5 = some ⟨oc5, od5, .func (PySem.W.fnOf "laid" "laid" (defArgs s_laid) (defBody s_laid) (defScope s_laid) .none kV5 dc5 pm5 an5 cd5 ct5), sl5⟩) (c5 : PySem.W.codeIn K cd5 "laid" = true) (k5 : PySem.W.keepIn K (.ref f5) = true)
    (a6 : PySem.W.nsIn K mainGlobals "first_free" = some (some (.ref f6))) (l6 : K.lookup f6 = some ⟨oc6, od6, .func (PySem.W.fnOf "first_free" "first_free" (defArgs s_first_free) (defBody s_first_free) (defScope s_first_free) .none kV6 dc6 pm6 an6 cd6 ct6), sl6⟩) (c6 : PySem.W.codeIn K cd6 "first_free" = true) (k6 : PySem.W.keepIn K (.ref f6) = true)
    (a7 : PySem.W.nsIn K mainGlobals "used_in" = some (some (.ref f7))) (l7 : K.lookup f7 = some ⟨oc7, od7, .func (PySem.W.fnOf "used_in" "used_in" (defArgs s_used_in) (defBody s_used_in) (defScope s_used_in) .none kV7 dc7 pm7 an7 cd7 ct7), sl7⟩) (c7 : PySem.W.codeIn K cd7 "used_in" = true) (k7 : PySem.W.keepIn K (.ref f7) = true)
    (a8 : PySem.W.nsIn K mainGlobals "room_in" = some (some (.ref f8))) (l8 : K.lookup f8 = some ⟨oc8, od8, .func (PySem.W.fnOf "room_in" "room_in" (defArgs s_room_in) (defBody s_room_in) (defScope s_room_in) .none kV8 dc8 pm8 an8 cd8 ct8), sl8⟩) (c8 : PySem.W.codeIn K cd8 "room_in" = true) (k8 : PySem.W.keepIn K (.ref f8) = true)
    (a9 : PySem.W.nsIn K mainGlobals "put_in" = some (some (.ref f9))) (l9 : K.lookup f9 = some ⟨oc9, od9, .func (PySem.W.fnOf "put_in" "put_in" (defArgs s_put_in) (defBody s_put_in) (defScope s_put_in) .none kV9 dc9 pm9 an9 cd9 ct9), sl9⟩) (c9 : PySem.W.codeIn K cd9 "put_in" = true) (k9 : PySem.W.keepIn K (.ref f9) = true)
    (a10 : PySem.W.nsIn K mainGlobals "taken_out" = some (some (.ref f10))) (l10 : K.lookup f10 = some ⟨oc10, od10, .func (PySem.W.fnOf "taken_out" "taken_out" (defArgs s_taken_out) (defBody s_taken_out) (defScope s_taken_out) .none kV10 dc10 pm10 an10 cd10 ct10), sl10⟩) (c10 : PySem.W.codeIn K cd10 "taken_out" = true) (k10 : PySem.W.keepIn K (.ref f10) = true)
    (a11 : PySem.W.nsIn K mainGlobals "changed" = some (some (.ref f11))) (l11 : K.lookup f11 = some ⟨oc11, od11, .func (PySem.W.fnOf "changed" "changed" (defArgs s_changed) (defBody s_changed) (defScope s_changed) .none kV11 dc11 pm11 an11 cd11 ct11), sl11⟩) (c11 : PySem.W.codeIn K cd11 "changed" = true) (k11 : PySem.W.keepIn K (.ref f11) = true)
    (a12 : PySem.W.nsIn K mainGlobals "page_fault" = some (some (.ref f12))) (l12 : K.lookup f12 = some ⟨oc12, od12, .func (PySem.W.fnOf "page_fault" "page_fault" (defArgs s_page_fault) (defBody s_page_fault) (defScope s_page_fault) .none kV12 dc12 pm12 an12 cd12 ct12), sl12⟩) (c12 : PySem.W.codeIn K cd12 "page_fault" = true) (k12 : PySem.W.keepIn K (.ref f12) = true)
    (a13 : PySem.W.nsIn K mainGlobals "fits_all" = some (some (.ref f13))) (l13 : K.lookup f13 = some ⟨oc13, od13, .func (PySem.W.fnOf "fits_all" "fits_all" (defArgs s_fits_all) (defBody s_fits_all) (defScope s_fits_all) .none kV13 dc13 pm13 an13 cd13 ct13), sl13⟩) (c13 : PySem.W.codeIn K cd13 "fits_all" = true) (k13 : PySem.W.keepIn K (.ref f13) = true)
    (a14 : PySem.W.nsIn K mainGlobals "pages_for" = some (some (.ref f14))) (l14 : K.lookup f14 = some ⟨oc14, od14, .func (PySem.W.fnOf "pages_for" "pages_for" (defArgs s_pages_for) (defBody s_pages_for) (defScope s_pages_for) .none kV14 dc14 pm14 an14 cd14 ct14), sl14⟩) (c14 : PySem.W.codeIn K cd14 "pages_for" = true) (k14 : PySem.W.keepIn K (.ref f14) = true)
    (a15 : PySem.W.nsIn K mainGlobals "_law_state" = some (some (.ref f15))) (l15 : K.lookup f15 = some ⟨oc15, od15, .func (PySem.W.fnOf "_law_state" "_law_state" (defArgs s__law_state) (defBody s__law_state) (defScope s__law_state) .none kV15 dc15 pm15 an15 cd15 ct15), sl15⟩) (c15 : PySem.W.codeIn K cd15 "_law_state" = true) (k15 : PySem.W.keepIn K (.ref f15) = true)
    (a16 : PySem.W.nsIn K mainGlobals "_law_take" = some (some (.ref f16))) (l16 : K.lookup f16 = some ⟨oc16, od16, .func (PySem.W.fnOf "_law_take" "_law_take" (defArgs s__law_take) (defBody s__law_take) (defScope s__law_take) .none kV16 dc16 pm16 an16 cd16 ct16), sl16⟩) (c16 : PySem.W.codeIn K cd16 "_law_take" = true) (k16 : PySem.W.keepIn K (.ref f16) = true)
    (a17 : PySem.W.nsIn K mainGlobals "_law_laid" = some (some (.ref f17))) (l17 : K.lookup f17 = some ⟨oc17, od17, .func (PySem.W.fnOf "_law_laid" "_law_laid" (defArgs s__law_laid) (defBody s__law_laid) (defScope s__law_laid) .none kV17 dc17 pm17 an17 cd17 ct17), sl17⟩) (c17 : PySem.W.codeIn K cd17 "_law_laid" = true) (k17 : PySem.W.keepIn K (.ref f17) = true)
    (a18 : PySem.W.nsIn K mainGlobals "_law_row" = some (some (.ref f18))) (l18 : K.lookup f18 = some ⟨oc18, od18, .func (PySem.W.fnOf "_law_row" "_law_row" (defArgs s__law_row) (defBody s__law_row) (defScope s__law_row) .none kV18 dc18 pm18 an18 cd18 ct18), sl18⟩) (c18 : PySem.W.codeIn K cd18 "_law_row" = true) (k18 : PySem.W.keepIn K (.ref f18) = true)
    (a19 : PySem.W.nsIn K mainGlobals "_law_page" = some (some (.ref f19))) (l19 : K.lookup f19 = some ⟨oc19, od19, .func (PySem.W.fnOf "_law_page" "_law_page" (defArgs s__law_page) (defBody s__law_page) (defScope s__law_page) .none kV19 dc19 pm19 an19 cd19 ct19), sl19⟩) (c19 : PySem.W.codeIn K cd19 "_law_page" = true) (k19 : PySem.W.keepIn K (.ref f19) = true)
    (a20 : PySem.W.nsIn K mainGlobals "_law_free" = some (some (.ref f20))) (l20 : K.lookup f20 = some ⟨oc20, od20, .func (PySem.W.fnOf "_law_free" "_law_free" (defArgs s__law_free) (defBody s__law_free) (defScope s__law_free) .none kV20 dc20 pm20 an20 cd20 ct20), sl20⟩) (c20 : PySem.W.codeIn K cd20 "_law_free" = true) (k20 : PySem.W.keepIn K (.ref f20) = true)
    (a21 : PySem.W.nsIn K mainGlobals "_law_room" = some (some (.ref f21))) (l21 : K.lookup f21 = some ⟨oc21, od21, .func (PySem.W.fnOf "_law_room" "_law_room" (defArgs s__law_room) (defBody s__law_room) (defScope s__law_room) .none kV21 dc21 pm21 an21 cd21 ct21), sl21⟩) (c21 : PySem.W.codeIn K cd21 "_law_room" = true) (k21 : PySem.W.keepIn K (.ref f21) = true)
    (a22 : PySem.W.nsIn K mainGlobals "law" = some (some (.ref f22))) (l22 : K.lookup f22 = some ⟨oc22, od22, .func (PySem.W.fnOf "law" "law" (defArgs s_law) (defBody s_law) (defScope s_law) .none kV22 dc22 pm22 an22 cd22 ct22), sl22⟩) (c22 : PySem.W.codeIn K cd22 "law" = true) (k22 : PySem.W.keepIn K (.ref f22) = true)
    (z0 : PySem.W.nsIn K mainGlobals "abs" = some none)
    (z1 : PySem.W.nsIn K mainGlobals "any" = some none)
    (z2 : PySem.W.nsIn K mainGlobals "dict" = some none)
    (z3 : PySem.W.nsIn K mainGlobals "enumerate" = some none)
    (z4 : PySem.W.nsIn K mainGlobals "int" = some none)
    (z5 : PySem.W.nsIn K mainGlobals "len" = some none)
    (z6 : PySem.W.nsIn K mainGlobals "list" = some none)
    (z7 : PySem.W.nsIn K mainGlobals "max" = some none)
    (z8 : PySem.W.nsIn K mainGlobals "min" = some none)
    (z9 : PySem.W.nsIn K mainGlobals "range" = some none)
    (z10 : PySem.W.nsIn K mainGlobals "sorted" = some none)
    (z11 : PySem.W.nsIn K mainGlobals "sum" = some none) :
    ∃ fd : FuncData, (∀ (s : Shared) (v : Value), BindsTo s fd ⟨[v], []⟩ [("script", v)]) ∧ ∀ base : Heap, K.In base → base.Ns mainGlobals mg → FnOk l.prog w K mg base CX0 6 fa fd ["script"] (spLaw K) := by
  have e := hfa.symm.trans (PySem.W.mg_of X G a22)
  cases e
  have F0 := fun_mk (st := s_empty_page) l0 c0 k0
  have F1 := fun_mk (st := s_slots_in) l1 c1 k1
  have F2 := fun_mk (st := s_slot_of) l2 c2 k2
  have F3 := fun_mk (st := s_row_in) l3 c3 k3
  have F4 := fun_mk (st := s_rows_in) l4 c4 k4
  have F5 := fun_mk (st := s_laid) l5 c5 k5
  have F6 := fun_mk (st := s_first_free) l6 c6 k6
  have F7 := fun_mk (st := s_used_in) l7 c7 k7
  have F8 := fun_mk (st := s_room_in) l8 c8 k8
  have F9 := fun_mk (st := s_put_in) l9 c9 k9
  have F10 := fun_mk (st := s_taken_out) l10 c10 k10
  have F11 := fun_mk (st := s_changed) l11 c11 k11
  have F12 := fun_mk (st := s_page_fault) l12 c12 k12
  have F13 := fun_mk (st := s_fits_all) l13 c13 k13
  have F14 := fun_mk (st := s_pages_for) l14 c14 k14
  have F15 := fun_mk (st := s__law_state) l15 c15 k15
  have F16 := fun_mk (st := s__law_take) l16 c16 k16
  have F17 := fun_mk (st := s__law_laid) l17 c17 k17
  have F18 := fun_mk (st := s__law_row) l18 c18 k18
  have F19 := fun_mk (st := s__law_page) l19 c19 k19
  have F20 := fun_mk (st := s__law_free) l20 c20 k20
  have F21 := fun_mk (st := s__law_room) l21 c21 k21
  have T : Txt K mg := ⟨⟨⟨f0, _, F0, PySem.W.mg_of X G a0, F0.binds (ps := []) fun _ _ _ _ _ _ us hl => match us, hl with | [], _ => rfl⟩⟩,
    ⟨⟨f1, _, F1, PySem.W.mg_of X G a1, F1.binds (ps := ["page"]) fun _ _ _ _ _ _ us hl => match us, hl with | [_], _ => rfl⟩⟩,
    ⟨⟨f2, _, F2, PySem.W.mg_of X G a2, F2.binds (ps := ["page", "slot"]) fun _ _ _ _ _ _ us hl => match us, hl with | [_, _], _ => rfl⟩⟩,
    ⟨⟨f3, _, F3, PySem.W.mg_of X G a3, F3.binds (ps := ["page", "slot"]) fun _ _ _ _ _ _ us hl => match us, hl with | [_, _], _ => rfl⟩⟩,
    ⟨⟨f4, _, F4, PySem.W.mg_of X G a4, F4.binds (ps := ["page"]) fun _ _ _ _ _ _ us hl => match us, hl with | [_], _ => rfl⟩⟩,
    ⟨⟨f5, _, F5, PySem.W.mg_of X G a5, F5.binds (ps := ["rows", "slots"]) fun _ _ _ _ _ _ us hl => match us, hl with | [_, _], _ => rfl⟩⟩,
    ⟨⟨f6, _, F6, PySem.W.mg_of X G a6, F6.binds (ps := ["page"]) fun _ _ _ _ _ _ us hl => match us, hl with | [_], _ => rfl⟩⟩,
    ⟨⟨f7, _, F7, PySem.W.mg_of X G a7, F7.binds (ps := ["page"]) fun _ _ _ _ _ _ us hl => match us, hl with | [_], _ => rfl⟩⟩,
    ⟨⟨f8, _, F8, PySem.W.mg_of X G a8, F8.binds (ps := ["page"]) fun _ _ _ _ _ _ us hl => match us, hl with | [_], _ => rfl⟩⟩,
    ⟨⟨f9, _, F9, PySem.W.mg_of X G a9, F9.binds (ps := ["page", "row"]) fun _ _ _ _ _ _ us hl => match us, hl with | [_, _], _ => rfl⟩⟩,
    ⟨⟨f10, _, F10, PySem.W.mg_of X G a10, F10.binds (ps := ["page", "slot"]) fun _ _ _ _ _ _ us hl => match us, hl with | [_, _], _ => rfl⟩⟩,
    ⟨⟨f11, _, F11, PySem.W.mg_of X G a11, F11.binds (ps := ["page", "slot", "row"]) fun _ _ _ _ _ _ us hl => match us, hl with | [_, _, _], _ => rfl⟩⟩,
    ⟨⟨f12, _, F12, PySem.W.mg_of X G a12, F12.binds (ps := ["page"]) fun _ _ _ _ _ _ us hl => match us, hl with | [_], _ => rfl⟩⟩,
    ⟨⟨f13, _, F13, PySem.W.mg_of X G a13, F13.binds (ps := ["rows"]) fun _ _ _ _ _ _ us hl => match us, hl with | [_], _ => rfl⟩⟩,
    ⟨⟨f14, _, F14, PySem.W.mg_of X G a14, F14.binds (ps := ["rows"]) fun _ _ _ _ _ _ us hl => match us, hl with | [_], _ => rfl⟩⟩,
    ⟨⟨f15, _, F15, PySem.W.mg_of X G a15, F15.binds (ps := ["script"]) fun _ _ _ _ _ _ us hl => match us, hl with | [_], _ => rfl⟩⟩,
    ⟨⟨f16, _, F16, PySem.W.mg_of X G a16, F16.binds (ps := ["state", "most"]) fun _ _ _ _ _ _ us hl => match us, hl with | [_, _], _ => rfl⟩⟩,
    ⟨⟨f17, _, F17, PySem.W.mg_of X G a17, F17.binds (ps := ["rows", "slots"]) fun _ _ _ _ _ _ us hl => match us, hl with | [_, _], _ => rfl⟩⟩,
    ⟨⟨f18, _, F18, PySem.W.mg_of X G a18, F18.binds (ps := ["state"]) fun _ _ _ _ _ _ us hl => match us, hl with | [_], _ => rfl⟩⟩,
    ⟨⟨f19, _, F19, PySem.W.mg_of X G a19, F19.binds (ps := ["table"]) fun _ _ _ _ _ _ us hl => match us, hl with | [_], _ => rfl⟩⟩,
    ⟨⟨f20, _, F20, PySem.W.mg_of X G a20, F20.binds (ps := ["table"]) fun _ _ _ _ _ _ us hl => match us, hl with | [_], _ => rfl⟩⟩,
    ⟨⟨f21, _, F21, PySem.W.mg_of X G a21, F21.binds (ps := ["table"]) fun _ _ _ _ _ _ us hl => match us, hl with | [_], _ => rfl⟩⟩,
    Cst.int (PySem.W.mg_of X G e0),
    Cst.int (PySem.W.mg_of X G e1),
    PySem.W.mg_none_of X G z0,
    PySem.W.mg_none_of X G z1,
    PySem.W.mg_none_of X G z2,
    PySem.W.mg_none_of X G z3,
    PySem.W.mg_none_of X G z4,
    PySem.W.mg_none_of X G z5,
    PySem.W.mg_none_of X G z6,
    PySem.W.mg_none_of X G z7,
    PySem.W.mg_none_of X G z8,
    PySem.W.mg_none_of X G z9,
    PySem.W.mg_none_of X G z10,
    PySem.W.mg_none_of X G z11⟩
  have FL := fun_mk (st := s_law) l22 c22 k22
  exact ⟨PySem.W.fnOf "law" "law" (defArgs s_law) (defBody s_law) (defScope s_law) .none kV22 dc22 pm22 an22 cd22 ct22, fun s v => .of_eq rfl, fun base _ _ => ok_law FL T⟩
theorem walk {l : PySem.W.OpenLaw} {q : Program} {loose : List Str} {XP : (Str → Option Value) → Heap → Prop} {YP : World → Heap → Prop} {d : DefRec} {K : Params → PySem.W.Frag} (hn : l.most = some 63) (hdf : d.params.defaults = [])
    (hY : ∀ (w : World) (h : Heap), YP w h → (K w.params).In h)
    (F : ∀ (w : World) (mg : Str → Option Value) (fa : Addr) (h : Heap), (K w.params).In h → h.Ns mainGlobals mg → mg d.name = some (.ref fa) →
      ∃ fd : FuncData, (∀ (s : Shared) (u : Value), BindsTo s fd ⟨[u], []⟩ [("script", u)]) ∧ ∀ base : Heap, (K w.params).In base → base.Ns mainGlobals mg → FnOk l.prog w (K w.params) mg base CX0 6 fa fd ["script"] (spLaw (K w.params))) :
    PySem.W.WalkO q loose XP YP l.row.toRowW d [] (fun f vs => PySem.call f vs) :=
  L2.walk_of (n := 63) (k := 6) (x := "script") (CX := fun _ => CX0) (sp := fun w => spLaw (K w.params)) hn (by decide) hdf ⟨rfl, by decide, by decide⟩ hY F (fun _ _ a ns hl _ hS => ⟨a, ns, rfl, hS, hl, fun _ => rfl⟩) fun _ _ _ _ _ z => z
end K52
open PySem PySem.W PyProof.Rows
set_option maxRecDepth 100000 in
set_option maxHeartbeats 0 in
theorem PySem.Challenge.cw_plainserial_k52_whole_pages_holds : PySem.Challenge.rw_plainserial_k52_whole_pages.Holds := by
  w_on; o_law; k_head; (case hw => w_witness2)
  k_fill
  refine K52.walk (l := PySem.Challenge.rw_plainserial_k52_whole_pages) rfl rfl (fun w h Y => PySem.W.kIn_of Y) ?F
  case F =>
    intro w mg fa h KX G hmg
    refine' K52.all_mk KX G hmg ?e0 ?e1 ?a0 ?l0 ?c0 ?k0 ?a1 ?l1 ?c1 ?k1 ?a2 ?l2 ?c2 ?k2 ?a3 ?l3 ?c3 ?k3 ?a4 ?l4 ?c4 ?k4 ?a5 ?l5 ?c5 ?k5 ?a6 ?l6 ?c6 ?k6 ?a7 ?l7 ?c7 ?k7 ?a8 ?l8 ?c8 ?k8 ?a9 ?l9 ?c9 ?k9 ?a10 ?l10 ?c10 ?k10 ?a11 ?l11 ?c11 ?k11 ?a12 ?l12 ?c12 ?k12 ?a13 ?l13 ?c13 ?k13 ?a14 ?l14 ?c14 ?k14 ?a15 ?l15 ?c15 ?k15 ?a16 ?l16 ?c16 ?k16 ?a17 ?l17 ?c17 ?k17 ?a18 ?l18 ?c18 ?k18 ?a19 ?l19 ?c19 ?k19 ?a20 ?l20 ?c20 ?k20 ?a21 ?l21 ?c21 ?k21 ?a22 ?l22 ?c22 ?k22 ?z0 ?z1 ?z2 ?z3 ?z4 ?z5 ?z6 ?z7 ?z8 ?z9 ?z10 ?z11
    (case e0 => k_is); (case e1 => k_is); (case a0 => k_is); (case l0 => k_is); (case c0 => k_is); (case k0 => k_is); (case a1 => k_is); (case l1 => k_is)
    (case c1 => k_is); (case k1 => k_is); (case a2 => k_is); (case l2 => k_is); (case c2 => k_is); (case k2 => k_is); (case a3 => k_is); (case l3 => k_is)
    (case c3 => k_is); (case k3 => k_is); (case a4 => k_is); (case l4 => k_is); (case c4 => k_is); (case k4 => k_is); (case a5 => k_is); (case l5 => k_is)
    (case c5 => k_is); (case k5 => k_is); (case a6 => k_is); (case l6 => k_is); (case c6 => k_is); (case k6 => k_is); (case a7 => k_is); (case l7 => k_is)
    (case c7 => k_is); (case k7 => k_is); (case a8 => k_is); (case l8 => k_is); (case c8 => k_is); (case k8 => k_is); (case a9 => k_is); (case l9 => k_is)
    (case c9 => k_is); (case k9 => k_is); (case a10 => k_is); (case l10 => k_is); (case c10 => k_is); (case k10 => k_is); (case a11 => k_is); (case l11 => k_is)
    (case c11 => k_is); (case k11 => k_is); (case a12 => k_is); (case l12 => k_is); (case c12 => k_is); (case k12 => k_is); (case a13 => k_is); (case l13 => k_is)
    (case c13 => k_is); (case k13 => k_is); (case a14 => k_is); (case l14 => k_is); (case c14 => k_is); (case k14 => k_is); (case a15 => k_is); (case l15 => k_is)
    (case c15 => k_is); (case k15 => k_is); (case a16 => k_is); (case l16 => k_is); (case c16 => k_is); (case k16 => k_is); (case a17 => k_is); (case l17 => k_is)
    (case c17 => k_is); (case k17 => k_is); (case a18 => k_is); (case l18 => k_is); (case c18 => k_is); (case k18 => k_is); (case a19 => k_is); (case l19 => k_is)
    (case c19 => k_is); (case k19 => k_is); (case a20 => k_is); (case l20 => k_is); (case c20 => k_is); (case k20 => k_is); (case a21 => k_is); (case l21 => k_is)
    (case c21 => k_is); (case k21 => k_is); (case a22 => k_is); (case l22 => k_is); (case c22 => k_is); (case k22 => k_is); (case z0 => k_is); (case z1 => k_is)
    (case z2 => k_is); (case z3 => k_is); (case z4 => k_is); (case z5 => k_is); (case z6 => k_is); (case z7 => k_is); (case z8 => k_is); (case z9 => k_is)
    (case z10 => k_is); (case z11 => k_is)
