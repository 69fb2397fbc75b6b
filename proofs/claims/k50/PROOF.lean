import PyProof.Rows.All
import Wide.All
import OpenK.AllK
import Wide.FinOn
import HandS.ForMost
import HandS.Evl
import HandS.IsInst
import HandS.Flow
import HandS.Style
import HandS.TupAny
import HandS.Deep
import KE.SortData
import KE.LtSeq
import KE.LtData
import HandS.TupLe
import PyProof.ReprRoads
import PyProof.ReprLen
import PyProof.ReprText
import HandS.TupSets
import HandS.SetFor
import HandS.Strs
import HandS.Dict
import HandS.Iter
import HandS.More
import HandS.DictTup
import HandS.ListItems
import PyProof.Transfer
import HandS.WordsExc
import HandS.ExcOwn
import KE.KExcSuper
import HandS.ExcInit
import HandS.ClsMeth
import HandS.Nested
import HandS.ExcField
import PySem.Challenge.RW_plainserial_k50_whole_things_as_bytes
set_option Elab.async false
set_option linter.all false
set_option maxRecDepth 100000
set_option maxHeartbeats 4000000
/-! Pd: pure data over the hand layer: values that stand for PyData, local owned lists, a ghost state. -/
namespace Pd
open PySem PySem.Spec L2

abbrev D := PyData
/-- a text that may be compared, measured -/
def SOk (x : Str) : Prop := x.length ≤ sizeLine ∧ PyData.canLay0 (.str x) = true

/-! ### values that stand for data; what stands never changes -/
def dpN : Nat → D
  | 0 => .none
  | n + 1 => .list [dpN n]
/-- an empty dict: it can only be told apart (so its depth is beyond all that is compared) -/
abbrev EMP : D := .dict [(dpN 70, .none)]
mutual
inductive Rp (K : PySem.W.Frag) (H : Hp) : V → D → Prop
  | non : Rp K H .non .none
  | bl (b : Bool) : Rp K H (.bl b) (.bool b)
  | int (i : Int) : Rp K H (.int i) (.int i)
  | str {x : Str} : SOk x → Rp K H (.str x) (.str x)
  | lst {a : Addr} {xs : List V} {ds : List D} : H a = some (.lst xs) → RpA K H xs ds → ds.length ≤ sizeLine → Rp K H (.ref a) (.list ds)
  | tup {a : Addr} {xs : List V} {ds : List D} : SqT K H a xs → RpA K H xs ds → ds.length ≤ sizeLine → Rp K H (.ref a) (.tuple ds)
  | emp {a : Addr} : H a = some (.dT []) → Rp K H (.ref a) EMP
inductive RpA (K : PySem.W.Frag) (H : Hp) : List V → List D → Prop
  | nil : RpA K H [] []
  | cons {v : V} {vs : List V} {d : D} {ds : List D} : Rp K H v d → RpA K H vs ds → RpA K H (v :: vs) (d :: ds)
end
section
variable {K : PySem.W.Frag} {H H' : Hp}
theorem same_t {a : Addr} {xs : List V} (e : Same H H') (h : SqT K H a xs) : SqT K H' a xs := Evl.ex_t e h
mutual
theorem Rp.mono (e : Same H H') : ∀ {d : D} {v : V}, Rp K H v d → Rp K H' v d
  | .none, _, h => by cases h; exact .non
  | .bool _, _, h => by cases h; exact .bl _
  | .int _, _, h => by cases h; exact .int _
  | .str _, _, h => by cases h with | str h => exact .str h
  | .list ds, _, h => by cases h with | lst a b c => exact .lst (e _ _ a) (RpA.mono e b) c
  | .tuple ds, _, h => by cases h with | tup a b c => exact .tup (same_t e a) (RpA.mono e b) c
  | .dict _, _, h => by cases h with | emp a => exact .emp (e _ _ a)
theorem RpA.mono (e : Same H H') : ∀ {ds : List D} {vs : List V}, RpA K H vs ds → RpA K H' vs ds
  | [], _, h => by cases h; exact .nil
  | _ :: _, _, h => by cases h with | cons a b => exact .cons (Rp.mono e a) (RpA.mono e b)
end
theorem emp_deep : ¬ EMP.depth ≤ 64 := by decide +kernel
mutual
theorem Rp.dp : ∀ {d : D} {v : V}, Rp K H v d → d.depth ≤ 64 → Dp K H v d
  | .none, _, h, _ => by cases h; exact .non
  | .bool _, _, h, _ => by cases h; exact .bl _
  | .int _, _, h, _ => by cases h; exact .int _
  | .str _, _, h, _ => by cases h with | str h => exact .str _
  | .list ds, _, h, z => by cases h with | lst a b c => exact .lst (SqL.of a) (RpA.dp b (by simp only [PyData.depth] at z; omega))
  | .tuple ds, _, h, z => by cases h with | tup a b c => exact .tup a (RpA.dp b (by simp only [PyData.depth] at z; omega))
  | .dict _, _, h, z => by cases h with | emp a => exact absurd z emp_deep
theorem RpA.dp : ∀ {ds : List D} {vs : List V}, RpA K H vs ds → PyData.depthAll ds ≤ 64 → DpAll K H vs ds
  | [], _, h, _ => by cases h; exact .nil
  | _ :: _, _, h, z => by cases h with | cons a b => simp only [PyData.depthAll] at z; exact .cons (Rp.dp a (by omega)) (RpA.dp b (by omega))
end
mutual
theorem Rp.lay : ∀ {d : D} {v : V}, Rp K H v d → d.depth ≤ 64 → d.canLay0 = true
  | .none, _, h, _ => by simp only [PyData.canLay0]
  | .bool _, _, h, _ => by simp only [PyData.canLay0]
  | .int _, _, h, _ => by simp only [PyData.canLay0]
  | .str _, _, h, _ => by cases h with | str h => exact h.2
  | .list ds, _, h, z => by cases h with | lst a b c => simp only [PyData.canLay0]; exact RpA.lay b (by simp only [PyData.depth] at z; omega)
  | .tuple ds, _, h, z => by cases h with | tup a b c => simp only [PyData.canLay0]; exact RpA.lay b (by simp only [PyData.depth] at z; omega)
  | .dict _, _, h, z => by cases h with | emp a => exact absurd z emp_deep
theorem RpA.lay : ∀ {ds : List D} {vs : List V}, RpA K H vs ds → PyData.depthAll ds ≤ 64 → PyData.canLayAll0 ds = true
  | [], _, h, _ => by simp only [PyData.canLayAll0]
  | _ :: _, _, h, z => by cases h with | cons a b => simp only [PyData.depthAll] at z; simp only [PyData.canLayAll0, Rp.lay a (by omega), RpA.lay b (by omega), Bool.and_self]
end
mutual
theorem Rp.dpL : ∀ {d : D} {v : V}, Rp K H v d → d.canLay0 = true → Dp K H v d
  | .none, _, h, _ => by cases h; exact .non
  | .bool _, _, h, _ => by cases h; exact .bl _
  | .int _, _, h, _ => by cases h; exact .int _
  | .str _, _, h, _ => by cases h with | str h => exact .str _
  | .list ds, _, h, z => by cases h with | lst a b c => exact .lst (SqL.of a) (RpA.dpL b (by simpa only [PyData.canLay0] using z))
  | .tuple ds, _, h, z => by cases h with | tup a b c => exact .tup a (RpA.dpL b (by simpa only [PyData.canLay0] using z))
  | .dict _, _, h, z => by simp [PyData.canLay0] at z
theorem RpA.dpL : ∀ {ds : List D} {vs : List V}, RpA K H vs ds → PyData.canLayAll0 ds = true → DpAll K H vs ds
  | [], _, h, _ => by cases h; exact .nil
  | _ :: _, _, h, z => by cases h with | cons a b => simp only [PyData.canLayAll0, Bool.and_eq_true] at z; exact .cons (Rp.dpL a z.1) (RpA.dpL b z.2)
end
theorem RpA.len : ∀ {vs : List V} {ds : List D}, RpA K H vs ds → vs.length = ds.length
  | _, _, .nil => rfl
  | _, _, .cons _ b => by rw [List.length_cons, List.length_cons, RpA.len b]
theorem RpA.get : ∀ {vs : List V} {ds : List D} {i : Nat} {d : D}, RpA K H vs ds → ds[i]? = some d → ∃ v, vs[i]? = some v ∧ Rp K H v d
  | _, _, _, _, .nil, e => by simp at e
  | _, _, 0, _, .cons a _, e => by simp at e; subst e; exact ⟨_, rfl, a⟩
  | _, _, i + 1, d, .cons _ b, e => by
    obtain ⟨v, h1, h2⟩ := RpA.get (i := i) (d := d) b (by simpa using e)
    exact ⟨v, by simpa using h1, h2⟩
theorem RpA.getV : ∀ {vs : List V} {ds : List D} {i : Nat} {v : V}, RpA K H vs ds → vs[i]? = some v → ∃ d, ds[i]? = some d ∧ Rp K H v d
  | _, _, _, _, .nil, e => by simp at e
  | _, _, 0, _, .cons a _, e => by simp at e; subst e; exact ⟨_, rfl, a⟩
  | _, _, i + 1, v, .cons _ b, e => by
    obtain ⟨d, h1, h2⟩ := RpA.getV (i := i) (v := v) b (by simpa using e)
    exact ⟨d, by simpa using h1, h2⟩
theorem RpA.append : ∀ {vs us : List V} {ds es : List D}, RpA K H vs ds → RpA K H us es → RpA K H (vs ++ us) (ds ++ es)
  | _, _, _, _, .nil, h => h
  | _, _, _, _, .cons a b, h => .cons a (RpA.append b h)
theorem RpA.one {v : V} {d : D} (h : Rp K H v d) : RpA K H [v] [d] := .cons h .nil
theorem RpA.set {v : V} {d : D} (h : Rp K H v d) : ∀ {vs : List V} {ds : List D} (i : Nat), RpA K H vs ds → RpA K H (vs.set i v) (ds.set i d)
  | _, _, _, .nil => .nil
  | _, _, 0, .cons _ b => .cons h b
  | _, _, i + 1, .cons a b => .cons a (RpA.set h i b)
theorem RpA.take : ∀ {vs : List V} {ds : List D} (n : Nat), RpA K H vs ds → RpA K H (vs.take n) (ds.take n)
  | _, _, 0, _ => .nil
  | _, _, _ + 1, .nil => .nil
  | _, _, n + 1, .cons a b => .cons a (RpA.take n b)
theorem RpA.drop : ∀ {vs : List V} {ds : List D} (n : Nat), RpA K H vs ds → RpA K H (vs.drop n) (ds.drop n)
  | _, _, 0, h => h
  | _, _, _ + 1, .nil => .nil
  | _, _, n + 1, .cons _ b => RpA.drop n b
theorem RpA.reverse : ∀ {vs : List V} {ds : List D}, RpA K H vs ds → RpA K H vs.reverse ds.reverse
  | _, _, .nil => .nil
  | _, _, .cons a b => by rw [List.reverse_cons, List.reverse_cons]; exact (RpA.reverse b).append (.one a)
theorem RpA.flatRep {vs : List V} {ds : List D} (h : RpA K H vs ds) : ∀ n : Nat, RpA K H (List.replicate n vs).flatten (List.replicate n ds).flatten
  | 0 => .nil
  | n + 1 => by rw [List.replicate_succ, List.replicate_succ, List.flatten_cons, List.flatten_cons]; exact h.append (RpA.flatRep h n)
theorem RpA.ints : ∀ {vs : List V} {ns : List Int}, RpA K H vs (ns.map .int) → vs = ns.map V.int
  | _, [], h => by cases h; rfl
  | _, n :: ns, h => by
    cases h with
    | cons a b => cases a; rw [List.map_cons, ← RpA.ints b]
theorem RpA.of_ints : ∀ (ns : List Int), RpA K H (ns.map V.int) (ns.map .int)
  | [] => .nil
  | n :: ns => .cons (.int n) (RpA.of_ints ns)
end

/-! ### a pure step: I what is known to stand, H the heap -/
structure Pst (I H I' H' : Hp) : Prop where
  eI : Same I I'
  eH : Same H H'
  sub : Same I' H'
  ag : ∀ a, H a ≠ none → I' a = I a
section
variable {I H I1 H1 I2 H2 : Hp}
theorem Pst.refl (h : Same I H) : Pst I H I H := ⟨Same.refl _, Same.refl _, h, fun _ _ => rfl⟩
theorem Pst.trans (a : Pst I H I1 H1) (b : Pst I1 H1 I2 H2) : Pst I H I2 H2 := ⟨a.eI.trans b.eI, a.eH.trans b.eH, b.sub, fun x hx => by
  have h1 : H1 x ≠ none := fun z => hx (a.eH.free z)
  rw [b.ag x h1, a.ag x hx]⟩
theorem same_new {H : Hp} {p : Addr} {o : HO} (h : H p = none) : Same H (upd H p o) := Evl.Ex.new h
theorem same_upd {I H : Hp} {p : Addr} {o : HO} (e : Same I H) (h : H p = none) : Same (upd I p o) (upd H p o) := fun b u q => by
  by_cases z : b = p
  · subst z; rw [upd_same] at q ⊢; exact q
  · rw [upd_ne z] at q ⊢; exact e b u q
theorem Pst.new {p : Addr} {o : HO} (e : Same I H) (h : H p = none) : Pst I H (upd I p o) (upd H p o) :=
  ⟨same_new (e.free h), same_new h, same_upd e h, fun a ha => upd_ne fun z => ha (z ▸ h)⟩
end

/-! ### the ghost state -/
structure Gs (G : Type) where
  fp : G → Addr → Prop
  ok : G → Hp → Prop
  root : G → V
  loc : ∀ {g H H'}, (∀ a, fp g a → H' a = H a) → ok g H → ok g H'
  dom : ∀ {g H a}, ok g H → fp g a → H a ≠ none
/-- none -/
def G0 : Gs Unit := ⟨fun _ _ => False, fun _ _ => True, fun _ => .non, fun _ _ => trivial, fun _ h => h.elim⟩

/-! ### containers of one's own: a list or a dict of data that stands; a list of such -/
inductive T1 where
  | lf (d : D) | ls (xs : List D) | dc (kvs : List (Key × D)) | lk (kvs : List (Key × D))
def T1.own : T1 → Bool
  | .lf _ => false
  | _ => true
/-- a record: an instance of a class of one's own, a dict of texts -/
inductive RK where
  | ob (C : Addr) (ns : List Str) | dt (ns : List Str)
def RK.ns : RK → List Str
  | .ob _ ns => ns
  | .dt ns => ns
def RecAt (H : Hp) (p : Addr) : RK → List V → Prop
  | .ob C ns, vs => vs.length = ns.length ∧ ∃ dx, H p = some (.ins C dx (ns.zip vs)) ∧ H dx = some (.own p)
  | .dt ns, vs => vs.length = ns.length ∧ H p = some (.dK ((ns.map Sum.inr).zip vs))
/-- the record's own places: itself, its dict -/
def RecFp (H : Hp) (p a : Addr) : Prop := a = p ∨ ∃ C fs, H p = some (.ins C a fs)
inductive T2 where
  | one (t : T1) | ls (ts : List T1) | rc (p : Addr) (k : RK) (ts : List T1)
theorem zip_inj {α β : Type} : ∀ {ns : List α} {vs us : List β}, vs.length = ns.length → us.length = ns.length → ns.zip vs = ns.zip us → vs = us
  | [], [], [], _, _, _ => rfl
  | n :: ns, v :: vs, u :: us, h1, h2, h => by
    rw [List.zip_cons_cons, List.zip_cons_cons] at h
    obtain ⟨e1, e2⟩ := List.cons.inj h
    rw [(Prod.mk.inj e1).2, zip_inj (by simpa using h1) (by simpa using h2) e2]
theorem RecAt.uni {H : Hp} {p : Addr} {k : RK} {vs us : List V} (h : RecAt H p k vs) (h' : RecAt H p k us) : vs = us := by
  cases k with
  | ob C ns =>
    obtain ⟨l, dx, e, _⟩ := h
    obtain ⟨l', dx', e', _⟩ := h'
    rw [e] at e'
    injection e' with e'
    injection e' with e1 e2 e3
    exact zip_inj l l' e3
  | dt ns =>
    obtain ⟨l, e⟩ := h
    obtain ⟨l', e'⟩ := h'
    rw [e] at e'
    injection e' with e'
    injection e' with e'
    exact zip_inj (ns := ns.map Sum.inr) (by rw [List.length_map]; exact l) (by rw [List.length_map]; exact l') e'
theorem RecAt.len {H : Hp} {p : Addr} {k : RK} {vs : List V} (h : RecAt H p k vs) : vs.length = k.ns.length := by
  cases k with
  | ob C ns => exact h.1
  | dt ns => exact h.1
theorem RecAt.dom {H : Hp} {p a : Addr} {k : RK} {vs : List V} (h : RecAt H p k vs) (f : RecFp H p a) : H a ≠ none := by
  cases k with
  | ob C ns =>
    obtain ⟨l, dx, e, ed⟩ := h
    rcases f with rfl | ⟨C', fs, f⟩
    · rw [e]; simp
    · rw [e] at f
      cases f
      rw [ed]; simp
  | dt ns =>
    obtain ⟨l, e⟩ := h
    rcases f with rfl | ⟨C', fs, f⟩
    · rw [e]; simp
    · rw [e] at f; cases f
theorem RecAt.mono {H H' : Hp} {p : Addr} {k : RK} {vs : List V} (h : RecAt H p k vs) (hk : ∀ a, RecFp H p a → H' a = H a) : RecAt H' p k vs ∧ ∀ a, RecFp H' p a ↔ RecFp H p a := by
  have hp := hk p (.inl rfl)
  refine ⟨?_, fun a => by unfold RecFp; rw [hp]⟩
  cases k with
  | ob C ns =>
    obtain ⟨l, dx, e, ed⟩ := h
    exact ⟨l, dx, hp.trans e, (hk dx (.inr ⟨_, _, e⟩)).trans ed⟩
  | dt ns =>
    obtain ⟨l, e⟩ := h
    exact ⟨l, hp.trans e⟩
section
variable (K : PySem.W.Frag) (I H : Hp)
def T1Ok (v : V) : T1 → Prop
  | .lf d => Rp K I v d
  | .ls xs => ∃ p vs, v = .ref p ∧ H p = some (.lst vs) ∧ RpA K I vs xs ∧ xs.length ≤ sizeLine
  | .dc kvs => ∃ p vs, v = .ref p ∧ H p = some (.dK vs) ∧ vs.map (·.1) = kvs.map (·.1) ∧ RpA K I (vs.map (·.2)) (kvs.map (·.2)) ∧ kvs.length ≤ sizeLine
  | .lk kvs => ∃ p vs o, v = .ref p ∧ H p = some (.frz o (.dK vs)) ∧ vs.map (·.1) = kvs.map (·.1) ∧ RpA K I (vs.map (·.2)) (kvs.map (·.2)) ∧ kvs.length ≤ sizeLine
def T1.fp (t : T1) (v : V) (a : Addr) : Prop := t.own = true ∧ v = .ref a
def T2.fp (H : Hp) (v : V) : T2 → Addr → Prop
  | .one t, a => t.fp v a
  | .ls ts, a => v = .ref a ∨ ∃ (p : Addr) (vs : List V) (k : Nat) (u : V) (t : T1), v = .ref p ∧ H p = some (.lst vs) ∧ vs[k]? = some u ∧ ts[k]? = some t ∧ t.fp u a
  | .rc p k ts, a => RecFp H p a ∨ ∃ (vs : List V) (n : Nat) (u : V) (t : T1), RecAt H p k vs ∧ vs[n]? = some u ∧ ts[n]? = some t ∧ t.fp u a
def T2Ok (v : V) : T2 → Prop
  | .one t => T1Ok K I H v t
  | .ls ts => ∃ (p : Addr) (vs : List V), v = .ref p ∧ H p = some (.lst vs) ∧ vs.length = ts.length ∧ ts.length ≤ sizeLine ∧
      (∀ (k : Nat) (u : V) (t : T1), vs[k]? = some u → ts[k]? = some t → T1Ok K I H u t ∧ ¬ t.fp u p) ∧
      (∀ (k l : Nat) (u u' : V) (t t' : T1) (a : Addr), k ≠ l → vs[k]? = some u → vs[l]? = some u' → ts[k]? = some t → ts[l]? = some t' → t.fp u a → ¬ t'.fp u' a)
  | .rc p k ts => ∃ vs : List V, v = .ref p ∧ RecAt H p k vs ∧ vs.length = ts.length ∧ ts.length ≤ 100 ∧ k.ns.Nodup ∧
      (∀ (k : Nat) (u : V) (t : T1), vs[k]? = some u → ts[k]? = some t → T1Ok K I H u t ∧ ∀ a, RecFp H p a → ¬ t.fp u a) ∧
      (∀ (k l : Nat) (u u' : V) (t t' : T1) (a : Addr), k ≠ l → vs[k]? = some u → vs[l]? = some u' → ts[k]? = some t → ts[l]? = some t' → t.fp u a → ¬ t'.fp u' a)
end
section
variable {K : PySem.W.Frag} {I I' H H' : Hp} {v : V}
theorem T1Ok.mono {t : T1} (e : Same I I') (h : T1Ok K I H v t) (hk : ∀ a, t.fp v a → H' a = H a) : T1Ok K I' H' v t := by
  cases t with
  | lf d => exact Rp.mono e h
  | ls xs => obtain ⟨p, vs, rfl, hp, r, z⟩ := h; exact ⟨p, vs, rfl, (hk p ⟨rfl, rfl⟩).trans hp, r.mono e, z⟩
  | dc kvs => obtain ⟨p, vs, rfl, hp, hs, r, z⟩ := h; exact ⟨p, vs, rfl, (hk p ⟨rfl, rfl⟩).trans hp, hs, r.mono e, z⟩
  | lk kvs => obtain ⟨p, vs, o, rfl, hp, hs, r, z⟩ := h; exact ⟨p, vs, o, rfl, (hk p ⟨rfl, rfl⟩).trans hp, hs, r.mono e, z⟩
theorem T1Ok.dom {t : T1} {a : Addr} (h : T1Ok K I H v t) (f : t.fp v a) : H a ≠ none := by
  obtain ⟨f1, rfl⟩ := f
  cases t with
  | lf d => cases f1
  | ls xs => obtain ⟨p, vs, e, hp, _⟩ := h; cases e; rw [hp]; simp
  | dc kvs => obtain ⟨p, vs, e, hp, _⟩ := h; cases e; rw [hp]; simp
  | lk kvs => obtain ⟨p, vs, o, e, hp, _⟩ := h; cases e; rw [hp]; simp
theorem T2Ok.dom {t : T2} {a : Addr} (h : T2Ok K I H v t) (f : t.fp H v a) : H a ≠ none := by
  cases t with
  | one t => exact T1Ok.dom h f
  | ls ts =>
    obtain ⟨p, vs, rfl, hp, hl, hz, h1, h2⟩ := h
    rcases f with f | ⟨q, us, k, u, t, e, hq, hu, ht, f⟩
    · cases f; rw [hp]; simp
    · cases e
      rw [hp] at hq; cases hq
      exact (h1 k u t hu ht).1.dom f
  | rc p k ts =>
    obtain ⟨vs, rfl, hp, hl, hz, hn, h1, h2⟩ := h
    rcases f with f | ⟨us, n, u, t, hq, hu, ht, f⟩
    · exact hp.dom f
    · rw [hq.uni hp] at hu
      exact (h1 n u t hu ht).1.dom f
theorem T2Ok.mono {t : T2} (e : Same I I') (h : T2Ok K I H v t) (hk : ∀ a, t.fp H v a → H' a = H a) : T2Ok K I' H' v t ∧ ∀ a, t.fp H' v a ↔ t.fp H v a := by
  cases t with
  | one t => exact ⟨T1Ok.mono e h hk, fun _ => Iff.rfl⟩
  | ls ts =>
    obtain ⟨p, vs, rfl, hp, hl, hz, h1, h2⟩ := h
    have hp' : H' p = some (.lst vs) := (hk p (.inl rfl)).trans hp
    refine ⟨⟨p, vs, rfl, hp', hl, hz, fun k u t hu ht => ⟨(h1 k u t hu ht).1.mono e fun a f => hk a (.inr ⟨p, vs, k, u, t, rfl, hp, hu, ht, f⟩), (h1 k u t hu ht).2⟩, h2⟩, fun a => ?_⟩
    constructor
    · rintro (f | ⟨q, us, k, u, t, e, hq, hu, ht, f⟩)
      · exact .inl f
      · cases e
        rw [hp'] at hq; cases hq
        exact .inr ⟨p, vs, k, u, t, rfl, hp, hu, ht, f⟩
    · rintro (f | ⟨q, us, k, u, t, e, hq, hu, ht, f⟩)
      · exact .inl f
      · cases e
        rw [hp] at hq; cases hq
        exact .inr ⟨p, vs, k, u, t, rfl, hp', hu, ht, f⟩
  | rc p k ts =>
    obtain ⟨vs, rfl, hp, hl, hz, hn, h1, h2⟩ := h
    obtain ⟨hp', rf⟩ := hp.mono (H' := H') fun a f => hk a (.inl f)
    refine ⟨⟨vs, rfl, hp', hl, hz, hn, fun k u t hu ht => ⟨(h1 k u t hu ht).1.mono e fun a f => hk a (.inr ⟨vs, k, u, t, hp, hu, ht, f⟩), fun a f => (h1 k u t hu ht).2 a ((rf a).mp f)⟩, h2⟩, fun a => ?_⟩
    constructor
    · rintro (f | ⟨us, n, u, t, hq, hu, ht, f⟩)
      · exact .inl ((rf a).mp f)
      · rw [hq.uni hp'] at hu
        exact .inr ⟨vs, n, u, t, hp, hu, ht, f⟩
    · rintro (f | ⟨us, n, u, t, hq, hu, ht, f⟩)
      · exact .inl ((rf a).mpr f)
      · rw [hq.uni hp] at hu
        exact .inr ⟨vs, n, u, t, hp', hu, ht, f⟩
end
/-- what a slot holds: nothing that is known, data that stands, a list of one's own, the ghost state's root, a value as it is, a container of one's own -/
inductive SV where
  | un | sh (d : D) | ow (ds : List D) | st | raw (v : V) | kd (kvs : List (Str × D)) | tr (t : T2) | fz (kvs : List (Key × D)) | fl (kss : List (List (Key × D))) | rz (k : RK) (ts : List T1)
abbrev Env := List SV
abbrev Env.at (env : Env) (i : Nat) : SV := env.getD i .un
/-- the world: what is to be kept, what was known at the entry, what is known to stand, the ghost's places, its root -/
structure Wd where
  H0 : Hp
  I0 : Hp
  I : Hp
  fp : Addr → Prop
  rt : V
abbrev Wd.im (w : Wd) (I : Hp) : Wd := { w with I := I }

/-- a dict of texts that stands: its keys in order, its values' data -/
def KdOk (K : PySem.W.Frag) (I : Hp) (v : V) (kvs : List (Str × D)) : Prop := ∃ a vs, v = .ref a ∧ I a = some (.dK vs) ∧ vs.map (·.1) = kvs.map (fun p => Sum.inr p.1) ∧ RpA K I (vs.map (·.2)) (kvs.map (·.2))
theorem KdOk.mono {K : PySem.W.Frag} {I I' : Hp} (e : Same I I') {v : V} {kvs : List (Str × D)} (h : KdOk K I v kvs) : KdOk K I' v kvs := by
  obtain ⟨a, vs, e1, e2, e3, r⟩ := h
  exact ⟨a, vs, e1, e _ _ e2, e3, r.mono e⟩
/-- a dict that is locked; a list of such, that stands -/
def FzOk (K : PySem.W.Frag) (I : Hp) (v : V) (kvs : List (Key × D)) : Prop := ∃ a vs o, v = .ref a ∧ I a = some (.frz o (.dK vs)) ∧ vs.map (·.1) = kvs.map (·.1) ∧ RpA K I (vs.map (·.2)) (kvs.map (·.2)) ∧ kvs.length ≤ sizeLine
theorem FzOk.mono {K : PySem.W.Frag} {I I' : Hp} (e : Same I I') {v : V} {kvs : List (Key × D)} (h : FzOk K I v kvs) : FzOk K I' v kvs := by
  obtain ⟨a, vs, o, e1, e2, e3, r, z⟩ := h
  exact ⟨a, vs, o, e1, e _ _ e2, e3, r.mono e, z⟩
def FlOk (K : PySem.W.Frag) (I : Hp) (v : V) (kss : List (List (Key × D))) : Prop := ∃ a us, v = .ref a ∧ I a = some (.lst us) ∧ us.length = kss.length ∧ kss.length ≤ sizeLine ∧ ∀ (k : Nat) (u : V) (kvs : List (Key × D)), us[k]? = some u → kss[k]? = some kvs → FzOk K I u kvs
theorem FlOk.mono {K : PySem.W.Frag} {I I' : Hp} (e : Same I I') {v : V} {kss : List (List (Key × D))} (h : FlOk K I v kss) : FlOk K I' v kss := by
  obtain ⟨a, us, e1, e2, e3, z, r⟩ := h
  exact ⟨a, us, e1, e _ _ e2, e3, z, fun k u kvs h1 h2 => (r k u kvs h1 h2).mono e⟩
/-- a record that is locked, and what it holds -/
def T1Z (K : PySem.W.Frag) (I : Hp) (u : V) : T1 → Prop
  | .lf d => Rp K I u d
  | .ls xs => ∃ q ws o, u = .ref q ∧ I q = some (.frz o (.lst ws)) ∧ RpA K I ws xs ∧ xs.length ≤ sizeLine
  | .dc kvs => FzOk K I u kvs
  | .lk _ => False
theorem T1Z.mono {K : PySem.W.Frag} {I I' : Hp} (e : Same I I') {u : V} {t : T1} (h : T1Z K I u t) : T1Z K I' u t := by
  cases t with
  | lf d => exact Rp.mono e h
  | ls xs => obtain ⟨q, ws, o, e1, e2, r, z⟩ := h; exact ⟨q, ws, o, e1, e _ _ e2, r.mono e, z⟩
  | dc kvs => exact FzOk.mono e h
  | lk kvs => exact h.elim
def RzOk (K : PySem.W.Frag) (I : Hp) (v : V) (k : RK) (ts : List T1) : Prop := ∃ (p : Addr) (vs : List V), v = .ref p ∧ RecAt I p k vs ∧ vs.length = ts.length ∧ k.ns.Nodup ∧ ∀ (n : Nat) (u : V) (t : T1), vs[n]? = some u → ts[n]? = some t → T1Z K I u t
theorem RecAt.sub {I I' : Hp} (e : Same I I') {p : Addr} {k : RK} {vs : List V} (h : RecAt I p k vs) : RecAt I' p k vs := by
  cases k with
  | ob C ns => obtain ⟨l, dx, e1, e2⟩ := h; exact ⟨l, dx, e _ _ e1, e _ _ e2⟩
  | dt ns => obtain ⟨l, e1⟩ := h; exact ⟨l, e _ _ e1⟩
theorem RzOk.mono {K : PySem.W.Frag} {I I' : Hp} (e : Same I I') {v : V} {k : RK} {ts : List T1} (h : RzOk K I v k ts) : RzOk K I' v k ts := by
  obtain ⟨p, vs, e1, e2, l, nd, r⟩ := h
  exact ⟨p, vs, e1, e2.sub e, l, nd, fun n u t h1 h2 => (r n u t h1 h2).mono e⟩
def SlotOk (K : PySem.W.Frag) (w : Wd) (σ : St) (H : Hp) (i : Nat) : SV → Prop
  | .un => True
  | .sh d => ∃ v, σ[i]? = some (some v) ∧ Rp K w.I v d
  | .kd kvs => ∃ v, σ[i]? = some (some v) ∧ KdOk K w.I v kvs
  | .fz kvs => ∃ v, σ[i]? = some (some v) ∧ FzOk K w.I v kvs
  | .fl kss => ∃ v, σ[i]? = some (some v) ∧ FlOk K w.I v kss
  | .rz k ts => ∃ v, σ[i]? = some (some v) ∧ RzOk K w.I v k ts
  | .st => σ[i]? = some (some w.rt)
  | .raw v => σ[i]? = some (some v)
  | .ow ds => ∃ p vs, σ[i]? = some (some (.ref p)) ∧ H p = some (.lst vs) ∧ w.I p = none ∧ w.H0 p = none ∧ ¬ w.fp p ∧ RpA K w.I vs ds ∧ ds.length ≤ sizeLine
  | .tr t => ∃ v, σ[i]? = some (some v) ∧ T2Ok K w.I H v t ∧ ∀ a, t.fp H v a → w.I a = none ∧ w.H0 a = none ∧ ¬ w.fp a
/-- the places that a slot owns -/
def fpt (H : Hp) (σ : St) (i : Nat) : SV → Addr → Prop
  | .ow _, a => σ[i]? = some (some (.ref a))
  | .tr t, a => ∃ v, σ[i]? = some (some v) ∧ t.fp H v a
  | _, _ => False

structure Rel {G : Type} (K : PySem.W.Frag) (S : Gs G) (w : Wd) (env : Env) (g : G) (σ : St) (H : Hp) : Prop where
  e0 : Same w.H0 H
  eI : Same w.I H
  ag : ∀ a o, w.H0 a = some o → w.I a = w.I0 a
  ge : Same w.I0 w.I
  gfp : ∀ a, S.fp g a ↔ w.fp a
  grt : S.root g = w.rt
  gok : S.ok g H
  fI : ∀ a, w.fp a → w.I a = none
  f0 : ∀ a, w.fp a → w.H0 a = none
  len : σ.length = env.length
  slot : ∀ i, SlotOk K w σ H i (env.at i)
  dis : ∀ i j a, i ≠ j → fpt H σ i (env.at i) a → ¬ fpt H σ j (env.at j) a
/-- what a slot owns is nobody else's -/
theorem SlotOk.fr {K : PySem.W.Frag} {w : Wd} {σ : St} {H : Hp} {i : Nat} {sv : SV} {a : Addr} (h : SlotOk K w σ H i sv) (f : fpt H σ i sv a) : w.I a = none ∧ w.H0 a = none ∧ ¬ w.fp a ∧ H a ≠ none := by
  cases sv with
  | ow ds =>
    obtain ⟨p, vs, e, hp, hi, h0, hf, _⟩ := h
    have f : σ[i]? = some (some (.ref a)) := f
    rw [e] at f; cases f
    exact ⟨hi, h0, hf, by rw [hp]; simp⟩
  | tr t =>
    obtain ⟨v, e, ok, k⟩ := h
    obtain ⟨u, f1, f2⟩ := f
    rw [e] at f1; cases f1
    obtain ⟨a1, a2, a3⟩ := k a f2
    exact ⟨a1, a2, a3, ok.dom f2⟩
  | _ => exact f.elim
/-- a slot stays -/
theorem SlotOk.keep {K : PySem.W.Frag} {w w' : Wd} {σ σ' : St} {H H' : Hp} {i : Nat} {sv : SV} (h : SlotOk K w σ H i sv) (hs : σ'[i]? = σ[i]?) (eI : Same w.I w'.I) (rt : w'.rt = w.rt) (k : ∀ a, fpt H σ i sv a → H' a = H a ∧ w'.I a = none ∧ w'.H0 a = none ∧ ¬ w'.fp a) : SlotOk K w' σ' H' i sv ∧ ∀ a, fpt H' σ' i sv a ↔ fpt H σ i sv a := by
  cases sv with
  | un => exact ⟨trivial, fun _ => Iff.rfl⟩
  | sh d => obtain ⟨v, e, r⟩ := h; exact ⟨⟨v, hs.trans e, r.mono eI⟩, fun _ => Iff.rfl⟩
  | kd d => obtain ⟨v, e, r⟩ := h; exact ⟨⟨v, hs.trans e, r.mono eI⟩, fun _ => Iff.rfl⟩
  | fz d => obtain ⟨v, e, r⟩ := h; exact ⟨⟨v, hs.trans e, r.mono eI⟩, fun _ => Iff.rfl⟩
  | fl d => obtain ⟨v, e, r⟩ := h; exact ⟨⟨v, hs.trans e, r.mono eI⟩, fun _ => Iff.rfl⟩
  | rz k ts => obtain ⟨v, e, r⟩ := h; exact ⟨⟨v, hs.trans e, r.mono eI⟩, fun _ => Iff.rfl⟩
  | st => exact ⟨hs.trans (Eq.trans h (by rw [rt])), fun _ => Iff.rfl⟩
  | raw v => exact ⟨hs.trans h, fun _ => Iff.rfl⟩
  | ow ds =>
    obtain ⟨p, vs, e, hp, hi, h0, hf, r, z⟩ := h
    obtain ⟨k1, k2, k3, k4⟩ := k p e
    exact ⟨⟨p, vs, hs.trans e, k1.trans hp, k2, k3, k4, r.mono eI, z⟩, fun a => by show σ'[i]? = _ ↔ σ[i]? = _; rw [hs]⟩
  | tr t =>
    obtain ⟨v, e, ok, q⟩ := h
    obtain ⟨m1, m2⟩ := ok.mono eI (H' := H') fun a f => (k a ⟨v, e, f⟩).1
    refine ⟨⟨v, hs.trans e, m1, fun a f => (k a ⟨v, e, (m2 a).mp f⟩).2⟩, fun a => ?_⟩
    constructor
    · rintro ⟨u, e1, f⟩
      rw [hs, e] at e1; cases e1
      exact ⟨v, e, (m2 a).mp f⟩
    · rintro ⟨u, e1, f⟩
      rw [e] at e1; cases e1
      exact ⟨v, hs.trans e, (m2 a).mpr f⟩
section
variable {G : Type} {K : PySem.W.Frag} {S : Gs G} {w : Wd} {env : Env} {g g' : G} {σ : St} {H H' I' : Hp}
/-- all slots stay -/
theorem Rel.keepS {w' : Wd} (R : Rel K S w env g σ H) (eI : Same w.I w'.I) (rt : w'.rt = w.rt) (k : ∀ i a, fpt H σ i (env.at i) a → H' a = H a ∧ w'.I a = none ∧ w'.H0 a = none ∧ ¬ w'.fp a) :
    (∀ i, SlotOk K w' σ H' i (env.at i)) ∧ ∀ i j a, i ≠ j → fpt H' σ i (env.at i) a → ¬ fpt H' σ j (env.at j) a := by
  have q := fun i => (R.slot i).keep (σ' := σ) (w' := w') (H' := H') rfl eI rt (k i)
  exact ⟨fun i => (q i).1, fun i j a n f1 f2 => R.dis i j a n (((q i).2 a).mp f1) (((q j).2 a).mp f2)⟩
theorem Pst.keep (p : Pst w.I H I' H') {a : Addr} (h : H a ≠ none) : H' a = H a := by
  cases e : H a with
  | none => exact absurd e h
  | some o => exact p.eH a o e
theorem Rel.pst (R : Rel K S w env g σ H) (p : Pst w.I H I' H') : Rel K S (w.im I') env g σ H' := by
  obtain ⟨s1, s2⟩ := R.keepS (w' := w.im I') (H' := H') p.eI rfl fun i a f => by
    obtain ⟨a1, a2, a3, a4⟩ := (R.slot i).fr f
    exact ⟨p.keep a4, (p.ag a a4).trans a1, a2, a3⟩
  exact {
    e0 := R.e0.trans p.eH
    eI := p.sub
    ag := fun a o e => (p.ag a (by rw [R.e0 a o e]; simp)).trans (R.ag a o e)
    ge := R.ge.trans p.eI
    gfp := R.gfp
    grt := R.grt
    gok := S.loc (fun a ha => by
      cases q : H a with
      | none => exact absurd q (S.dom R.gok ha)
      | some o => exact p.eH a o q) R.gok
    fI := fun a ha => (p.ag a (S.dom R.gok ((R.gfp a).mpr ha))).trans (R.fI a ha)
    f0 := R.f0
    len := R.len
    slot := s1
    dis := s2 }
/-- a new object comes, that nothing knows of -/
theorem Rel.alloc {p : Addr} {o : HO} (R : Rel K S w env g σ H) (h : H p = none) : Rel K S w env g σ (upd H p o) :=
  R.pst (I' := w.I) ⟨Same.refl _, same_new h, R.eI.trans (same_new h), fun _ _ => rfl⟩
/-- p is nobody's -/
structure Nob (w : Wd) (env : Env) (σ : St) (H : Hp) (p : Addr) : Prop where
  i : w.I p = none
  h0 : w.H0 p = none
  f : ¬ w.fp p
  o : ∀ i, ¬ fpt H σ i (env.at i) p
theorem Rel.nob0 {p : Addr} (R : Rel K S w env g σ H) (h : H p = none) : Nob w env σ H p where
  i := R.eI.free h
  h0 := R.e0.free h
  f := fun z => S.dom R.gok ((R.gfp p).mpr z) h
  o := fun i f => ((R.slot i).fr f).2.2.2 h
/-- .. in a heap that knows more -/
theorem Nob.pst {p : Addr} (R : Rel K S w env g σ H) (n : Nob w env σ H p) (q : Pst w.I H I' H') (hi : I' p = none) : Nob (w.im I') env σ H' p where
  i := hi
  h0 := n.h0
  f := n.f
  o := fun i f => n.o i (((R.slot i).keep (σ' := σ) (w' := w.im I') (H' := H') rfl q.eI rfl (fun a f => by
    obtain ⟨a1, a2, a3, a4⟩ := (R.slot i).fr f
    exact ⟨q.keep a4, (q.ag a a4).trans a1, a2, a3⟩)).2 p |>.mp f)
theorem Rel.nobP {p : Addr} (R : Rel K S w env g σ H) (h : H p = none) (q : Pst w.I H I' H') (hi : I' p = none) : Nob (w.im I') env σ H' p := Nob.pst R (R.nob0 h) q hi
theorem Rel.nobS {p : Addr} (R : Rel K S w env g σ H) (h : H p = none) (s : Same H H') : Nob w env σ H' p := Nob.pst (I' := w.I) R (R.nob0 h) ⟨Same.refl _, s, R.eI.trans s, fun _ _ => rfl⟩ (R.eI.free h)
theorem Rel.nob {p : Addr} {o : HO} (R : Rel K S w env g σ H) (h : H p = none) : Nob w env σ (upd H p o) p :=
  Nob.pst (I' := w.I) R (R.nob0 h) ⟨Same.refl _, same_new h, R.eI.trans (same_new h), fun _ _ => rfl⟩ (R.eI.free h)
/-- nobody's object is from now on one that stands -/
theorem Rel.freeze {p : Addr} {o : HO} (R : Rel K S w env g σ H) (n : Nob w env σ H p) (h : H p = some o) : Rel K S (w.im (upd w.I p o)) env g σ H := by
  obtain ⟨s1, s2⟩ := R.keepS (w' := w.im (upd w.I p o)) (H' := H) (same_new n.i) rfl fun i a f => by
    obtain ⟨a1, a2, a3, a4⟩ := (R.slot i).fr f
    have ne : a ≠ p := fun z => n.o i (z ▸ f)
    exact ⟨rfl, (upd_ne ne).trans a1, a2, a3⟩
  exact {
    e0 := R.e0
    eI := fun b u q => by
      have q : upd w.I p o b = some u := q
      by_cases z : b = p
      · subst z; rw [upd_same] at q; rw [h]; exact q
      · rw [upd_ne z] at q; exact R.eI b u q
    ag := fun a u e => by
      have z : a ≠ p := fun z => by rw [z, n.h0] at e; cases e
      exact (upd_ne z).trans (R.ag a u e)
    ge := R.ge.trans (same_new n.i)
    gfp := R.gfp
    grt := R.grt
    gok := R.gok
    fI := fun a ha => by
      have z : a ≠ p := fun z => n.f (z ▸ ha)
      exact (upd_ne z).trans (R.fI a ha)
    f0 := R.f0
    len := R.len
    slot := s1
    dis := s2 }
end
end Pd

/-! Pd: expressions and tests. -/
namespace Pd
open PySem PySem.Spec L2

/-! ### readings by data -/
abbrev ME (G : Type) := Env → G → Option (D × G)
abbrev ML (G : Type) := Env → G → Option (List D × G)
abbrev MT (G : Type) := Env → G → Option (Bool × G)

def tE {G : Type} (K : PySem.W.Frag) (S : Gs G) (m : ME G) : TE := fun σ H Q => ∃ w env g d g', Rel K S w env g σ H ∧ m env g = some (d, g') ∧
  ∀ v I' H', Same w.I I' → Rel K S (w.im I') env g' σ H' → Rp K I' v d → Q v H'
/-- a new list, that nothing knows of -/
def tF {G : Type} (K : PySem.W.Frag) (S : Gs G) (m : ML G) : TE := fun σ H Q => ∃ w env g ds g', Rel K S w env g σ H ∧ m env g = some (ds, g') ∧
  ∀ p vs I' H', Same w.I I' → Rel K S (w.im I') env g' σ H' → Nob (w.im I') env σ H' p → H' p = some (.lst vs) → RpA K I' vs ds → ds.length ≤ sizeLine → Q (.ref p) H'
def tT {G : Type} (K : PySem.W.Frag) (S : Gs G) (m : MT G) : TT := fun σ H Q => ∃ w env g b g', Rel K S w env g σ H ∧ m env g = some (b, g') ∧
  ∀ I' H', Same w.I I' → Rel K S (w.im I') env g' σ H' → Q b H'
def tA {G : Type} (K : PySem.W.Frag) (S : Gs G) (m : ML G) : TA := fun σ H Q => ∃ w env g ds g', Rel K S w env g σ H ∧ m env g = some (ds, g') ∧
  ∀ vs I' H', Same w.I I' → Rel K S (w.im I') env g' σ H' → RpA K I' vs ds → Q vs H'

abbrev DE {G : Type} (X : Cx) (S : Gs G) (e : Expr) (m : ME G) : Prop := PE X e (tE X.K S m)
abbrev DF {G : Type} (X : Cx) (S : Gs G) (e : Expr) (m : ML G) : Prop := PE X e (tF X.K S m)
abbrev DT {G : Type} (X : Cx) (S : Gs G) (e : Expr) (m : MT G) : Prop := PT X e (tT X.K S m)
abbrev DW {G : Type} (X : Cx) (S : Gs G) (e : Expr) (m : MT G) : Prop := PW X e (tT X.K S m)
abbrev DA {G : Type} (X : Cx) (S : Gs G) (es : List Expr) (m : ML G) : Prop := PA X es (tA X.K S m)

theorem PE.imp {X : Cx} {e : Expr} {t t' : TE} (h : PE X e t) (i : ∀ σ H Q, t' σ H Q → t σ H Q) : PE X e t' := ⟨fun pins s σ H Q I q => h.run pins s σ H Q I (i _ _ _ q)⟩
theorem PT.imp {X : Cx} {e : Expr} {t t' : TT} (h : PT X e t) (i : ∀ σ H Q, t' σ H Q → t σ H Q) : PT X e t' := ⟨fun pins s σ H Q I q => h.run pins s σ H Q I (i _ _ _ q)⟩
theorem PW.imp {X : Cx} {e : Expr} {t t' : TT} (h : PW X e t) (i : ∀ σ H Q, t' σ H Q → t σ H Q) : PW X e t' := ⟨fun wh pins s σ H Q I q => h.run wh pins s σ H Q I (i _ _ _ q)⟩
theorem PA.imp {X : Cx} {e : List Expr} {t t' : TA} (h : PA X e t) (i : ∀ σ H Q, t' σ H Q → t σ H Q) : PA X e t' := ⟨fun pos pins s σ H Q I q => h.run pos pins s σ H Q I (i _ _ _ q)⟩
theorem PS.imp {X : Cx} {e : Stmt} {t t' : TS} (h : PS X e t) (i : ∀ D σ H, t' D σ H → t D σ H) : PS X e t' := ⟨fun pins s σ H D I q => h.run pins s σ H D I (i _ _ _ q)⟩
theorem PSs.imp {X : Cx} {e : List Stmt} {t t' : TS} (h : PSs X e t) (i : ∀ D σ H, t' D σ H → t D σ H) : PSs X e t' := ⟨fun pins s σ H D I q => h.run pins s σ H D I (i _ _ _ q)⟩

section
variable {G : Type} {X : Cx} {S : Gs G} {a b c e : Expr} {es : List Expr} {pos : Pos} {ma mb mc : ME G} {mt mu : MT G} {ml : ML G}

/-! ### bind, in the order of reading -/
@[reducible] def bD {α β G : Type} (x : Option (α × G)) (f : α → G → Option β) : Option β := match x with
  | some (a, g) => f a g
  | none => none
theorem bD_some {α β : Type} {x : Option (α × G)} {f : α → G → Option β} {y : β} (h : bD x f = some y) : ∃ a g, x = some (a, g) ∧ f a g = some y := by
  cases x with
  | none => cases h
  | some p => obtain ⟨a, g⟩ := p; exact ⟨a, g, rfl, h⟩

/-! ### names, constants -/
def mVar (i : Nat) : ME G := fun env g => match env.at i with
  | .sh d => some (d, g)
  | _ => none
def mC (d : D) : ME G := fun _ g => some (d, g)
theorem te_var {i : Nat} {σ : St} {H : Hp} {Q : VK} (h : tE X.K S (mVar i) σ H Q) : tVar i σ H Q := by
  obtain ⟨w, env, g, d, g', R, e, k⟩ := h
  have q := R.slot i
  unfold mVar at e
  cases z : env.at i with
  | sh d' =>
    rw [z] at e q
    obtain ⟨v, e1, r⟩ := q
    cases e
    exact ⟨v, e1, k v w.I H (Same.refl _) R r⟩
  | _ => rw [z] at e; cases e
theorem de_var (i : Nat) {x : Str} (hN : X.N[i]? = some x := by rfl) (hv : Vis X.env.scope x := by first | exact Or.inl rfl | exact Or.inr (Or.inl rfl) | exact Or.inr (Or.inr rfl)) (hd : (x == ("__debug__" : Str)) = false := by decide)
    (hcd : (x == ("__classdict__" : Str)) = false := by decide) : DE X S (.Name x pos) (mVar i) := PE.imp (pe_var hN hv hd hcd) fun _ _ _ h => te_var h
theorem te_c {v : V} {d : D} (r : ∀ H, Rp X.K H v d) {σ : St} {H : Hp} {Q : VK} (h : tE X.K S (mC d) σ H Q) : tC v σ H Q := by
  obtain ⟨w, env, g, d, g', R, e, k⟩ := h
  cases e
  exact k v w.I H (Same.refl _) R (r _)
theorem de_int {i : Int} {j} : DE X S (.Constant (.int i) j pos) (mC (.int i)) := PE.imp pe_int fun _ _ _ h => te_c (fun _ => .int i) h
theorem de_bl {i : Bool} {j} : DE X S (.Constant (.bool i) j pos) (mC (.bool i)) := PE.imp pe_bl fun _ _ _ h => te_c (fun _ => .bl i) h
theorem de_non {j} : DE X S (.Constant .none j pos) (mC .none) := PE.imp pe_non fun _ _ _ h => te_c (fun _ => .non) h
theorem de_str {x : Str} {j} (h : SOk x := by exact ⟨by decide +kernel, by decide +kernel⟩) : DE X S (.Constant (.str x) j pos) (mC (.str x)) := PE.imp pe_str fun _ _ _ q => te_c (fun _ => .str h) q
/-- a module's constant -/
theorem de_glob {x : Str} {v : V} {u : Value} {d : D} (hg : Gl X x) (hm : X.mg x = some u) (r : RelV v u) (hd : ∀ H, Rp X.K H v d) (hdb : (x == ("__debug__" : Str)) = false := by decide) : DE X S (.Name x pos) (mC d) :=
  PE.imp (pe_glob hg hm r hdb) fun _ _ _ h => te_c hd h

/-! ### operations by values -/
def OpD (K : PySem.W.Frag) (r : R2) (f : D → D → Option D) : Prop := ∀ {I H : Hp} {x y : V} {d e z : D}, Same I H → Rp K I x d → Rp K I y e → f d e = some z →
  ∀ {Q : VK}, (∀ v I' H', Pst I H I' H' → Rp K I' v z → Q v H') → r x y H Q
def UnD (K : PySem.W.Frag) (r : V → Hp → VK → Prop) (f : D → Option D) : Prop := ∀ {I H : Hp} {x : V} {d z : D}, Same I H → Rp K I x d → f d = some z →
  ∀ {Q : VK}, (∀ v I' H', Pst I H I' H' → Rp K I' v z → Q v H') → r x H Q
def CallD (K : PySem.W.Frag) (r : List V → Hp → VK → Prop) (f : List D → Option D) : Prop := ∀ {I H : Hp} {xs : List V} {ds : List D} {z : D}, Same I H → RpA K I xs ds → f ds = some z →
  ∀ {Q : VK}, (∀ v I' H', Pst I H I' H' → Rp K I' v z → Q v H') → r xs H Q
/-- .. a new list -/
def CallF (K : PySem.W.Frag) (r : List V → Hp → VK → Prop) (f : List D → Option (List D)) : Prop := ∀ {I H : Hp} {xs : List V} {ds zs : List D}, Same I H → RpA K I xs ds → f ds = some zs →
  ∀ {Q : VK}, (∀ p vs H', H p = none → Same H H' → H' p = some (.lst vs) → RpA K I vs zs → zs.length ≤ sizeLine → Q (.ref p) H') → r xs H Q
theorem OpD.or {K : PySem.W.Frag} {r r' : R2} {f f' : D → D → Option D} (h : OpD K r f) (h' : OpD K r' f') : OpD K (fun x y H Q => r x y H Q ∨ r' x y H Q) (fun d e => (f d e).orElse fun _ => f' d e) := by
  intro I H x y d e z s p q hz Q k
  have hz : ((f d e).orElse fun _ => f' d e) = some z := hz
  cases hf : f d e with
  | some u => rw [hf] at hz; cases hz; exact .inl (h s p q hf k)
  | none => rw [hf] at hz; exact .inr (h' s p q hz k)
theorem CallD.or {K : PySem.W.Frag} {r r' : List V → Hp → VK → Prop} {f f' : List D → Option D} (h : CallD K r f) (h' : CallD K r' f') : CallD K (fun x H Q => r x H Q ∨ r' x H Q) (fun d => (f d).orElse fun _ => f' d) := by
  intro I H x d z s p hz Q k
  have hz : ((f d).orElse fun _ => f' d) = some z := hz
  cases hf : f d with
  | some u => rw [hf] at hz; cases hz; exact .inl (h s p hf k)
  | none => rw [hf] at hz; exact .inr (h' s p hz k)

def mOp (f : D → D → Option D) (ma mb : ME G) : ME G := fun env g => bD (ma env g) fun x g1 => bD (mb env g1) fun y g2 => (f x y).map (·, g2)
def mUn (f : D → Option D) (ma : ME G) : ME G := fun env g => bD (ma env g) fun x g1 => (f x).map (·, g1)
def mCall (f : List D → Option D) (ml : ML G) : ME G := fun env g => bD (ml env g) fun xs g1 => (f xs).map (·, g1)
def mCallF (f : List D → Option (List D)) (ml : ML G) : ML G := fun env g => bD (ml env g) fun xs g1 => (f xs).map (·, g1)
theorem map_some {α β : Type} {x : Option α} {g g' : β} {z : α} (h : x.map (·, g) = some (z, g')) : x = some z ∧ g' = g := by
  cases x with
  | none => cases h
  | some y => cases h; exact ⟨rfl, rfl⟩
theorem te_op {r : R2} {f : D → D → Option D} (hf : OpD X.K r f) {σ : St} {H : Hp} {Q : VK} (h : tE X.K S (mOp f ma mb) σ H Q) : tOp r (tE X.K S ma) (tE X.K S mb) σ H Q := by
  obtain ⟨w, env, g, d, g', R, e, k⟩ := h
  obtain ⟨x, g1, e1, e⟩ := bD_some e
  obtain ⟨y, g2, e2, e⟩ := bD_some e
  obtain ⟨e3, rfl⟩ := map_some e
  refine ⟨w, env, g, x, g1, R, e1, fun v I1 H1 s1 R1 p1 => ⟨w.im I1, env, g1, y, g', R1, e2, fun u I2 H2 s2 R2 p2 => ?_⟩⟩
  exact hf R2.eI (p1.mono s2) p2 e3 fun v3 I3 H3 ps p3 => k v3 I3 H3 (s1.trans (s2.trans ps.eI)) (R2.pst ps) p3
theorem de_op {op : Operator} {r : R2} {f : D → D → Option D} (ho : OpR X (binaryOp op) r) (hf : OpD X.K r f) (ha : DE X S a ma) (hb : DE X S b mb) : DE X S (.BinOp a op b pos) (mOp f ma mb) :=
  PE.imp (pe_op ho ha hb) fun _ _ _ h => te_op hf h
theorem de_cmp {op : CmpOp} {r : R2} {f : D → D → Option D} (ho : OpR X (compareOp op) r) (hf : OpD X.K r f) (ha : DE X S a ma) (hb : DE X S b mb) (hm : behindInMarks op b = false) : DE X S (.Compare a [op] [b] pos) (mOp f ma mb) :=
  PE.imp (pe_cmpR ho ha hb hm) fun _ _ _ h => te_op hf h
theorem te_un {r : V → Hp → VK → Prop} {f : D → Option D} (hf : UnD X.K r f) {σ : St} {H : Hp} {Q : VK} (h : tE X.K S (mUn f ma) σ H Q) : tUn r (tE X.K S ma) σ H Q := by
  obtain ⟨w, env, g, d, g', R, e, k⟩ := h
  obtain ⟨x, g1, e1, e⟩ := bD_some e
  obtain ⟨e3, rfl⟩ := map_some e
  exact ⟨w, env, g, x, g', R, e1, fun v I1 H1 s1 R1 p1 => hf R1.eI p1 e3 fun v3 I3 H3 ps p3 => k v3 I3 H3 (s1.trans ps.eI) (R1.pst ps) p3⟩
theorem de_un {op : UnaryOp} {r : V → Hp → VK → Prop} {f : D → Option D} (ho : UnR X (unaryOp op) r) (hf : UnD X.K r f) (ha : DE X S a ma) : DE X S (.UnaryOp op a pos) (mUn f ma) :=
  PE.imp (pe_un ho ha) fun _ _ _ h => te_un hf h

/-! ### arguments -/
def mNil : ML G := fun _ g => some ([], g)
def mCons (ma : ME G) (ml : ML G) : ML G := fun env g => bD (ma env g) fun x g1 => bD (ml env g1) fun xs g2 => some (x :: xs, g2)
theorem da_nil : DA X S [] mNil := PA.imp pa_nil fun _ H _ ⟨w, _, _, _, _, R, e, k⟩ => by cases e; exact k [] w.I H (Same.refl _) R .nil
theorem da_cons (ha : DE X S e ma) (hr : DA X S es ml) (hs : starEach (e :: es) X.env = (false, eval e X.env) :: starEach es X.env := by rfl) : DA X S (e :: es) (mCons ma ml) := PA.imp (pa_cons ha hr hs) fun σ H Q h => by
  obtain ⟨w, env, g, d, g', R, e, k⟩ := h
  obtain ⟨x, g1, e1, e⟩ := bD_some e
  obtain ⟨y, g2, e2, e⟩ := bD_some e
  cases e
  exact ⟨w, env, g, x, g1, R, e1, fun v I1 H1 s1 R1 p1 => ⟨w.im I1, env, g1, y, g', R1, e2, fun vs I2 H2 s2 R2 p2 => k (v :: vs) I2 H2 (s1.trans s2) R2 (.cons (p1.mono s2) p2)⟩⟩
theorem te_call {r : List V → Hp → VK → Prop} {f : List D → Option D} (hf : CallD X.K r f) {σ : St} {H : Hp} {Q : VK} (h : tE X.K S (mCall f ml) σ H Q) : tCB r (tA X.K S ml) σ H Q := by
  obtain ⟨w, env, g, d, g', R, e, k⟩ := h
  obtain ⟨x, g1, e1, e⟩ := bD_some e
  obtain ⟨e3, rfl⟩ := map_some e
  exact ⟨w, env, g, x, g', R, e1, fun vs I1 H1 s1 R1 p1 => hf R1.eI p1 e3 fun v3 I3 H3 ps p3 => k v3 I3 H3 (s1.trans ps.eI) (R1.pst ps) p3⟩
theorem de_callB {x : Str} {id : String} {r : List V → Hp → VK → Prop} {f : List D → Option D} {p : Pos} (hc : CallR X (.builtin id) r) (hf : CallD X.K r f) (hg : Gl X x) (hm : X.mg x = none) (hv : bootBuiltins x = some (.builtin id)) (ha : DA X S (e :: es) ml)
    (hn : x ≠ "__name__" := by decide) (hdb : (x == ("__debug__" : Str)) = false := by decide)
    (he : starEach (e :: es) X.env = (false, eval e X.env) :: starEach es X.env := by rfl) (hpl : (backTo pos (starEach es X.env)).any (·.1) = false := by rfl) : DE X S (.Call (.Name x p) (e :: es) [] pos) (mCall f ml) :=
  PE.imp (pe_callB hc hg hm hv ha hn hdb he hpl) fun _ _ _ h => te_call hf h
theorem de_callTy {x : Str} {T : String} {r : List V → Hp → VK → Prop} {f : List D → Option D} {p : Pos} (hc : CallR X (.type T) r) (hf : CallD X.K r f) (hg : Gl X x) (hm : X.mg x = none) (hv : bootBuiltins x = some (.type T)) (ha : DA X S (e :: es) ml)
    (hn : x ≠ "__name__" := by decide) (hdb : (x == ("__debug__" : Str)) = false := by decide)
    (he : starEach (e :: es) X.env = (false, eval e X.env) :: starEach es X.env := by rfl) (hpl : (backTo pos (starEach es X.env)).any (·.1) = false := by rfl) : DE X S (.Call (.Name x p) (e :: es) [] pos) (mCall f ml) :=
  PE.imp (pe_callTy hc hg hm hv ha hn hdb he hpl) fun _ _ _ h => te_call hf h
/-- behind a fresh address nothing that is known has changed -/
theorem Rel.fresh {K : PySem.W.Frag} {w : Wd} {env : Env} {g : G} {σ : St} {H H' : Hp} {p : Addr} (R : Rel K S w env g σ H) (s : Same H H') : Rel K S w env g σ H' :=
  R.pst (I' := w.I) ⟨Same.refl _, s, R.eI.trans s, fun _ _ => rfl⟩
theorem tf_call {r : List V → Hp → VK → Prop} {f : List D → Option (List D)} (hf : CallF X.K r f) {σ : St} {H : Hp} {Q : VK} (h : tF X.K S (mCallF f ml) σ H Q) : tCB r (tA X.K S ml) σ H Q := by
  obtain ⟨w, env, g, d, g', R, e, k⟩ := h
  obtain ⟨x, g1, e1, e⟩ := bD_some e
  obtain ⟨e3, rfl⟩ := map_some e
  exact ⟨w, env, g, x, g', R, e1, fun vs I1 H1 s1 R1 p1 => hf R1.eI p1 e3 fun p us H3 h0 sm hp ra z => k p us I1 H3 s1 (Rel.fresh (p := p) R1 sm) (R1.nobS h0 sm) hp ra z⟩
theorem df_callB {x : Str} {id : String} {r : List V → Hp → VK → Prop} {f : List D → Option (List D)} {p : Pos} (hc : CallR X (.builtin id) r) (hf : CallF X.K r f) (hg : Gl X x) (hm : X.mg x = none) (hv : bootBuiltins x = some (.builtin id)) (ha : DA X S (e :: es) ml)
    (hn : x ≠ "__name__" := by decide) (hdb : (x == ("__debug__" : Str)) = false := by decide)
    (he : starEach (e :: es) X.env = (false, eval e X.env) :: starEach es X.env := by rfl) (hpl : (backTo pos (starEach es X.env)).any (·.1) = false := by rfl) : DF X S (.Call (.Name x p) (e :: es) [] pos) (mCallF f ml) :=
  PE.imp (pe_callB hc hg hm hv ha hn hdb he hpl) fun _ _ _ h => tf_call hf h
theorem df_callTy {x : Str} {T : String} {r : List V → Hp → VK → Prop} {f : List D → Option (List D)} {p : Pos} (hc : CallR X (.type T) r) (hf : CallF X.K r f) (hg : Gl X x) (hm : X.mg x = none) (hv : bootBuiltins x = some (.type T)) (ha : DA X S (e :: es) ml)
    (hn : x ≠ "__name__" := by decide) (hdb : (x == ("__debug__" : Str)) = false := by decide)
    (he : starEach (e :: es) X.env = (false, eval e X.env) :: starEach es X.env := by rfl) (hpl : (backTo pos (starEach es X.env)).any (·.1) = false := by rfl) : DF X S (.Call (.Name x p) (e :: es) [] pos) (mCallF f ml) :=
  PE.imp (pe_callTy hc hg hm hv ha hn hdb he hpl) fun _ _ _ h => tf_call hf h

/-! ### a new list as data -/
def mL (ml : ML G) : ME G := fun env g => bD (ml env g) fun ds g1 => some (.list ds, g1)
theorem te_fresh {σ : St} {H : Hp} {Q : VK} (h : tE X.K S (mL ml) σ H Q) : tF X.K S ml σ H Q := by
  obtain ⟨w, env, g, d, g', R, e, k⟩ := h
  obtain ⟨ds, g1, e1, e⟩ := bD_some e
  cases e
  exact ⟨w, env, g, ds, g', R, e1, fun p vs I' H' s' R' n hp ra z => k (.ref p) _ H' (s'.trans (same_new n.i)) (R'.freeze n hp) (.lst upd_same (ra.mono (same_new n.i)) z)⟩
theorem de_fresh (h : DF X S e ml) : DE X S e (mL ml) := PE.imp h fun _ _ _ q => te_fresh q

/-! ### displays -/
def mTup (ml : ML G) : ME G := fun env g => bD (ml env g) fun ds g1 => if ds.length ≤ sizeLine then some (.tuple ds, g1) else none
def mLst (ml : ML G) : ML G := fun env g => bD (ml env g) fun ds g1 => if ds.length ≤ sizeLine then some (ds, g1) else none
theorem de_tup {x1} (h : DA X S es ml) : DE X S (.Tuple es x1 pos) (mTup ml) := PE.imp (pe_tup h) fun σ H Q q => by
  obtain ⟨w, env, g, d, g', R, e, k⟩ := q
  obtain ⟨ds, g1, e1, e⟩ := bD_some e
  split at e
  · rename_i hz
    cases e
    refine ⟨w, env, g, ds, g', R, e1, fun vs I' H' s' R' ra => ⟨by rw [ra.len]; exact hz, fun p hp => ?_⟩⟩
    have ps := Pst.new (p := p) (o := .tup vs) R'.eI hp
    exact k (.ref p) _ _ (s'.trans ps.eI) (R'.pst ps) (.tup (SqT.of upd_same) (ra.mono ps.eI) hz)
  · cases e
theorem df_lst (h : DA X S es ml) : DF X S (.List es pos) (mLst ml) := PE.imp (pe_lst h) fun σ H Q q => by
  obtain ⟨w, env, g, d, g', R, e, k⟩ := q
  obtain ⟨ds, g1, e1, e⟩ := bD_some e
  split at e
  · rename_i hz
    cases e
    refine ⟨w, env, g, d, g', R, e1, fun vs I' H' s' R' ra => ⟨by rw [ra.len]; exact hz, fun p hp => ?_⟩⟩
    exact k p vs I' _ s' (R'.alloc hp) (R'.nob hp) upd_same ra hz
  · cases e

/-! ### subscripts, slices -/
def dIx : D → D → Option D
  | .list ds, .int i => atI ds i
  | .tuple ds, .int i => atI ds i
  | .str x, .int i => (atI x.cps.toList i).map fun c => .str ⟨#[c]⟩
  | _, _ => none
theorem atI_rp {K : PySem.W.Frag} {I : Hp} {vs : List V} {ds : List D} {i : Int} {d : D} (ra : RpA K I vs ds) (h : atI ds i = some d) : ∃ v, atI vs i = some v ∧ Rp K I v d := by
  unfold atI at h ⊢
  rw [ra.len]
  cases e : ixN ds.length i with
  | none => rw [e] at h; cases h
  | some j => rw [e] at h; exact ra.get h
theorem sok_char {x : Str} (h : SOk x) {c : Nat} (hc : c ∈ x.cps.toList) : SOk ⟨#[c]⟩ := by
  refine ⟨by show 1 ≤ sizeLine; decide, ?_⟩
  have h2 := h.2
  simp only [PyData.canLay0] at h2 ⊢
  unfold PyData.strOk at h2 ⊢
  rw [Array.all_eq_true_iff_forall_mem] at h2 ⊢
  intro b hb
  have e : b = c := by simpa using hb
  rw [e]
  exact h2 c (by simpa using hc)
theorem atI_mem {α : Type} {xs : List α} {i : Int} {v : α} (h : atI xs i = some v) : v ∈ xs := by
  unfold atI at h
  cases e : ixN xs.length i with
  | none => rw [e] at h; cases h
  | some j => rw [e] at h; exact List.mem_of_getElem? h
theorem od_ix {K : PySem.W.Frag} : OpD K (rIx K) dIx := by
  intro I H x y d e z s p q hz Q k
  cases p with
  | lst hp ra hl =>
    cases q with
    | int i =>
      obtain ⟨v, e1, r⟩ := atI_rp ra hz
      exact .inl ⟨_, _, i, v, rfl, rfl, SqL.of (s _ _ hp), e1, k v I H (Pst.refl s) r⟩
    | _ => cases hz
  | tup hp ra hl =>
    cases q with
    | int i =>
      obtain ⟨v, e1, r⟩ := atI_rp ra hz
      exact .inr (.inl ⟨_, _, i, v, rfl, rfl, same_t s hp, e1, k v I H (Pst.refl s) r⟩)
    | _ => cases hz
  | str hx =>
    cases q with
    | int i =>
      have hz : (atI _ i).map _ = some z := hz
      obtain ⟨c, e1, rfl⟩ := Option.map_eq_some_iff.mp hz
      exact .inr (.inr ⟨_, i, c, rfl, rfl, hx.1, e1, k _ I H (Pst.refl s) (.str (sok_char hx (atI_mem e1)))⟩)
    | _ => cases hz
  | _ => cases hz
theorem de_ix (ha : DE X S a ma) (hb : DE X S b mb) (hs : PlainIx b := by exact fun _ _ => rfl) : DE X S (.Subscript a b pos) (mOp dIx ma mb) := PE.imp (pe_ix ix_seq ha hb hs) fun _ _ _ h => te_op od_ix h

abbrev MO (G : Type) := Env → G → Option (Option Int × G)
def tO {G : Type} (K : PySem.W.Frag) (S : Gs G) (m : MO G) : TO := fun σ H Q => ∃ w env g b g', Rel K S w env g σ H ∧ m env g = some (b, g') ∧
  ∀ I' H', Same w.I I' → Rel K S (w.im I') env g' σ H' → Q b H'
structure DO {G : Type} (X : Cx) (S : Gs G) (e : Option Expr) (m : MO G) : Prop where
  po : PO X e (tO X.K S m)
def mNo : MO G := fun _ g => some (none, g)
def mPart (ma : ME G) : MO G := fun env g => bD (ma env g) fun x g1 => match x with
  | .int i => some (some i, g1)
  | _ => none
theorem do_none : DO X S none mNo := ⟨⟨fun pins s σ H Q I h => (po_none (X := X)).run pins s σ H Q I (by
  obtain ⟨w, env, g, d, g', R, e, k⟩ := h
  cases e
  exact k w.I H (Same.refl _) R)⟩⟩
theorem do_some (h : DE X S e ma) : DO X S (some e) (mPart ma) := ⟨⟨fun pins s σ H Q I q => (po_some h).run pins s σ H Q I (by
  obtain ⟨w, env, g, d, g', R, e, k⟩ := q
  obtain ⟨x, g1, e1, e⟩ := bD_some e
  cases x with
  | int i =>
    cases e
    exact ⟨w, env, g, _, g', R, e1, fun v I' H' s' R' p => by cases p; exact ⟨i, rfl, k I' H' s' R'⟩⟩
  | _ => cases e)⟩⟩
def cut {α : Type} (xs : List α) (lo hi : Option Int) : List α := (xs.drop (HT.sIx xs.length 0 lo)).take (HT.sIx xs.length xs.length hi - HT.sIx xs.length 0 lo)
theorem cut_rp {K : PySem.W.Frag} {I : Hp} {vs : List V} {ds : List D} (ra : RpA K I vs ds) (lo hi : Option Int) : RpA K I (cutV vs lo hi) (cut ds lo hi) := by
  unfold cutV cut
  rw [ra.len]
  exact (ra.drop _).take _
theorem cut_le {α : Type} (xs : List α) (lo hi : Option Int) : (cut xs lo hi).length ≤ xs.length := by
  unfold cut
  rw [List.length_take, List.length_drop]
  omega
/-- a list's slice -/
def mSlL (ma : ME G) (lo hi : MO G) : ML G := fun env g => bD (ma env g) fun x g1 => bD (lo env g1) fun l g2 => bD (hi env g2) fun h g3 => match x with
  | .list ds => some (cut ds l h, g3)
  | _ => none
theorem df_slice {lo hi : Option Expr} {ml mh : MO G} {p2 : Pos} (ha : DE X S a ma) (hl : DO X S lo ml) (hh : DO X S hi mh) : DF X S (.Subscript a (.Slice lo hi none p2) pos) (mSlL ma ml mh) := PE.imp (pe_slice sl_list ha hl.po hh.po) fun σ H Q q => by
  obtain ⟨w, env, g, d, g', R, e, k⟩ := q
  obtain ⟨x, g1, e1, e⟩ := bD_some e
  obtain ⟨l, g2, e2, e⟩ := bD_some e
  obtain ⟨h, g3, e3, e⟩ := bD_some e
  cases x with
  | list ds =>
    cases e
    refine ⟨w, env, g, _, g1, R, e1, fun v I1 H1 s1 R1 p1 => ⟨w.im I1, env, g1, l, g2, R1, e2, fun I2 H2 s2 R2 => ⟨w.im I2, env, g2, h, g', R2, e3, fun I3 H3 s3 R3 => ?_⟩⟩⟩
    cases p1 with
    | lst hp ra hz =>
      refine ⟨_, _, rfl, SqL.of (R3.eI _ _ (s3 _ _ (s2 _ _ hp))), fun p h0 => ?_⟩
      exact k p _ I3 _ (s1.trans (s2.trans s3)) (R3.alloc h0) (R3.nob h0) upd_same (cut_rp (ra.mono (s2.trans s3)) l h) (Nat.le_trans (cut_le ds l h) hz)
  | _ => cases e
end
end Pd

/-! Pd: tests, calls of defs, statements, loops, comprehensions. -/
namespace Pd
open PySem PySem.Spec L2
section
variable {G : Type} {X : Cx} {S : Gs G} {a b c e : Expr} {es rest : List Expr} {pos : Pos} {ma mb mc : ME G} {mt mu : MT G} {ml : ML G}

/-! ### tests -/
def asB : D → Option Bool
  | .bool b => some b
  | _ => none
def mOpT (f : D → D → Option D) (ma mb : ME G) : MT G := fun env g => bD (ma env g) fun x g1 => bD (mb env g1) fun y g2 => ((f x y).bind asB).map (·, g2)
theorem asB_some {d : Option D} {b : Bool} (h : d.bind asB = some b) : d = some (.bool b) := by
  cases d with
  | none => cases h
  | some x => cases x with
    | bool c => cases h; rfl
    | _ => cases h
theorem dt_cmp {op : CmpOp} {r : R2} {f : D → D → Option D} (ho : OpR X (compareOp op) r) (hf : OpD X.K r f) (ha : DE X S a ma) (hb : DE X S b mb) (hm : behindInMarks op b = false) : DT X S (.Compare a [op] [b] pos) (mOpT f ma mb) :=
  PT.imp (pt_cmpR ho ha hb hm) fun σ H Q h => by
    obtain ⟨w, env, g, d, g', R, e, k⟩ := h
    obtain ⟨x, g1, e1, e⟩ := bD_some e
    obtain ⟨y, g2, e2, e⟩ := bD_some e
    obtain ⟨e3, rfl⟩ := map_some e
    have e4 := asB_some e3
    refine ⟨w, env, g, x, g1, R, e1, fun v I1 H1 s1 R1 p1 => ⟨w.im I1, env, g1, y, g', R1, e2, fun u I2 H2 s2 R2 p2 => ?_⟩⟩
    exact hf R2.eI (p1.mono s2) p2 e4 fun v3 I3 H3 ps p3 => by cases p3; exact ⟨d, rfl, k I3 H3 (s1.trans (s2.trans ps.eI)) (R2.pst ps)⟩
def dTru : D → Option Bool
  | .none => some false
  | .bool b => some b
  | .int i => some (i != 0)
  | .str x => some ((x.length : Int) != 0)
  | .list ds => some (!ds.isEmpty)
  | .tuple ds => some (!ds.isEmpty)
  | .dict _ => none
def mTru (ma : ME G) : MT G := fun env g => bD (ma env g) fun x g1 => (dTru x).map (·, g1)
theorem rpa_empty {K : PySem.W.Frag} {I : Hp} {vs : List V} {ds : List D} (h : RpA K I vs ds) : vs.isEmpty = ds.isEmpty := by cases h <;> rfl
theorem dt_tru (ha : DE X S a ma) (he : ∀ whole, isTrue a X.env whole = (do let v ← whole; standAt a.pos; holding [v] (truthy v)) := by intro _; rfl) : DT X S a (mTru ma) := PT.imp (pt_truth ha he) fun σ H Q h => by
  obtain ⟨w, env, g, d, g', R, e, k⟩ := h
  obtain ⟨x, g1, e1, e⟩ := bD_some e
  obtain ⟨e3, rfl⟩ := map_some e
  refine ⟨w, env, g, x, g', R, e1, fun v I1 H1 s1 R1 p1 => ⟨d, ?_, k I1 H1 s1 R1⟩⟩
  cases p1 with
  | emp _ => cases e3
  | non => cases e3; rfl
  | bl b => cases e3; rfl
  | int i => cases e3; rfl
  | str hx => cases e3; exact ⟨hx.1, rfl⟩
  | lst hp ra hz => cases e3; exact .inl ⟨_, SqL.of (R1.eI _ _ hp), by rw [rpa_empty ra]⟩
  | tup hp ra hz => cases e3; exact .inr (.inl ⟨_, same_t R1.eI hp, by rw [rpa_empty ra]⟩)
def mNot (mt : MT G) : MT G := fun env g => bD (mt env g) fun b g1 => some (!b, g1)
theorem dt_not (h : DT X S a mt) : DT X S (.UnaryOp .Not a pos) (mNot mt) := PT.imp (pt_not h) fun σ H Q q => by
  obtain ⟨w, env, g, d, g', R, e, k⟩ := q
  obtain ⟨x, g1, e1, e⟩ := bD_some e
  cases e
  exact ⟨w, env, g, x, g', R, e1, fun I1 H1 s1 R1 => k I1 H1 s1 R1⟩
def mAnd (mt mu : MT G) : MT G := fun env g => bD (mt env g) fun b g1 => if b = true then mu env g1 else some (false, g1)
def mOr (mt mu : MT G) : MT G := fun env g => bD (mt env g) fun b g1 => if b = true then some (true, g1) else mu env g1
theorem dw_and1 (h : DT X S a mt) : DW X S (.BoolOp .And [a] pos) mt := pw_and1 h
theorem dw_or1 (h : DT X S a mt) : DW X S (.BoolOp .Or [a] pos) mt := pw_or1 h
theorem tt_and {σ : St} {H : Hp} {Q : Bool → Hp → Prop} (q : tT X.K S (mAnd mt mu) σ H Q) : tAnd (tT X.K S mt) (tT X.K S mu) σ H Q := by
  obtain ⟨w, env, g, d, g', R, e, k⟩ := q
  obtain ⟨x, g1, e1, e⟩ := bD_some e
  refine ⟨w, env, g, x, g1, R, e1, fun I1 H1 s1 R1 => ?_⟩
  cases x with
  | true => exact ⟨w.im I1, env, g1, d, g', R1, e, fun I2 H2 s2 R2 => k I2 H2 (s1.trans s2) R2⟩
  | false => cases e; exact k I1 H1 s1 R1
theorem tt_or {σ : St} {H : Hp} {Q : Bool → Hp → Prop} (q : tT X.K S (mOr mt mu) σ H Q) : tOr (tT X.K S mt) (tT X.K S mu) σ H Q := by
  obtain ⟨w, env, g, d, g', R, e, k⟩ := q
  obtain ⟨x, g1, e1, e⟩ := bD_some e
  refine ⟨w, env, g, x, g1, R, e1, fun I1 H1 s1 R1 => ?_⟩
  cases x with
  | false => exact ⟨w.im I1, env, g1, d, g', R1, e, fun I2 H2 s2 R2 => k I2 H2 (s1.trans s2) R2⟩
  | true => cases e; exact k I1 H1 s1 R1
theorem dw_and (ha : DT X S a mt) (hb : DW X S (.BoolOp .And (b :: rest) pos) mu) : DW X S (.BoolOp .And (a :: b :: rest) pos) (mAnd mt mu) := PW.imp (pw_and ha hb) fun _ _ _ => tt_and
theorem dw_or (ha : DT X S a mt) (hb : DW X S (.BoolOp .Or (b :: rest) pos) mu) : DW X S (.BoolOp .Or (a :: b :: rest) pos) (mOr mt mu) := PW.imp (pw_or ha hb) fun _ _ _ => tt_or
/-- .. as values, of bools -/
def mBAnd (ma mb : ME G) : ME G := fun env g => bD (ma env g) fun x g1 => match x with
  | .bool true => mb env g1
  | .bool false => some (.bool false, g1)
  | _ => none
def mBOr (ma mb : ME G) : ME G := fun env g => bD (ma env g) fun x g1 => match x with
  | .bool false => mb env g1
  | .bool true => some (.bool true, g1)
  | _ => none
def mBNot (ma : ME G) : ME G := fun env g => bD (ma env g) fun x g1 => match x with
  | .bool b => some (.bool (!b), g1)
  | _ => none
theorem de_and1 {op} (h : DE X S a ma) : DE X S (.BoolOp op [a] pos) ma := pe_one h
theorem de_and (ha : DE X S a ma) (hb : DE X S (.BoolOp .And (b :: rest) pos) mb) : DE X S (.BoolOp .And (a :: b :: rest) pos) (mBAnd ma mb) := PE.imp (pe_and ha hb) fun σ H Q q => by
  obtain ⟨w, env, g, d, g', R, e, k⟩ := q
  obtain ⟨x, g1, e1, e⟩ := bD_some e
  refine ⟨w, env, g, x, g1, R, e1, fun v I1 H1 s1 R1 p1 => ?_⟩
  cases x with
  | bool x =>
    cases p1
    refine ⟨x, rfl, ?_⟩
    cases x with
    | true => exact ⟨w.im I1, env, g1, d, g', R1, e, fun u I2 H2 s2 R2 p2 => k u I2 H2 (s1.trans s2) R2 p2⟩
    | false => cases e; exact k _ I1 H1 s1 R1 (.bl _)
  | _ => cases e
theorem de_or (ha : DE X S a ma) (hb : DE X S (.BoolOp .Or (b :: rest) pos) mb) : DE X S (.BoolOp .Or (a :: b :: rest) pos) (mBOr ma mb) := PE.imp (pe_or ha hb) fun σ H Q q => by
  obtain ⟨w, env, g, d, g', R, e, k⟩ := q
  obtain ⟨x, g1, e1, e⟩ := bD_some e
  refine ⟨w, env, g, x, g1, R, e1, fun v I1 H1 s1 R1 p1 => ?_⟩
  cases x with
  | bool x =>
    cases p1
    refine ⟨x, rfl, ?_⟩
    cases x with
    | false => exact ⟨w.im I1, env, g1, d, g', R1, e, fun u I2 H2 s2 R2 p2 => k u I2 H2 (s1.trans s2) R2 p2⟩
    | true => cases e; exact k _ I1 H1 s1 R1 (.bl _)
  | _ => cases e
theorem de_not (ha : DE X S a ma) : DE X S (.UnaryOp .Not a pos) (mBNot ma) := PE.imp (pe_not ha) fun σ H Q q => by
  obtain ⟨w, env, g, d, g', R, e, k⟩ := q
  obtain ⟨x, g1, e1, e⟩ := bD_some e
  cases x with
  | bool x =>
    cases e
    exact ⟨w, env, g, _, g', R, e1, fun v I1 H1 s1 R1 p1 => by cases p1; exact ⟨x, rfl, k _ I1 H1 s1 R1 (.bl _)⟩⟩
  | _ => cases e
def mIf {α : Type} (mt : MT G) (ma mb : Env → G → Option (α × G)) : Env → G → Option (α × G) := fun env g => bD (mt env g) fun b g1 => if b = true then ma env g1 else mb env g1
theorem de_if (hc : DT X S c mt) (ha : DE X S a ma) (hb : DE X S b mb) : DE X S (.IfExp c a b pos) (mIf mt ma mb) := PE.imp (pe_ifExp hc ha hb) fun σ H Q q => by
  obtain ⟨w, env, g, d, g', R, e, k⟩ := q
  obtain ⟨x, g1, e1, e⟩ := bD_some e
  refine ⟨w, env, g, x, g1, R, e1, fun I1 H1 s1 R1 => ?_⟩
  cases x with
  | true => exact ⟨w.im I1, env, g1, d, g', R1, e, fun u I2 H2 s2 R2 p2 => k u I2 H2 (s1.trans s2) R2 p2⟩
  | false => exact ⟨w.im I1, env, g1, d, g', R1, e, fun u I2 H2 s2 R2 p2 => k u I2 H2 (s1.trans s2) R2 p2⟩
/-- a < b < c -/
def mChain (f f' : D → D → Option D) (ma mb mc : ME G) : ME G := fun env g => bD (ma env g) fun x g1 => bD (mb env g1) fun y g2 => match f x y with
  | some (.bool true) => bD (mc env g2) fun z g3 => (f' y z).map (·, g3)
  | some (.bool false) => some (.bool false, g2)
  | _ => none
def mChainT (f f' : D → D → Option D) (ma mb mc : ME G) : MT G := fun env g => bD (ma env g) fun x g1 => bD (mb env g1) fun y g2 => match f x y with
  | some (.bool true) => bD (mc env g2) fun z g3 => ((f' y z).bind asB).map (·, g3)
  | some (.bool false) => some (false, g2)
  | _ => none
theorem dt_chain {op op' : CmpOp} {r r' : R2} {f f' : D → D → Option D} (ho : OpR X (compareOp op) r) (hf : OpD X.K r f) (ho' : OpR X (compareOp op') r') (hf' : OpD X.K r' f') (ha : DE X S a ma) (hb : DE X S b mb) (hc : DE X S c mc) (hm : lastMarks [op, op'] [b, c] = false := by rfl) :
    DT X S (.Compare a [op, op'] [b, c] pos) (mChainT f f' ma mb mc) := PT.imp (pt_chain ho ho' ha hb hc hm) fun σ H Q q => by
  obtain ⟨w, env, g, d, g', R, e, k⟩ := q
  obtain ⟨x, g1, e1, e⟩ := bD_some e
  obtain ⟨y, g2, e2, e⟩ := bD_some e
  refine ⟨w, env, g, x, g1, R, e1, fun v I1 H1 s1 R1 p1 => ⟨w.im I1, env, g1, y, g2, R1, e2, fun u I2 H2 s2 R2 p2 => ?_⟩⟩
  cases e3 : f x y with
  | none => rw [e3] at e; cases e
  | some z =>
    rw [e3] at e
    cases z with
    | bool z =>
      refine hf R2.eI (p1.mono s2) p2 e3 fun v3 I3 H3 ps p3 => ?_
      cases p3
      refine ⟨z, rfl, ?_⟩
      cases z with
      | true =>
        obtain ⟨z, g3, e4, e⟩ := bD_some e
        obtain ⟨e5, rfl⟩ := map_some e
        refine ⟨w.im I3, env, g2, z, g', R2.pst ps, e4, fun v4 I4 H4 s4 R4 p4 => ?_⟩
        exact hf' R4.eI ((p2.mono ps.eI).mono s4) p4 (asB_some e5) fun v5 I5 H5 ps5 p5 => by
          cases p5
          exact ⟨d, rfl, k I5 H5 (s1.trans (s2.trans (ps.eI.trans (s4.trans ps5.eI)))) (R4.pst ps5)⟩
      | false => cases e; exact ⟨false, rfl, k I3 H3 (s1.trans (s2.trans ps.eI)) (R2.pst ps)⟩
    | _ => cases e

/-! ### a def of one's own that changes nothing: its promise -/
def spP (K : PySem.W.Frag) (F : List D → Option D) : Sp := fun vs H Q _ => ∃ I ds d, Same I H ∧ RpA K I vs ds ∧ F ds = some d ∧ ∀ v I' H', Pst I H I' H' → Rp K I' v d → Q v H'
theorem de_callP {x : Str} {F : List D → Option D} {p : Pos}
    (run : PE X (.Call (.Name x p) (e :: es) [] pos) (tCall (spP X.K F) [] E0 (tA X.K S ml))) : DE X S (.Call (.Name x p) (e :: es) [] pos) (mCall F ml) := PE.imp run fun σ H Q q => by
  obtain ⟨w, env, g, d, g', R, e, k⟩ := q
  obtain ⟨xs, g1, e1, e⟩ := bD_some e
  obtain ⟨e3, rfl⟩ := map_some e
  refine ⟨w, env, g, xs, g', R, e1, fun vs I1 H1 s1 R1 p1 => ?_⟩
  exact ⟨I1, xs, d, R1.eI, by rw [List.append_nil]; exact p1, e3, fun v I' H' ps r => k v I' H' (s1.trans ps.eI) (R1.pst ps) r⟩
theorem de_callP0 {x : Str} {F : List D → Option D} {p : Pos}
    (run : PE X (.Call (.Name x p) [] [] pos) (tCall (spP X.K F) [] E0 tNil)) : DE X S (.Call (.Name x p) [] [] pos) (mCall F mNil) := PE.imp run fun σ H Q q => by
  obtain ⟨w, env, g, d, g', R, e, k⟩ := q
  have e : (F []).map (·, g) = some (d, g') := e
  obtain ⟨e3, rfl⟩ := map_some e
  exact ⟨w.I, [], d, R.eI, .nil, e3, fun v I' H' ps r => k v I' H' ps.eI (R.pst ps) r⟩
/-- .. whose answer is a new list -/
def spN (K : PySem.W.Frag) (F : List D → Option (List D)) : Sp := fun vs H Q _ => ∃ I ds d, Same I H ∧ RpA K I vs ds ∧ F ds = some d ∧ ∀ p us I' H', Pst I H I' H' → H p = none → I' p = none → H' p = some (.lst us) → RpA K I' us d → d.length ≤ sizeLine → Q (.ref p) H'
theorem df_callN {x : Str} {F : List D → Option (List D)} {p : Pos}
    (run : PE X (.Call (.Name x p) (e :: es) [] pos) (tCall (spN X.K F) [] E0 (tA X.K S ml))) : DF X S (.Call (.Name x p) (e :: es) [] pos) (mCallF F ml) := PE.imp run fun σ H Q q => by
  obtain ⟨w, env, g, d, g', R, e, k⟩ := q
  obtain ⟨xs, g1, e1, e⟩ := bD_some e
  obtain ⟨e3, rfl⟩ := map_some e
  refine ⟨w, env, g, xs, g', R, e1, fun vs I1 H1 s1 R1 p1 => ?_⟩
  exact ⟨I1, xs, d, R1.eI, by rw [List.append_nil]; exact p1, e3, fun p us I' H' ps h0 hi hp ra z => k p us I' H' (s1.trans ps.eI) (R1.pst ps) (R1.nobP h0 ps hi) hp ra z⟩
theorem df_callN0 {x : Str} {F : List D → Option (List D)} {p : Pos}
    (run : PE X (.Call (.Name x p) [] [] pos) (tCall (spN X.K F) [] E0 tNil)) : DF X S (.Call (.Name x p) [] [] pos) (mCallF F mNil) := PE.imp run fun σ H Q q => by
  obtain ⟨w, env, g, d, g', R, e, k⟩ := q
  have e : (F []).map (·, g) = some (d, g') := e
  obtain ⟨e3, rfl⟩ := map_some e
  exact ⟨w.I, [], d, R.eI, .nil, e3, fun p us I' H' ps h0 hi hp ra z => k p us I' H' ps.eI (R.pst ps) (R.nobP h0 ps hi) hp ra z⟩

/-! ### a def that is handed the ghost state -/
structure Gst {G : Type} (S : Gs G) (I H : Hp) (g : G) (I' H' : Hp) (g' : G) : Prop where
  eI : Same I I'
  eH : ∀ a o, H a = some o → ¬ S.fp g a → H' a = some o
  sub : Same I' H'
  ag : ∀ a, H a ≠ none → I' a = I a
  fp' : ∀ a, S.fp g' a ↔ S.fp g a
  rt : S.root g' = S.root g
  ok : S.ok g' H'
theorem Rel.gst {K : PySem.W.Frag} {w : Wd} {env : Env} {g g' : G} {σ : St} {H H' I' : Hp} (R : Rel K S w env g σ H) (p : Gst S w.I H g I' H' g') : Rel K S (w.im I') env g' σ H' := by
  obtain ⟨s1, s2⟩ := R.keepS (w' := w.im I') (H' := H') p.eI rfl fun i a f => by
    obtain ⟨a1, a2, a3, a4⟩ := (R.slot i).fr f
    refine ⟨?_, (p.ag a a4).trans a1, a2, a3⟩
    cases e : H a with
    | none => exact absurd e a4
    | some o => exact p.eH a o e fun z => a3 ((R.gfp a).mp z)
  exact {
    e0 := fun a o e => p.eH a o (R.e0 a o e) fun z => by
      have := R.f0 a ((R.gfp a).mp z)
      rw [e] at this; cases this
    eI := p.sub
    ag := fun a o e => (p.ag a (by rw [R.e0 a o e]; simp)).trans (R.ag a o e)
    ge := R.ge.trans p.eI
    gfp := fun a => (p.fp' a).trans (R.gfp a)
    grt := p.rt.trans R.grt
    gok := p.ok
    fI := fun a ha => (p.ag a (S.dom R.gok ((R.gfp a).mpr ha))).trans (R.fI a ha)
    f0 := R.f0
    len := R.len
    slot := s1
    dis := s2 }
/-- the arguments of such a def -/
def ArgOk (K : PySem.W.Frag) (I : Hp) (rt : V) (v : V) : SV → Prop
  | .sh d => Rp K I v d
  | .kd d => KdOk K I v d
  | .fz d => FzOk K I v d
  | .fl d => FlOk K I v d
  | .rz k ts => RzOk K I v k ts
  | .st => v = rt
  | .raw u => v = u
  | _ => False
inductive ArgsOk (K : PySem.W.Frag) (I : Hp) (rt : V) : List V → List SV → Prop
  | nil : ArgsOk K I rt [] []
  | cons {v vs a as} : ArgOk K I rt v a → ArgsOk K I rt vs as → ArgsOk K I rt (v :: vs) (a :: as)
theorem ArgOk.mono {K : PySem.W.Frag} {I I' : Hp} {rt v : V} {a : SV} (e : Same I I') (h : ArgOk K I rt v a) : ArgOk K I' rt v a := by
  cases a with
  | sh d => exact Rp.mono e h
  | kd d => exact KdOk.mono e h
  | fz d => exact FzOk.mono e h
  | fl d => exact FlOk.mono e h
  | rz k ts => exact RzOk.mono e h
  | _ => exact h
theorem ArgsOk.len {K : PySem.W.Frag} {I : Hp} {rt : V} : ∀ {vs : List V} {as : List SV}, ArgsOk K I rt vs as → vs.length = as.length
  | _, _, .nil => rfl
  | _, _, .cons _ t => by rw [List.length_cons, List.length_cons, ArgsOk.len t]
abbrev MG (G : Type) := Env → G → Option (List SV × G)
def tG {G : Type} (K : PySem.W.Frag) (S : Gs G) (m : MG G) : TA := fun σ H Q => ∃ w env g as g', Rel K S w env g σ H ∧ m env g = some (as, g') ∧
  ∀ vs I' H', Same w.I I' → Rel K S (w.im I') env g' σ H' → ArgsOk K I' w.rt vs as → Q vs H'
abbrev DG {G : Type} (X : Cx) (S : Gs G) (es : List Expr) (m : MG G) : Prop := PA X es (tG X.K S m)
def gNil : MG G := fun _ g => some ([], g)
def gCons (ma : ME G) (ml : MG G) : MG G := fun env g => bD (ma env g) fun x g1 => bD (ml env g1) fun xs g2 => some (.sh x :: xs, g2)
def gConsS (i : Nat) (ml : MG G) : MG G := fun env g => match env.at i with
  | .st => bD (ml env g) fun xs g2 => some (.st :: xs, g2)
  | .raw v => bD (ml env g) fun xs g2 => some (.raw v :: xs, g2)
  | _ => none
theorem dg_nil : DG X S [] gNil := PA.imp pa_nil fun _ H _ ⟨w, _, _, _, _, R, e, k⟩ => by cases e; exact k [] w.I H (Same.refl _) R .nil
theorem dg_cons {mg : MG G} (ha : DE X S e ma) (hr : DG X S es mg) (hs : starEach (e :: es) X.env = (false, eval e X.env) :: starEach es X.env := by rfl) : DG X S (e :: es) (gCons ma mg) := PA.imp (pa_cons ha hr hs) fun σ H Q h => by
  obtain ⟨w, env, g, d, g', R, e, k⟩ := h
  obtain ⟨x, g1, e1, e⟩ := bD_some e
  obtain ⟨y, g2, e2, e⟩ := bD_some e
  cases e
  exact ⟨w, env, g, x, g1, R, e1, fun v I1 H1 s1 R1 p1 => ⟨w.im I1, env, g1, y, g', R1, e2, fun vs I2 H2 s2 R2 p2 => k (v :: vs) I2 H2 (s1.trans s2) R2 (.cons (p1.mono s2) p2)⟩⟩
theorem dg_st {mg : MG G} {i : Nat} {x : Str} {pos' : Pos} (hr : DG X S es mg) (hN : X.N[i]? = some x := by rfl) (hv : Vis X.env.scope x := by first | exact Or.inl rfl | exact Or.inr (Or.inl rfl) | exact Or.inr (Or.inr rfl)) (hd : (x == ("__debug__" : Str)) = false := by decide)
    (hcd : (x == ("__classdict__" : Str)) = false := by decide) (hs : starEach (.Name x pos' :: es) X.env = (false, eval (.Name x pos') X.env) :: starEach es X.env := by rfl) : DG X S (.Name x pos' :: es) (gConsS i mg) := PA.imp (pa_cons (pe_var hN hv hd hcd) hr hs) fun σ H Q h => by
  obtain ⟨w, env, g, d, g', R, e, k⟩ := h
  have q := R.slot i
  unfold gConsS at e
  cases z : env.at i with
  | st =>
    rw [z] at e q
    obtain ⟨y, g2, e2, e⟩ := bD_some e
    cases e
    exact ⟨_, q, w, env, g, y, g', R, e2, fun vs I2 H2 s2 R2 p2 => k _ I2 H2 s2 R2 (.cons rfl p2)⟩
  | raw v =>
    rw [z] at e q
    obtain ⟨y, g2, e2, e⟩ := bD_some e
    cases e
    exact ⟨_, q, w, env, g, y, g', R, e2, fun vs I2 H2 s2 R2 p2 => k _ I2 H2 s2 R2 (.cons rfl p2)⟩
  | _ => rw [z] at e; cases e
def spG {G : Type} (K : PySem.W.Frag) (S : Gs G) (F : List SV → G → Option (D × G)) : Sp := fun vs H Q _ => ∃ I g as d g', Same I H ∧ S.ok g H ∧ (∀ a, S.fp g a → I a = none) ∧ ArgsOk K I (S.root g) vs as ∧ F as g = some (d, g') ∧
  ∀ v I' H', Gst S I H g I' H' g' → Rp K I' v d → Q v H'
def mCallG (F : List SV → G → Option (D × G)) (mg : MG G) : ME G := fun env g => bD (mg env g) fun as g1 => F as g1
theorem de_callG {x : Str} {F : List SV → G → Option (D × G)} {p : Pos} {mg : MG G}
    (run : PE X (.Call (.Name x p) (e :: es) [] pos) (tCall (spG X.K S F) [] E0 (tG X.K S mg))) : DE X S (.Call (.Name x p) (e :: es) [] pos) (mCallG F mg) := PE.imp run fun σ H Q q => by
  obtain ⟨w, env, g, d, g', R, e, k⟩ := q
  obtain ⟨as, g1, e1, e⟩ := bD_some e
  refine ⟨w, env, g, as, g1, R, e1, fun vs I1 H1 s1 R1 p1 => ?_⟩
  refine ⟨I1, g1, as, d, g', R1.eI, R1.gok, fun a ha => R1.fI a ((R1.gfp a).mp ha), ?_, e, fun v I' H' ps r => k v I' H' (s1.trans ps.eI) (R1.gst ps) r⟩
  rw [List.append_nil, R1.grt]
  exact p1
end
end Pd

/-! Pd: statements, loops, comprehensions, defs. -/
namespace Pd
open PySem PySem.Spec L2

/-- how a statement ends: goes on, breaks, continues, returns data, returns a new list -/
inductive Ct where
  | nx | br | co | re (d : D) | rl (ds : List D)
abbrev MS (G : Type) := Env → G → Option (Ct × Env × G)
section
variable {G : Type} {X : Cx} {S : Gs G} {a b c e : Expr} {es rest : List Expr} {pos : Pos} {ma mb mc : ME G} {mt mu : MT G} {ml : ML G} {st : Stmt} {sts body : List Stmt} {m m1 m2 : MS G}
variable {K : PySem.W.Frag} {w : Wd} {env env' : Env} {g g' : G} {σ : St} {H H' I' : Hp}

/-! ### stores to slots -/
theorem at_set (env : Env) (i k : Nat) (sv : SV) : Env.at (env.set i sv) k = if k = i ∧ i < env.length then sv else env.at k := by
  show (env.set i sv).getD k .un = if k = i ∧ i < env.length then sv else env.getD k .un
  rw [List.getD_eq_getElem?_getD, List.getD_eq_getElem?_getD]
  by_cases h : k = i
  · subst h
    by_cases z : k < env.length
    · rw [List.getElem?_set_self z, if_pos ⟨rfl, z⟩]; rfl
    · rw [if_neg (fun q => z q.2), List.set_eq_of_length_le (by omega)]
  · rw [List.getElem?_set_ne (Ne.symm h), if_neg (fun q => h q.1)]
theorem get_set {α : Type} (σ : List (Option α)) (i k : Nat) (v : Option α) : (σ.set i v)[k]? = if k = i ∧ i < σ.length then some v else σ[k]? := by
  by_cases h : k = i
  · subst h
    by_cases z : k < σ.length
    · rw [List.getElem?_set_self z, if_pos ⟨rfl, z⟩]
    · rw [if_neg (fun q => z q.2), List.set_eq_of_length_le (by omega)]
  · rw [List.getElem?_set_ne (Ne.symm h), if_neg (fun q => h q.1)]
/-- a slot of another: the same in both -/
theorem SlotOk.of_eq {σ' : St} {i : Nat} {sv : SV} (e : σ'[i]? = σ[i]?) (h : SlotOk K w σ H i sv) : SlotOk K w σ' H i sv := (h.keep (w' := w) (H' := H) e (Same.refl _) rfl fun a f => by
  obtain ⟨a1, a2, a3, _⟩ := h.fr f
  exact ⟨rfl, a1, a2, a3⟩).1
theorem SlotOk.of_eq' {σ' : St} {i k : Nat} {sv : SV} (e : σ'[k]? = σ[i]?) (h : SlotOk K w σ H i sv) : SlotOk K w σ' H k sv := by
  cases sv with
  | un => trivial
  | sh d => obtain ⟨v, e1, r⟩ := h; exact ⟨v, e.trans e1, r⟩
  | kd d => obtain ⟨v, e1, r⟩ := h; exact ⟨v, e.trans e1, r⟩
  | fz d => obtain ⟨v, e1, r⟩ := h; exact ⟨v, e.trans e1, r⟩
  | fl d => obtain ⟨v, e1, r⟩ := h; exact ⟨v, e.trans e1, r⟩
  | rz k ts => obtain ⟨v, e1, r⟩ := h; exact ⟨v, e.trans e1, r⟩
  | st => exact Eq.trans e h
  | raw v => exact Eq.trans e h
  | ow ds => obtain ⟨p, vs, e1, r⟩ := h; exact ⟨p, vs, e.trans e1, r⟩
  | tr t => obtain ⟨v, e1, r⟩ := h; exact ⟨v, e.trans e1, r⟩
theorem fpt_eq {σ' : St} {i k : Nat} {sv : SV} {a : Addr} (e : σ'[k]? = σ[i]?) (h : fpt H σ' k sv a) : fpt H σ i sv a := by
  cases sv with
  | ow ds => exact e.symm.trans h
  | tr t => obtain ⟨v, e1, f⟩ := h; exact ⟨v, e.symm.trans e1, f⟩
  | _ => exact h
theorem Rel.put {i : Nat} {v : V} {sv : SV} (R : Rel K S w env g σ H) (h1 : ∀ k, (σ.set i (some v))[k]? = some (some v) → k = i → SlotOk K w (σ.set i (some v)) H k sv)
    (h2 : ∀ a, fpt H (σ.set i (some v)) i sv a → ∀ j, ¬ fpt H σ j (env.at j) a) : Rel K S w (env.set i sv) g (σ.set i (some v)) H where
  e0 := R.e0
  eI := R.eI
  ag := R.ag
  ge := R.ge
  gfp := R.gfp
  grt := R.grt
  gok := R.gok
  fI := R.fI
  f0 := R.f0
  len := by rw [List.length_set, List.length_set]; exact R.len
  slot := fun k => by
    rw [at_set]
    by_cases h : k = i ∧ i < env.length
    · rw [if_pos h]
      exact h1 k (by rw [get_set, if_pos ⟨h.1, by rw [R.len]; exact h.2⟩]) h.1
    · rw [if_neg h]
      exact (R.slot k).of_eq (by rw [get_set, if_neg (by rw [R.len]; exact h)])
  dis := fun k j a hkj f1 f2 => by
    rw [at_set] at f1 f2
    by_cases hk : k = i ∧ i < env.length
    · have hj : ¬ (j = i ∧ i < env.length) := fun z => hkj (hk.1.trans z.1.symm)
      rw [if_pos hk] at f1
      rw [if_neg hj] at f2
      rw [hk.1] at f1
      exact h2 a f1 j (fpt_eq (σ := σ) (i := j) (by rw [get_set, if_neg (by rw [R.len]; exact hj)]) f2)
    · rw [if_neg hk] at f1
      have f1 := fpt_eq (σ := σ) (i := k) (by rw [get_set, if_neg (by rw [R.len]; exact hk)]) f1
      by_cases hj : j = i ∧ i < env.length
      · rw [if_pos hj] at f2
        rw [hj.1] at f2
        exact h2 a f2 k f1
      · rw [if_neg hj] at f2
        exact R.dis k j a hkj f1 (fpt_eq (σ := σ) (i := j) (by rw [get_set, if_neg (by rw [R.len]; exact hj)]) f2)
theorem Rel.putD {i : Nat} {v : V} {d : D} (R : Rel K S w env g σ H) (r : Rp K w.I v d) : Rel K S w (env.set i (.sh d)) g (σ.set i (some v)) H :=
  R.put (fun k e _ => ⟨v, e, r⟩) fun a z => z.elim
theorem Rel.putRaw {i : Nat} {v : V} (R : Rel K S w env g σ H) : Rel K S w (env.set i (.raw v)) g (σ.set i (some v)) H :=
  R.put (fun k e _ => e) fun a z => z.elim
theorem Rel.putL {i : Nat} {p : Addr} {vs : List V} {ds : List D} (R : Rel K S w env g σ H) (n : Nob w env σ H p) (hp : H p = some (.lst vs)) (ra : RpA K w.I vs ds) (hz : ds.length ≤ sizeLine) : Rel K S w (env.set i (.ow ds)) g (σ.set i (some (.ref p))) H :=
  R.put (fun k e _ => ⟨p, vs, e, hp, n.i, n.h0, n.f, ra, hz⟩) fun a f j => by
    have f : (σ.set i (some (V.ref p)))[i]? = some (some (.ref a)) := f
    rw [get_set] at f
    split at f
    · cases f; exact n.o j
    · rename_i hi
      have : i < σ.length := Nat.lt_of_not_le fun hle => by rw [List.getElem?_eq_none hle] at f; cases f
      exact absurd ⟨rfl, this⟩ hi
/-- what one slot owns is written: the slot is another -/
theorem Rel.write {j : Nat} {sv : SV} {H' : Hp} (R : Rel K S w env g σ H) (hj : j < env.length) (ch : ∀ a, H' a ≠ H a → H a = none ∨ fpt H σ j (env.at j) a) (e : ∀ a o, H a = some o → H' a ≠ none)
    (ok : SlotOk K w σ H' j sv) (fp : ∀ a, fpt H' σ j sv a → H a = none ∨ fpt H σ j (env.at j) a) : Rel K S w (env.set j sv) g σ H' := by
  have st : ∀ a, H a ≠ none → ¬ fpt H σ j (env.at j) a → H' a = H a := fun a h1 h2 => Classical.byContradiction fun z => (ch a z).elim h1 h2
  have kp : ∀ k, k ≠ j → SlotOk K w σ H' k (env.at k) ∧ ∀ a, fpt H' σ k (env.at k) a ↔ fpt H σ k (env.at k) a := fun k hk => (R.slot k).keep (σ' := σ) (w' := w) (H' := H') rfl (Same.refl _) rfl fun a f => by
    obtain ⟨a1, a2, a3, a4⟩ := (R.slot k).fr f
    exact ⟨st a a4 fun z => R.dis k j a hk f z, a1, a2, a3⟩
  have old : ∀ {X : Hp} (a : Addr) (o : HO), X a = some o → Same X H → (fpt H σ j (env.at j) a → X a = none) → H' a = some o := fun {X} a o q s n => by
    have h : H a = some o := s a o q
    rw [st a (by rw [h]; simp) fun f => by rw [n f] at q; cases q]
    exact h
  exact {
    e0 := fun a o q => old a o q R.e0 fun f => ((R.slot j).fr f).2.1
    eI := fun a o q => old a o q R.eI fun f => ((R.slot j).fr f).1
    ag := R.ag
    ge := R.ge
    gfp := R.gfp
    grt := R.grt
    gok := S.loc (fun a ha => by
      have h := S.dom R.gok ha
      exact st a h fun f => ((R.slot j).fr f).2.2.1 ((R.gfp a).mp ha)) R.gok
    fI := R.fI
    f0 := R.f0
    len := by rw [List.length_set]; exact R.len
    slot := fun k => by
      rw [at_set]
      by_cases h : k = j ∧ j < env.length
      · rw [if_pos h, h.1]; exact ok
      · rw [if_neg h]
        exact (kp k fun z => h ⟨z, hj⟩).1
    dis := fun k l a hkl f1 f2 => by
      rw [at_set] at f1 f2
      by_cases hk : k = j ∧ j < env.length
      · have hl : ¬ (l = j ∧ j < env.length) := fun z => hkl (hk.1.trans z.1.symm)
        have nl : l ≠ j := fun z => hl ⟨z, hj⟩
        rw [if_pos hk, hk.1] at f1
        rw [if_neg hl] at f2
        have f2 := ((kp l nl).2 a).mp f2
        rcases fp a f1 with z | z
        · exact ((R.slot l).fr f2).2.2.2 z
        · exact R.dis l j a nl f2 z
      · have nk : k ≠ j := fun z => hk ⟨z, hj⟩
        rw [if_neg hk] at f1
        have f1 := ((kp k nk).2 a).mp f1
        by_cases hl : l = j ∧ j < env.length
        · rw [if_pos hl, hl.1] at f2
          rcases fp a f2 with z | z
          · exact ((R.slot k).fr f1).2.2.2 z
          · exact R.dis k j a nk f1 z
        · have nl : l ≠ j := fun z => hl ⟨z, hj⟩
          rw [if_neg hl] at f2
          exact R.dis k l a hkl f1 (((kp l nl).2 a).mp f2) }
theorem slot_lt {j : Nat} {v : V} (R : Rel K S w env g σ H) (sj : σ[j]? = some (some v)) : j < env.length := by rw [← R.len]; exact (List.getElem?_eq_some_iff.mp sj).1
/-- a list of one's own is written -/
theorem Rel.setOw {j : Nat} {p : Addr} {vs us : List V} {ds es : List D} (R : Rel K S w env g σ H) (ej : env.at j = .ow ds) (sj : σ[j]? = some (some (.ref p))) (hp : H p = some (.lst vs)) (hi : w.I p = none) (h0 : w.H0 p = none) (hf : ¬ w.fp p)
    (ra : RpA K w.I us es) (hz : es.length ≤ sizeLine) : Rel K S w (env.set j (.ow es)) g σ (upd H p (.lst us)) := by
  have own : fpt H σ j (env.at j) p := by rw [ej]; exact sj
  refine R.write (slot_lt R sj) (fun a z => ?_) (fun a o q z => ?_) ⟨p, us, sj, upd_same, hi, h0, hf, ra, hz⟩ fun a f => ?_
  · by_cases h : a = p
    · exact .inr (h ▸ own)
    · exact absurd (upd_ne h) z
  · by_cases h : a = p
    · rw [h, upd_same] at z; cases z
    · rw [upd_ne h, q] at z; cases z
  · have f : σ[j]? = some (some (.ref a)) := f
    rw [sj] at f; cases f
    exact .inr own
/-- a slot's own list becomes one that stands -/
def Env.frz (env : Env) (j : Nat) : Env := match env.at j with
  | .ow ds => env.set j (.sh (.list ds))
  | _ => env
theorem Rel.forget {i : Nat} (R : Rel K S w env g σ H) : Rel K S w (env.set i .un) g σ H where
  e0 := R.e0
  eI := R.eI
  ag := R.ag
  ge := R.ge
  gfp := R.gfp
  grt := R.grt
  gok := R.gok
  fI := R.fI
  f0 := R.f0
  len := by rw [List.length_set]; exact R.len
  slot := fun k => by
    rw [at_set]
    by_cases h : k = i ∧ i < env.length
    · rw [if_pos h]; trivial
    · rw [if_neg h]; exact R.slot k
  dis := fun k j a hkj f1 f2 => by
    rw [at_set] at f1 f2
    by_cases hk : k = i ∧ i < env.length
    · rw [if_pos hk] at f1; exact f1
    · by_cases hj : j = i ∧ i < env.length
      · rw [if_pos hj] at f2; exact f2
      · rw [if_neg hk] at f1; rw [if_neg hj] at f2
        exact R.dis k j a hkj f1 f2
/-- what a slot owned is nobody's behind it -/
theorem Rel.nobF {j : Nat} {p : Addr} (R : Rel K S w env g σ H) (hj : j < env.length) (f : fpt H σ j (env.at j) p) : Nob w (env.set j .un) σ H p := by
  obtain ⟨a1, a2, a3, _⟩ := (R.slot j).fr f
  refine ⟨a1, a2, a3, fun i q => ?_⟩
  rw [at_set] at q
  by_cases h : i = j ∧ j < env.length
  · rw [if_pos h] at q; exact q
  · rw [if_neg h] at q
    exact R.dis j i p (fun z => h ⟨z.symm, hj⟩) f q
/-- a slot's data is put in where the value stands already -/
theorem Rel.know {j : Nat} {v : V} {sv : SV} (R : Rel K S w env g σ H) (sj : σ[j]? = some (some v)) (ok : SlotOk K w σ H j sv) (nf : ∀ a, ¬ fpt H σ j sv a) : Rel K S w (env.set j sv) g σ H := by
  have e : σ.set j (some v) = σ := by
    apply List.ext_getElem?
    intro k
    rw [get_set]
    split
    · rename_i h; rw [h.1]; exact sj.symm
    · rfl
  have := R.put (i := j) (v := v) (sv := sv) (fun k _ hk => by rw [e, hk]; exact ok) fun a f => by rw [e] at f; exact absurd f (nf a)
  rwa [e] at this
theorem Rel.frz (j : Nat) (R : Rel K S w env g σ H) : ∃ I', Same w.I I' ∧ Rel K S (w.im I') (env.frz j) g σ H := by
  unfold Env.frz
  cases e : env.at j with
  | ow ds =>
    have q := R.slot j
    rw [e] at q
    obtain ⟨p, vs, e1, hp, hi, h0, hf, ra, hz⟩ := q
    have hj := slot_lt R e1
    have n := R.nobF hj (p := p) (by rw [e]; exact e1)
    have R1 := (R.forget (i := j)).freeze n hp
    have R2 := R1.know (j := j) (sv := .sh (.list ds)) e1 ⟨.ref p, e1, .lst upd_same (ra.mono (same_new hi)) hz⟩ fun a f => f
    rw [List.set_set] at R2
    exact ⟨_, same_new hi, R2⟩
  | _ => exact ⟨w.I, Same.refl _, R⟩

/-! ### a statement's reading -/
def Post {G : Type} (K : PySem.W.Frag) (S : Gs G) (w : Wd) (env' : Env) (g' : G) (D : Ends) : Ct → Prop
  | .nx => ∀ σ' I' H', Same w.I I' → Rel K S (w.im I') env' g' σ' H' → D.nx σ' H'
  | .br => ∀ σ' I' H', Same w.I I' → Rel K S (w.im I') env' g' σ' H' → D.bk σ' H'
  | .co => ∀ σ' I' H', Same w.I I' → Rel K S (w.im I') env' g' σ' H' → D.ct σ' H'
  | .re d => ∀ v σ' I' H', Same w.I I' → Rel K S (w.im I') env' g' σ' H' → Rp K I' v d → D.rt v H'
  | .rl ds => ∀ p vs σ' I' H', Same w.I I' → Rel K S (w.im I') env' g' σ' H' → Nob (w.im I') env' σ' H' p → H' p = some (.lst vs) → RpA K I' vs ds → ds.length ≤ sizeLine → D.rt (.ref p) H'
theorem Post.mono {D : Ends} {c : Ct} (s : Same w.I I') (h : Post K S w env' g' D c) : Post K S (w.im I') env' g' D c := by
  cases c with
  | nx => exact fun σ' I2 H2 s2 R => h σ' I2 H2 (s.trans s2) R
  | br => exact fun σ' I2 H2 s2 R => h σ' I2 H2 (s.trans s2) R
  | co => exact fun σ' I2 H2 s2 R => h σ' I2 H2 (s.trans s2) R
  | re d => exact fun v σ' I2 H2 s2 R => h v σ' I2 H2 (s.trans s2) R
  | rl ds => exact fun p vs σ' I2 H2 s2 R => h p vs σ' I2 H2 (s.trans s2) R
def tS {G : Type} (K : PySem.W.Frag) (S : Gs G) (m : MS G) : TS := fun D σ H => ∃ w env g c env' g', Rel K S w env g σ H ∧ m env g = some (c, env', g') ∧ Post K S w env' g' D c
abbrev DS {G : Type} (X : Cx) (S : Gs G) (st : Stmt) (m : MS G) : Prop := PS X st (tS X.K S m)
abbrev DB {G : Type} (X : Cx) (S : Gs G) (st : List Stmt) (m : MS G) : Prop := PSs X st (tS X.K S m)

def mSkip : MS G := fun env g => some (.nx, env, g)
def mSeq (m1 m2 : MS G) : MS G := fun env g => match m1 env g with
  | some (.nx, env1, g1) => m2 env1 g1
  | x => x
theorem db_nil : DB X S [] mSkip := PSs.imp pss_nil fun D σ H ⟨w, env, g, c, env', g', R, e, k⟩ => by
  cases e
  exact k σ w.I H (Same.refl _) R
theorem ts_seq {D : Ends} (h : tS X.K S (mSeq m1 m2) D σ H) : tSeq (tS X.K S m1) (tS X.K S m2) D σ H := by
  obtain ⟨w, env, g, c, env', g', R, e, k⟩ := h
  unfold mSeq at e
  cases e1 : m1 env g with
  | none => rw [e1] at e; cases e
  | some r =>
    obtain ⟨c1, env1, g1⟩ := r
    rw [e1] at e
    refine ⟨w, env, g, c1, env1, g1, R, e1, ?_⟩
    cases c1 with
    | nx => exact fun σ' I' H' s' R' => ⟨w.im I', env1, g1, c, env', g', R', e, k.mono s'⟩
    | _ => cases e; exact k
theorem db_cons (h1 : DS X S st m1) (h2 : DB X S sts m2) : DB X S (st :: sts) (mSeq m1 m2) := PSs.imp (pss_cons h1 h2) fun _ _ _ h => ts_seq h
theorem db_one (h : DS X S st m) : DB X S [st] m := pss_one h
def mBreak : MS G := fun env g => some (.br, env, g)
def mCont : MS G := fun env g => some (.co, env, g)
theorem ds_pass : DS X S (.Pass pos) mSkip := PS.imp ps_pass fun D σ H ⟨w, env, g, c, env', g', R, e, k⟩ => by cases e; exact k σ w.I H (Same.refl _) R
theorem ds_break : DS X S (.Break pos) mBreak := PS.imp ps_break fun D σ H ⟨w, env, g, c, env', g', R, e, k⟩ => by cases e; exact k σ w.I H (Same.refl _) R
theorem ds_continue : DS X S (.Continue pos) mCont := PS.imp ps_continue fun D σ H ⟨w, env, g, c, env', g', R, e, k⟩ => by cases e; exact k σ w.I H (Same.refl _) R
def mDrop (ma : ME G) : MS G := fun env g => bD (ma env g) fun _ g1 => some (.nx, env, g1)
theorem ds_expr (h : DE X S e ma) (hs : swapsWith e none pos.line X.env = pure false := by rfl) : DS X S (.Expr e pos) (mDrop ma) := PS.imp (ps_expr h hs) fun D σ H ⟨w, env, g, c, env', g', R, e, k⟩ => by
  obtain ⟨x, g1, e1, e⟩ := bD_some e
  cases e
  exact ⟨w, env, g, x, g', R, e1, fun v I' H' s' R' _ => k σ I' H' s' R'⟩
def mRet (ma : ME G) : MS G := fun env g => bD (ma env g) fun d g1 => some (.re d, env, g1)
theorem ds_ret (h : DE X S e ma) : DS X S (.Return (some e) pos) (mRet ma) := PS.imp (ps_ret h) fun D σ H ⟨w, env, g, c, env', g', R, e, k⟩ => by
  obtain ⟨x, g1, e1, e⟩ := bD_some e
  cases e
  exact ⟨w, env, g, x, g', R, e1, fun v I' H' s' R' p => k v σ I' H' s' R' p⟩
def mRetN : MS G := fun env g => some (.re .none, env, g)
theorem ds_retN : DS X S (.Return none pos) mRetN := PS.imp ps_retN fun D σ H ⟨w, env, g, c, env', g', R, e, k⟩ => by
  cases e
  exact k .non σ w.I H (Same.refl _) R .non
def mRetF (ml : ML G) : MS G := fun env g => bD (ml env g) fun ds g1 => some (.rl ds, env, g1)
theorem ds_retF (h : DF X S e ml) : DS X S (.Return (some e) pos) (mRetF ml) := PS.imp (ps_ret h) fun D σ H ⟨w, env, g, c, env', g', R, e, k⟩ => by
  obtain ⟨x, g1, e1, e⟩ := bD_some e
  cases e
  exact ⟨w, env, g, x, g', R, e1, fun p vs I' H' s' R' n hp ra hz => k p vs σ I' H' s' R' n hp ra hz⟩
/-- return a list of one's own -/
def mRetOw (j : Nat) : MS G := fun env g => match env.at j with
  | .ow ds => some (.rl ds, env.set j .un, g)
  | .sh d => some (.re d, env, g)
  | _ => none
theorem ds_retOw (j : Nat) {x : Str} {pos' : Pos} (hN : X.N[j]? = some x := by rfl) (hv : Vis X.env.scope x := by first | exact Or.inl rfl | exact Or.inr (Or.inl rfl) | exact Or.inr (Or.inr rfl)) (hd : (x == ("__debug__" : Str)) = false := by decide)
    (hcd : (x == ("__classdict__" : Str)) = false := by decide) : DS X S (.Return (some (.Name x pos')) pos) (mRetOw j) := PS.imp (ps_ret (pe_var hN hv hd hcd)) fun D σ H ⟨w, env, g, c, env', g', R, e, k⟩ => by
  have q := R.slot j
  unfold mRetOw at e
  cases z : env.at j with
  | ow ds =>
    rw [z] at e q
    cases e
    obtain ⟨p, vs, e1, hp, hi, h0, hf, ra, hz⟩ := q
    exact ⟨_, e1, k p vs σ w.I H (Same.refl _) R.forget (R.nobF (slot_lt R e1) (by rw [z]; exact e1)) hp ra hz⟩
  | sh d =>
    rw [z] at e q
    cases e
    obtain ⟨v, e1, r⟩ := q
    exact ⟨v, e1, k v σ w.I H (Same.refl _) R r⟩
  | _ => rw [z] at e; cases e
def mIfS (mt : MT G) (m1 m2 : MS G) : MS G := fun env g => bD (mt env g) fun b g1 => if b = true then m1 env g1 else m2 env g1
theorem ds_if {sts2 : List Stmt} (hc : DT X S c mt) (h1 : DB X S sts m1) (h2 : DB X S sts2 m2) : DS X S (.If c sts sts2 pos) (mIfS mt m1 m2) := PS.imp (ps_if hc h1 h2) fun D σ H ⟨w, env, g, c, env', g', R, e, k⟩ => by
  obtain ⟨x, g1, e1, e⟩ := bD_some e
  refine ⟨w, env, g, x, g1, R, e1, fun I' H' s' R' => ?_⟩
  cases x with
  | true => exact ⟨w.im I', env, g1, c, env', g', R', e, k.mono s'⟩
  | false => exact ⟨w.im I', env, g1, c, env', g', R', e, k.mono s'⟩
/-- a list of one's own is handed out from here on -/
def mFrz (j : Nat) (m : MS G) : MS G := fun env g => m (env.frz j) g
theorem ds_frz (j : Nat) (h : DS X S st m) : DS X S st (mFrz j m) := PS.imp h fun D σ H ⟨w, env, g, c, env', g', R, e, k⟩ => by
  obtain ⟨I', s', R'⟩ := R.frz j
  exact ⟨w.im I', env.frz j, g, c, env', g', R', e, k.mono s'⟩

/-! ### x = e -/
def mSet (i : Nat) (ma : ME G) : MS G := fun env g => bD (ma env g) fun d g1 => some (.nx, env.set i (.sh d), g1)
def mSetF (i : Nat) (ml : ML G) : MS G := fun env g => bD (ml env g) fun ds g1 => some (.nx, env.set i (.ow ds), g1)
theorem ts_set {i : Nat} {D : Ends} (h : tS X.K S (mSet i ma) D σ H) : tAsg (tE X.K S ma) (gName i) D σ H := by
  obtain ⟨w, env, g, c, env', g', R, e, k⟩ := h
  obtain ⟨x, g1, e1, e⟩ := bD_some e
  cases e
  exact ⟨w, env, g, x, g', R, e1, fun v I' H' s' R' p => k _ I' H' s' (R'.putD p)⟩
theorem ts_setF {i : Nat} {D : Ends} (h : tS X.K S (mSetF i ml) D σ H) : tAsg (tF X.K S ml) (gName i) D σ H := by
  obtain ⟨w, env, g, c, env', g', R, e, k⟩ := h
  obtain ⟨x, g1, e1, e⟩ := bD_some e
  cases e
  exact ⟨w, env, g, x, g', R, e1, fun p vs I' H' s' R' n hp ra hz => k _ I' H' s' (R'.putL n hp ra hz)⟩
theorem ds_set {i : Nat} {x : Str} {pos' : Pos} (hN : X.N.Nodup) (hi : X.N[i]? = some x) (hx : Loc X.env.scope x) (he : DE X S e ma) (hs : swapsWith e (some (.Name x pos')) pos.line X.env = pure false := by rfl)
    (hf : X.fn x = true ∨ X.env.scope.names.lookup x = some .local := by first | exact .inl rfl | exact .inr rfl | assumption) : DS X S (.Assign [.Name x pos'] e pos) (mSet i ma) := PS.imp (ps_set hN hi hx he hs hf) fun _ _ _ h => ts_set h
theorem ds_setF {i : Nat} {x : Str} {pos' : Pos} (hN : X.N.Nodup) (hi : X.N[i]? = some x) (hx : Loc X.env.scope x) (he : DF X S e ml) (hs : swapsWith e (some (.Name x pos')) pos.line X.env = pure false := by rfl)
    (hf : X.fn x = true ∨ X.env.scope.names.lookup x = some .local := by first | exact .inl rfl | exact .inr rfl | assumption) : DS X S (.Assign [.Name x pos'] e pos) (mSetF i ml) := PS.imp (ps_set hN hi hx he hs hf) fun _ _ _ h => ts_setF h

/-! ### targets -/
abbrev MTg (G : Type) := D → Env → G → Option (Env × G)
def tTg {G : Type} (K : PySem.W.Frag) (S : Gs G) (idx : List Nat) (b : MTg G) : TG := fun v σ H Q => ∃ w env g d env' g', Rel K S w env g σ H ∧ Rp K w.I v d ∧ b d env g = some (env', g') ∧
  ∀ σ' I' H', Same w.I I' → Rel K S (w.im I') env' g' σ' H' → σ'.length = σ.length → (∀ k, k ∉ idx → σ'[k]? = σ[k]?) → Q σ' H'
structure DTg {G : Type} (X : Cx) (S : Gs G) (tg : Expr) (idx : List Nat) (b : MTg G) : Prop where
  pg : PG X tg (tTg X.K S idx b)
  ok : ∀ d env g env' g', b d env g = some (env', g') → env'.length = env.length ∧ ∀ k, k ∉ idx → env'.at k = env.at k
def bName (i : Nat) : MTg G := fun d env g => some (env.set i (.sh d), g)
theorem PG.imp {tg : Expr} {t t' : TG} (h : PG X tg t) (i : ∀ v σ H Q, t' v σ H Q → t v σ H Q) : PG X tg t' := ⟨fun pins s σ H v u Q I r q => h.run pins s σ H v u Q I r (i _ _ _ _ q)⟩
theorem dg_name {i : Nat} {x : Str} (hN : X.N.Nodup) (hi : X.N[i]? = some x) (hx : Loc X.env.scope x) (hf : X.fn x = true ∨ X.env.scope.names.lookup x = some .local := by first | exact .inl rfl | exact .inr rfl | assumption) : DTg X S (.Name x pos) [i] (bName i) where
  pg := PG.imp (pg_name hN hi hx hf) fun v σ H Q ⟨w, env, g, d, env', g', R, p, e, k⟩ => by
    cases e
    exact k _ w.I _ (Same.refl _) (R.putD p) (by rw [List.length_set]) fun j hj => by rw [get_set, if_neg (fun z => hj (by simp [z.1]))]
  ok := fun d env g env' g' e => by
    cases e
    exact ⟨by rw [List.length_set], fun k hk => by rw [at_set, if_neg (fun z => hk (by simp [z.1]))]⟩
abbrev MTgs (G : Type) := List D → Env → G → Option (Env × G)
def tTgs {G : Type} (K : PySem.W.Frag) (S : Gs G) (idx : List Nat) (b : MTgs G) : TGs := fun vs σ H Q => ∃ w env g ds env' g', Rel K S w env g σ H ∧ RpA K w.I vs ds ∧ b ds env g = some (env', g') ∧
  ∀ σ' I' H', Same w.I I' → Rel K S (w.im I') env' g' σ' H' → σ'.length = σ.length → (∀ k, k ∉ idx → σ'[k]? = σ[k]?) → Q σ' H'
structure DTgs {G : Type} (X : Cx) (S : Gs G) (tgs : List Expr) (idx : List Nat) (b : MTgs G) : Prop where
  pg : PGs X tgs (tTgs X.K S idx b)
  ok : ∀ d env g env' g', b d env g = some (env', g') → env'.length = env.length ∧ ∀ k, k ∉ idx → env'.at k = env.at k
theorem PGs.imp {tg : List Expr} {t t' : TGs} (h : PGs X tg t) (i : ∀ v σ H Q, t' v σ H Q → t v σ H Q) : PGs X tg t' := ⟨fun pins s σ H v u Q I r q => h.run pins s σ H v u Q I r (i _ _ _ _ q)⟩
def bNil : MTgs G := fun ds env g => match ds with
  | [] => some (env, g)
  | _ => none
def bCons (b : MTg G) (bs : MTgs G) : MTgs G := fun ds env g => match ds with
  | d :: r => (b d env g).bind fun q => bs r q.1 q.2
  | _ => none
theorem dgs_nil : DTgs X S [] [] bNil where
  pg := PGs.imp pgs_nil fun v σ H Q ⟨w, env, g, d, env', g', R, p, e, k⟩ => by
    cases p with
    | nil => cases e; exact ⟨rfl, k σ w.I H (Same.refl _) R rfl fun _ _ => rfl⟩
    | cons _ _ => cases e
  ok := fun d env g env' g' e => by
    cases d with
    | nil => cases e; exact ⟨rfl, fun _ _ => rfl⟩
    | cons _ _ => cases e
theorem dgs_cons {i1 i2 : List Nat} {b1 : MTg G} {b2 : MTgs G} (h1 : DTg X S e i1 b1) (h2 : DTgs X S es i2 b2) (hs : (assignEach (e :: es) X.env).map (·.2) = assign e X.env :: (assignEach es X.env).map (·.2) := by rfl) : DTgs X S (e :: es) (i1 ++ i2) (bCons b1 b2) where
  pg := PGs.imp (pgs_cons h1.pg h2.pg hs) fun v σ H Q ⟨w, env, g, d, env', g', R, p, e, k⟩ => by
    cases p with
    | nil => cases e
    | cons p ps =>
      obtain ⟨⟨env1, g1⟩, e1, e⟩ := Option.bind_eq_some_iff.mp e
      refine ⟨_, _, rfl, w, env, g, _, env1, g1, R, p, e1, fun σ1 I1 H1 s1 R1 l1 f1 => ⟨w.im I1, env1, g1, _, env', g', R1, ps.mono s1, e, fun σ2 I2 H2 s2 R2 l2 f2 => k σ2 I2 H2 (s1.trans s2) R2 (l2.trans l1) fun j hj => ?_⟩⟩
      rw [List.mem_append] at hj
      exact (f2 j fun z => hj (.inr z)).trans (f1 j fun z => hj (.inl z))
  ok := fun d env g env' g' e => by
    cases d with
    | nil => cases e
    | cons d ds =>
      obtain ⟨⟨env1, g1⟩, e1, e⟩ := Option.bind_eq_some_iff.mp e
      have h3 := h1.ok _ _ _ _ _ e1
      have h4 := h2.ok _ _ _ _ _ e
      refine ⟨h4.1.trans h3.1, fun k hk => ?_⟩
      rw [List.mem_append] at hk
      exact (h4.2 k fun z => hk (.inr z)).trans (h3.2 k fun z => hk (.inl z))
def bTup (n : Nat) (bs : MTgs G) : MTg G := fun d env g => match d with
  | .tuple ds => if ds.length = n then bs ds env g else none
  | _ => none
theorem dg_tup {k n : Nat} {idx : List Nat} {bs : MTgs G} (hc : X.calm = true) (h : DTgs X S es idx bs) (hn : (assignEach es X.env).length = n := by rfl) (hst : (assignEach es X.env).findIdx? (·.1) = none := by rfl) : DTg X S (.Tuple es k pos) idx (bTup n bs) where
  pg := PG.imp (pg_tup hc h.pg hn hst) fun v σ H Q ⟨w, env, g, d, env', g', R, p, e, k⟩ => by
    cases p with
    | tup hp ra hz =>
      have e : (if _ = n then _ else none) = some (env', g') := e
      split at e
      · rename_i hl
        exact ⟨_, _, rfl, same_t R.eI hp, by rw [ra.len]; exact hl, w, env, g, _, env', g', R, ra, e, k⟩
      · cases e
    | _ => cases e
  ok := fun d env g env' g' e => by
    cases d with
    | tuple ds =>
      have e : (if _ = n then _ else none) = some (env', g') := e
      split at e
      · exact h.ok _ _ _ _ _ e
      · cases e
    | _ => cases e
/-- a, b = c, d of plain names -/
def mPar (i j : Nat) (ml : ML G) : MS G := fun env g => bD (ml env g) fun ds g1 => match ds with
  | [x, y] => some (.nx, (env.set i (.sh x)).set j (.sh y), g1)
  | _ => none
theorem ds_par {i j : Nat} {x y : Str} {a b : Expr} {px py pt : Pos} {kt k2 pt2} (hc : X.calm = true) (hN : X.N.Nodup) (hi : X.N[i]? = some x) (hj : X.N[j]? = some y) (hij : i ≠ j)
    (hx : X.env.scope.names.lookup x = some .local) (hy : X.env.scope.names.lookup y = some .local) (ha : DA X S [a, b] ml)
    (hw : swappedStores [.Tuple [.Name x px, .Name y py] kt pt] (.Tuple [a, b] k2 pt2) X.env = pure (some [x, y]))
    (hs : swapsWithSole [.Tuple [.Name x px, .Name y py] kt pt] (.Tuple [a, b] k2 pt2) pos.line X.env = pure false := by rfl) :
    DS X S (.Assign [.Tuple [.Name x px, .Name y py] kt pt] (.Tuple [a, b] k2 pt2) pos) (mPar i j ml) := PS.imp (ps_par hc hN hi hj hij hx hy ha hw hs) fun D σ H ⟨w, env, g, c, env', g', R, e, k⟩ => by
  obtain ⟨ds, g1, e1, e⟩ := bD_some e
  split at e
  · cases e
    refine ⟨w, env, g, _, g', R, e1, fun vs I' H' s' R' ra => ?_⟩
    cases ra with
    | cons r1 ra =>
      cases ra with
      | cons r2 ra =>
        cases ra
        exact ⟨_, _, rfl, k _ I' H' s' ((R'.putD r1).putD r2)⟩
  · cases e
/-- a, b = e -/
def mAsg (b : MTg G) (ma : ME G) : MS G := fun env g => bD (ma env g) fun d g1 => (b d env g1).map fun q => (.nx, q.1, q.2)
theorem ds_asg {tg : Expr} {idx : List Nat} {bt : MTg G} (he : DE X S e ma) (hg : DTg X S tg idx bt) (hs : swapsWithSole [tg] e pos.line X.env = pure false := by rfl) (hw : swappedStores [tg] e X.env = pure none := by rfl)
    (h1 : (assignEach [tg] X.env).map (·.2) = [assign tg X.env] := by rfl) : DS X S (.Assign [tg] e pos) (mAsg bt ma) := PS.imp (ps_asg he hg.pg hs hw h1) fun D σ H ⟨w, env, g, c, env', g', R, e, k⟩ => by
  obtain ⟨x, g1, e1, e⟩ := bD_some e
  obtain ⟨⟨env1, g2⟩, e2, e⟩ := Option.map_eq_some_iff.mp e
  cases e
  exact ⟨w, env, g, x, g1, R, e1, fun v I' H' s' R' p => ⟨w.im I', env, g1, x, env1, g2, R', p, e2, fun σ' I2 H2 s2 R2 _ _ => k σ' I2 H2 (s'.trans s2) R2⟩⟩
end
end Pd

/-! Pd: what is walked, loops, comprehensions. -/
namespace Pd
open PySem PySem.Spec L2
section
variable {G : Type} {X : Cx} {S : Gs G} {a b c e : Expr} {es rest : List Expr} {pos : Pos} {ma mb mc : ME G} {mt mu : MT G} {ml : ML G} {st : Stmt} {sts body : List Stmt} {m m1 m2 : MS G} {tg iter : Expr}
variable {K : PySem.W.Frag} {w : Wd} {env env' : Env} {g g' : G} {σ : St} {H H' I' : Hp}

/-! ### what is walked: it yields data, whatever stands behind -/
structure ItOk (K : PySem.W.Frag) (J : It) (I : Hp) (ds : List D) : Prop where
  go : ∀ i I' H', i < ds.length → Same I I' → Same I' H' → J.go i H'
  yl : ∀ i I' H' x H'' d, ds[i]? = some d → Same I I' → Same I' H' → J.yld i H' x H'' → ∃ I'', Pst I' H' I'' H'' ∧ Rp K I'' x d
  st : ∀ i I' H', ds.length ≤ i → Same I I' → Same I' H' → J.stop i H'
def tI {G : Type} (K : PySem.W.Frag) (S : Gs G) (m : ML G) : TI := fun σ H R => ∃ w env g ds g', Rel K S w env g σ H ∧ m env g = some (ds, g') ∧
  ∀ J I' H', Same w.I I' → Rel K S (w.im I') env g' σ H' → ItOk K J I' ds → ds.length ≤ sizeLine → R J H'
abbrev DI {G : Type} (X : Cx) (S : Gs G) (tg iter : Expr) (m : ML G) : Prop := PI X tg iter (tI X.K S m)
theorem PI.imp {t t' : TI} (h : PI X tg iter t) (i : ∀ σ H R, t' σ H R → t σ H R) : PI X tg iter t' := ⟨fun pins s σ H R I q => h.run pins s σ H R I (i _ _ _ q)⟩
def mItL (ma : ME G) : ML G := fun env g => bD (ma env g) fun x g1 => match x with
  | .list ds => some (ds, g1)
  | _ => none
def mItT (ma : ME G) : ML G := fun env g => bD (ma env g) fun x g1 => match x with
  | .tuple ds => some (ds, g1)
  | _ => none
def mItS (ma : ME G) : ML G := fun env g => bD (ma env g) fun x g1 => match x with
  | .str z => some (z.cps.toList.map fun c => .str ⟨#[c]⟩, g1)
  | _ => none
theorem lst_seq {K : PySem.W.Frag} {H : Hp} {p : Addr} {vs xs : List V} (hp : H p = some (.lst vs)) (h : Rd H p (.lst xs)) : xs = vs := by
  rcases h with h | ⟨o, h⟩
  · rw [hp] at h; cases h; rfl
  · rw [hp] at h; cases h
theorem itl_ok {p : Addr} {vs : List V} {ds : List D} {I : Hp} (hp : I p = some (.lst vs)) (ra : RpA K I vs ds) : ItOk K (Itl K p) I ds where
  go := fun i I' H' hi s1 s2 => by
    have hv : i < vs.length := by rw [ra.len]; exact hi
    exact ⟨vs, vs[i], SqL.of (s2 _ _ (s1 _ _ hp)), by simp [hv]⟩
  yl := fun i I' H' x H'' d hd s1 s2 y => by
    obtain ⟨e, y⟩ := y
    subst e
    have hx := y vs (SqL.of (s2 _ _ (s1 _ _ hp)))
    obtain ⟨d', e1, r⟩ := ra.getV hx
    rw [hd] at e1
    cases e1
    exact ⟨I', Pst.refl s2, r.mono s1⟩
  st := fun i I' H' hi s1 s2 => ⟨vs, SqL.of (s2 _ _ (s1 _ _ hp)), by rw [ra.len]; exact hi⟩
theorem itt_ok {p : Addr} {vs : List V} {ds : List D} {I : Hp} (hp : SqT K I p vs) (ra : RpA K I vs ds) : ItOk K (Itt K p) I ds where
  go := fun i I' H' hi s1 s2 => by
    have hv : i < vs.length := by rw [ra.len]; exact hi
    exact ⟨vs, vs[i], same_t s2 (same_t s1 hp), by simp [hv]⟩
  yl := fun i I' H' x H'' d hd s1 s2 y => by
    obtain ⟨e, y⟩ := y
    subst e
    have hx := y vs (same_t s2 (same_t s1 hp))
    obtain ⟨d', e1, r⟩ := ra.getV hx
    rw [hd] at e1
    cases e1
    exact ⟨I', Pst.refl s2, r.mono s1⟩
  st := fun i I' H' hi s1 s2 => ⟨vs, same_t s2 (same_t s1 hp), by rw [ra.len]; exact hi⟩
theorem di_list (ha : DE X S a ma) : DI X S tg a (mItL ma) := PI.imp (pi_list ha) fun σ H R ⟨w, env, g, ds, g', Re, e, k⟩ => by
  obtain ⟨x, g1, e1, e⟩ := bD_some e
  cases x with
  | list xs =>
    cases e
    refine ⟨w, env, g, _, g', Re, e1, fun v I' H' s' R' p => ?_⟩
    cases p with
    | lst hp ra hz => exact ⟨_, rfl, ⟨_, SqL.of (R'.eI _ _ hp)⟩, k _ I' H' s' R' (itl_ok hp ra) hz⟩
  | _ => cases e
theorem di_tup (ha : DE X S a ma) : DI X S tg a (mItT ma) := PI.imp (pi_tup ha) fun σ H R ⟨w, env, g, ds, g', Re, e, k⟩ => by
  obtain ⟨x, g1, e1, e⟩ := bD_some e
  cases x with
  | tuple xs =>
    cases e
    refine ⟨w, env, g, _, g', Re, e1, fun v I' H' s' R' p => ?_⟩
    cases p with
    | tup hp ra hz => exact ⟨_, rfl, ⟨_, same_t R'.eI hp⟩, k _ I' H' s' R' (itt_ok hp ra) hz⟩
  | _ => cases e
theorem di_str (ha : DE X S a ma) : DI X S tg a (mItS ma) := PI.imp (pi_str ha) fun σ H R ⟨w, env, g, ds, g', Re, e, k⟩ => by
  obtain ⟨x, g1, e1, e⟩ := bD_some e
  cases x with
  | str z =>
    cases e
    refine ⟨w, env, g, _, g', Re, e1, fun v I' H' s' R' p => ?_⟩
    cases p with
    | str hz =>
      have hl : (z.cps.toList.map fun c => (PyData.str ⟨#[c]⟩ : D)).length = z.cps.size := by rw [List.length_map, Array.length_toList]
      refine ⟨z, rfl, k _ I' H' s' R' ⟨fun i I2 H2 hi _ _ => ?_, fun i I2 H2 x H3 d hd _ s2 y => ?_, fun i I2 H2 hi _ _ => ?_⟩ ?_⟩
      · show i < z.cps.size
        rw [hl] at hi; exact hi
      · obtain ⟨e, c, ec, ex⟩ := y
        subst e; subst ex
        rw [List.getElem?_map, Array.getElem?_toList, ec] at hd
        cases hd
        exact ⟨I2, Pst.refl s2, .str (sok_char hz (by rw [← Array.getElem?_toList] at ec; exact List.mem_of_getElem? ec))⟩
      · show z.cps.size ≤ i
        rw [hl] at hi; exact hi
      · rw [hl]; exact hz.1
  | _ => cases e
/-- lo, lo + 1, .. -/
def rng (lo : Int) (n : Nat) : List D := (List.range n).map fun (k : Nat) => .int (lo + (k : Int))
theorem rng_get {lo : Int} {n i : Nat} (h : i < n) : (rng lo n)[i]? = some (.int (lo + (i : Int))) := by
  unfold rng
  rw [List.getElem?_map, List.getElem?_range h]; rfl
theorem rng_len (lo : Int) (n : Nat) : (rng lo n).length = n := by unfold rng; rw [List.length_map, List.length_range]
theorem itr_ok (lo : Int) (n : Nat) (I : Hp) : ItOk K (Itr lo n) I (rng lo n) where
  go := fun i I' H' hi _ _ => by rw [rng_len] at hi; exact hi
  yl := fun i I' H' x H'' d hd s1 s2 y => by
    obtain ⟨e, ex⟩ := y
    subst e; subst ex
    have hi : i < n := by
      have := (List.getElem?_eq_some_iff.mp hd).1
      rw [rng_len] at this; exact this
    rw [rng_get hi] at hd
    cases hd
    exact ⟨I', Pst.refl s2, .int _⟩
  st := fun i I' H' hi _ _ => by rw [rng_len] at hi; exact hi
def mRng1 (ml : ML G) : ML G := fun env g => bD (ml env g) fun xs g1 => match xs with
  | [.int j] => if -16777216 < j ∧ j < 16777216 then some (rng 0 j.toNat, g1) else none
  | _ => none
def mRng2 (ml : ML G) : ML G := fun env g => bD (ml env g) fun xs g1 => match xs with
  | [.int i, .int j] => if (-16777216 < i ∧ i < 16777216) ∧ -16777216 < j ∧ j < 16777216 ∧ j - i < 16777216 then some (rng i (j - i).toNat, g1) else none
  | _ => none
theorem line_val : sizeLine = 16777216 := sizeLine_eq
theorem di_range1 {p : Pos} (hg : Gl X "range") (hm : X.mg "range" = none) (ha : DA X S [a] ml) (hs : starEach [a] X.env = [(false, eval a X.env)] := by rfl) : DI X S tg (.Call (.Name "range" p) [a] [] pos) (mRng1 ml) := PI.imp (pi_range1 hg hm ha hs) fun σ H R ⟨w, env, g, ds, g', Re, e, k⟩ => by
  obtain ⟨x, g1, e1, e⟩ := bD_some e
  split at e
  · rename_i j
    split at e
    · rename_i hj
      cases e
      refine ⟨w, env, g, _, g', Re, e1, fun vs I' H' s' R' p => ?_⟩
      cases p with
      | cons p q =>
        cases p
        cases q
        exact ⟨j, rfl, by omega, by omega, k _ I' H' s' R' (itr_ok 0 j.toNat I') (by rw [rng_len, line_val]; omega)⟩
    · cases e
  · cases e
theorem di_range2 {p : Pos} (hg : Gl X "range") (hm : X.mg "range" = none) (ha : DA X S [a, b] ml) (hs : starEach [a, b] X.env = [(false, eval a X.env), (false, eval b X.env)] := by rfl) (hs2 : starEach [b] X.env = [(false, eval b X.env)] := by rfl) :
    DI X S tg (.Call (.Name "range" p) [a, b] [] pos) (mRng2 ml) := PI.imp (pi_range2 hg hm ha hs hs2) fun σ H R ⟨w, env, g, ds, g', Re, e, k⟩ => by
  obtain ⟨x, g1, e1, e⟩ := bD_some e
  split at e
  · rename_i i j
    split at e
    · rename_i hj
      cases e
      refine ⟨w, env, g, _, g', Re, e1, fun vs I' H' s' R' p => ?_⟩
      cases p with
      | cons p q =>
        cases p
        cases q with
        | cons p q =>
          cases p
          cases q
          exact ⟨i, j, rfl, ⟨by omega, by omega, by omega, by omega⟩, k _ I' H' s' R' (itr_ok i (j - i).toNat I') (by rw [rng_len, line_val]; omega)⟩
    · cases e
  · cases e
/-- pairs of the place and the item -/
def enm : Nat → List D → List D
  | _, [] => []
  | n, d :: ds => .tuple [.int (n : Int), d] :: enm (n + 1) ds
theorem enm_get : ∀ {n : Nat} {ds : List D} {i : Nat} {t : D}, (enm n ds)[i]? = some t → ∃ d, ds[i]? = some d ∧ t = .tuple [.int ((n + i : Nat) : Int), d]
  | _, [], _, _, h => by simp [enm] at h
  | n, d :: ds, 0, t, h => by
    simp only [enm, List.getElem?_cons_zero, Option.some.injEq] at h
    exact ⟨d, rfl, h.symm⟩
  | n, d :: ds, i + 1, t, h => by
    simp only [enm, List.getElem?_cons_succ] at h
    obtain ⟨x, h1, h2⟩ := enm_get h
    exact ⟨x, by simpa using h1, by rw [h2]; congr 3; omega⟩
theorem enm_len : ∀ (n : Nat) (ds : List D), (enm n ds).length = ds.length
  | _, [] => rfl
  | n, d :: ds => by simp only [enm, List.length_cons, enm_len (n + 1) ds]
theorem ite_ok {p : Addr} {vs : List V} {ds : List D} {I : Hp} (hp : I p = some (.lst vs)) (ra : RpA K I vs ds) : ItOk K (Ite K p) I (enm 0 ds) where
  go := fun i I' H' hi s1 s2 => by
    rw [enm_len] at hi
    have hv : i < vs.length := by rw [ra.len]; exact hi
    exact ⟨vs, vs[i], SqL.of (s2 _ _ (s1 _ _ hp)), by simp [hv]⟩
  yl := fun i I' H' x H'' d hd s1 s2 y => by
    obtain ⟨T, u, ex, hT, eH, y⟩ := y
    subst ex; subst eH
    obtain ⟨d0, h1, rfl⟩ := enm_get hd
    have hx := y vs (SqL.of (s2 _ _ (s1 _ _ hp)))
    obtain ⟨d', e1, r⟩ := ra.getV hx
    rw [h1] at e1
    cases e1
    have ps := Pst.new (p := T) (o := .tup [.int (i : Nat), u]) s2 hT
    refine ⟨_, ps, .tup (SqT.of upd_same) ?_ (by show 2 ≤ sizeLine; decide)⟩
    rw [Nat.zero_add]
    exact .cons (.int _) (.cons ((r.mono s1).mono ps.eI) .nil)
  st := fun i I' H' hi s1 s2 => ⟨vs, SqL.of (s2 _ _ (s1 _ _ hp)), by rw [enm_len] at hi; rw [ra.len]; exact hi⟩
def mEnum (ml : ML G) : ML G := fun env g => bD (ml env g) fun xs g1 => match xs with
  | [.list ds] => some (enm 0 ds, g1)
  | _ => none
theorem di_enum {p tpos : Pos} {elts : List Expr} {kk : Nat} (hg : Gl X "enumerate") (hm : X.mg "enumerate" = none) (ha : DA X S [a] ml) (hs : starEach [a] X.env = [(false, eval a X.env)] := by rfl) :
    DI X S (.Tuple elts kk tpos) (.Call (.Name "enumerate" p) [a] [] pos) (mEnum ml) := PI.imp (pi_enum hg hm ha hs) fun σ H R ⟨w, env, g, ds, g', Re, e, k⟩ => by
  obtain ⟨x, g1, e1, e⟩ := bD_some e
  split at e
  · cases e
    refine ⟨w, env, g, _, g', Re, e1, fun vs I' H' s' R' p => ?_⟩
    cases p with
    | cons p q =>
      cases q
      cases p with
      | lst hp ra hz => exact ⟨_, _, rfl, SqL.of (R'.eI _ _ hp), k _ I' H' s' R' (ite_ok hp ra) (by rw [enm_len]; exact hz)⟩
  · cases e
def zipD : List D → List D → List D
  | x :: xs, y :: ys => .tuple [x, y] :: zipD xs ys
  | _, _ => []
theorem zipD_get : ∀ {xs ys : List D} {i : Nat} {t : D}, (zipD xs ys)[i]? = some t → ∃ x y, xs[i]? = some x ∧ ys[i]? = some y ∧ t = .tuple [x, y]
  | [], _, _, _, h => by simp [zipD] at h
  | _ :: _, [], _, _, h => by simp [zipD] at h
  | x :: xs, y :: ys, 0, t, h => by
    simp only [zipD, List.getElem?_cons_zero, Option.some.injEq] at h
    exact ⟨x, y, rfl, rfl, h.symm⟩
  | x :: xs, y :: ys, i + 1, t, h => by
    simp only [zipD, List.getElem?_cons_succ] at h
    obtain ⟨u, v, h1, h2, h3⟩ := zipD_get h
    exact ⟨u, v, by simpa using h1, by simpa using h2, h3⟩
theorem zipD_len : ∀ (xs ys : List D), (zipD xs ys).length = min xs.length ys.length
  | [], _ => by simp [zipD]
  | _ :: _, [] => by simp [zipD]
  | x :: xs, y :: ys => by simp only [zipD, List.length_cons, zipD_len xs ys]; omega
theorem itz_ok {p q : Addr} {vs us : List V} {ds es : List D} {I : Hp} (hp : I p = some (.lst vs)) (hq : I q = some (.lst us)) (ra : RpA K I vs ds) (rb : RpA K I us es) : ItOk K (Itz K p q) I (zipD ds es) where
  go := fun i I' H' hi s1 s2 => by
    rw [zipD_len] at hi
    have hv : i < vs.length := by rw [ra.len]; omega
    have hu : i < us.length := by rw [rb.len]; omega
    exact ⟨vs, us, vs[i], us[i], SqL.of (s2 _ _ (s1 _ _ hp)), SqL.of (s2 _ _ (s1 _ _ hq)), by simp [hv], by simp [hu]⟩
  yl := fun i I' H' x H'' d hd s1 s2 y => by
    obtain ⟨T, u, v, ex, hT, eH, y1, y2⟩ := y
    subst ex; subst eH
    obtain ⟨d0, e0, h1, h2, rfl⟩ := zipD_get hd
    obtain ⟨d', f1, r1⟩ := ra.getV (y1 vs (SqL.of (s2 _ _ (s1 _ _ hp))))
    obtain ⟨e', f2, r2⟩ := rb.getV (y2 us (SqL.of (s2 _ _ (s1 _ _ hq))))
    rw [h1] at f1; cases f1
    rw [h2] at f2; cases f2
    have ps := Pst.new (p := T) (o := .tup [u, v]) s2 hT
    exact ⟨_, ps, .tup (SqT.of upd_same) (.cons ((r1.mono s1).mono ps.eI) (.cons ((r2.mono s1).mono ps.eI) .nil)) (by show 2 ≤ sizeLine; decide)⟩
  st := fun i I' H' hi s1 s2 => ⟨vs, us, SqL.of (s2 _ _ (s1 _ _ hp)), SqL.of (s2 _ _ (s1 _ _ hq)), by
    rw [zipD_len] at hi
    have h1 := ra.len
    have h2 := rb.len
    omega⟩
def mZip (ml : ML G) : ML G := fun env g => bD (ml env g) fun xs g1 => match xs with
  | [.list ds, .list es] => some (zipD ds es, g1)
  | _ => none
theorem di_zip {p tpos : Pos} {elts : List Expr} {kk : Nat} (hg : Gl X "zip") (hm : X.mg "zip" = none) (ha : DA X S [a, b] ml) (hs : starEach [a, b] X.env = (false, eval a X.env) :: starEach [b] X.env := by rfl) (hpl : (backTo pos (starEach [b] X.env)).any (·.1) = false := by rfl) :
    DI X S (.Tuple elts kk tpos) (.Call (.Name "zip" p) [a, b] [] pos) (mZip ml) := PI.imp (pi_zip hg hm ha hs hpl) fun σ H R ⟨w, env, g, ds, g', Re, e, k⟩ => by
  obtain ⟨x, g1, e1, e⟩ := bD_some e
  split at e
  · cases e
    refine ⟨w, env, g, _, g', Re, e1, fun vs I' H' s' R' p => ?_⟩
    cases p with
    | cons p q =>
      cases q with
      | cons q r =>
        cases r
        cases p with
        | lst hp ra hz =>
          cases q with
          | lst hq rb hy => exact ⟨_, _, _, _, rfl, SqL.of (R'.eI _ _ hp), SqL.of (R'.eI _ _ hq), k _ I' H' s' R' (itz_ok hp hq ra rb) (by rw [zipD_len]; omega)⟩
  · cases e

/-! ### for -/
def loopL (b : MTg G) (mb : MS G) : List D → Env → G → Option (Ct × Env × G)
  | [], env, g => some (.nx, env, g)
  | d :: ds, env, g => match b d env g with
    | none => none
    | some (env1, g1) => match mb env1 g1 with
      | none => none
      | some (.nx, e, g2) => loopL b mb ds e g2
      | some (.co, e, g2) => loopL b mb ds e g2
      | some (.br, e, g2) => some (.nx, e, g2)
      | some (.re d, e, g2) => some (.re d, e, g2)
      | some (.rl d, e, g2) => some (.rl d, e, g2)
def mFor (ml : ML G) (b : MTg G) (mb : MS G) : MS G := fun env g => bD (ml env g) fun ds g1 => loopL b mb ds env g1
theorem ts_for {idx : List Nat} {bt : MTg G} {mb : MS G} {D : Ends} (h : tS X.K S (mFor ml bt mb) D σ H) : tFor (tI X.K S ml) (tTg X.K S idx bt) (tS X.K S mb) D σ H := by
  obtain ⟨w, env, g, c, env', g', R, e, k⟩ := h
  obtain ⟨ds, g1, e1, e⟩ := bD_some e
  refine ⟨w, env, g, ds, g1, R, e1, fun J I1 H1 s1 R1 ok hz => ?_⟩
  refine ⟨fun i m σ2 H2 => m = ds.length - i ∧ i ≤ ds.length ∧ ∃ I2 env2 g2, Same I1 I2 ∧ Rel X.K S (w.im I2) env2 g2 σ2 H2 ∧ loopL bt mb (ds.drop i) env2 g2 = some (c, env', g'), ⟨ds.length, by omega, Nat.zero_le _, I1, env, g1, Same.refl _, R1, e⟩, ?_⟩
  rintro i m σ2 H2 ⟨rfl, hi, I2, env2, g2, s2, R2, e2⟩
  by_cases hlt : i < ds.length
  · refine .inr ⟨ok.go i I2 H2 hlt s2 R2.eI, fun σ' H' => i + 1 ≤ ds.length ∧ ∃ I2 env2 g2, Same I1 I2 ∧ Rel X.K S (w.im I2) env2 g2 σ' H' ∧ loopL bt mb (ds.drop (i + 1)) env2 g2 = some (c, env', g'), fun σ' H' ⟨q1, q⟩ => ⟨ds.length - (i + 1), by omega, rfl, q1, q⟩, fun x H' y => ?_⟩
    have hd : ds[i]? = some ds[i] := by simp [hlt]
    obtain ⟨I3, ps, r⟩ := ok.yl i I2 H2 x H' _ hd s2 R2.eI y
    rw [List.drop_eq_getElem_cons hlt] at e2
    unfold loopL at e2
    cases eb : bt ds[i] env2 g2 with
    | none => rw [eb] at e2; cases e2
    | some eg =>
      obtain ⟨env3, g3⟩ := eg
      rw [eb] at e2
      dsimp only at e2
      refine ⟨w.im I3, env2, g2, ds[i], env3, g3, R2.pst ps, r, eb, fun σ3 I4 H3 s4 R3 _ _ => ?_⟩
      cases em : mb env3 g3 with
      | none => rw [em] at e2; cases e2
      | some r4 =>
        obtain ⟨c4, env4, g4⟩ := r4
        rw [em] at e2
        have s3 : Same I1 I4 := (s2.trans ps.eI).trans s4
        refine ⟨w.im I4, env3, g3, c4, env4, g4, R3, em, ?_⟩
        cases c4 with
        | nx => exact fun σ' I5 H5 s5 R5 => ⟨by omega, I5, env4, g4, s3.trans s5, R5, e2⟩
        | co => exact fun σ' I5 H5 s5 R5 => ⟨by omega, I5, env4, g4, s3.trans s5, R5, e2⟩
        | br => cases e2; exact fun σ' I5 H5 s5 R5 => k σ' I5 H5 (s1.trans (s3.trans s5)) R5
        | re d => cases e2; exact fun v σ' I5 H5 s5 R5 p => k v σ' I5 H5 (s1.trans (s3.trans s5)) R5 p
        | rl d => cases e2; exact fun p vs σ' I5 H5 s5 R5 n hp ra z => k p vs σ' I5 H5 (s1.trans (s3.trans s5)) R5 n hp ra z
  · have hi' : i = ds.length := by omega
    subst hi'
    rw [List.drop_length] at e2
    cases e2
    exact .inl ⟨ok.st _ I2 H2 (Nat.le_refl _) s2 R2.eI, k σ2 I2 H2 (s1.trans s2) R2⟩
theorem ds_for {idx : List Nat} {bt : MTg G} {mb : MS G} (hp : PassesOwn (model X.prog X.w) X.A X.env X.xe) (hc : X.calm = true) (hi : DI X S tg iter ml) (hg : DTg X S tg idx bt) (hb : DB X S body mb)
    (hs : ∀ x, foldedSetIterable iter X.env x = pure x := by intro _; rfl) : DS X S (.For tg iter body [] pos) (mFor ml bt mb) := PS.imp (ps_for hp hc hi hg.pg hb hs) fun _ _ _ h => ts_for h

/-! ### while -/
def whileN (mt : MT G) (mb : MS G) : Nat → Env → G → Option (Ct × Env × G)
  | 0, _, _ => none
  | n + 1, env, g => match mt env g with
    | none => none
    | some (false, g1) => some (.nx, env, g1)
    | some (true, g1) => match mb env g1 with
      | none => none
      | some (.nx, e, g2) => whileN mt mb n e g2
      | some (.co, e, g2) => whileN mt mb n e g2
      | some (.br, e, g2) => some (.nx, e, g2)
      | some (.re d, e, g2) => some (.re d, e, g2)
      | some (.rl d, e, g2) => some (.rl d, e, g2)
theorem whileN_succ {mt : MT G} {mb : MS G} : ∀ {n : Nat} {env : Env} {g : G} {r}, whileN mt mb n env g = some r → whileN mt mb (n + 1) env g = some r
  | 0, _, _, _, h => by simp [whileN] at h
  | n + 1, env, g, r, h => by
    unfold whileN at h ⊢
    cases e : mt env g with
    | none => rw [e] at h; cases h
    | some q =>
      obtain ⟨b, g1⟩ := q
      rw [e] at h
      cases b with
      | false => exact h
      | true =>
        simp only at h ⊢
        cases e2 : mb env g1 with
        | none => rw [e2] at h; cases h
        | some q =>
          obtain ⟨c, e3, g2⟩ := q
          rw [e2] at h
          cases c with
          | nx => exact whileN_succ h
          | co => exact whileN_succ h
          | _ => exact h
theorem whileN_mono {mt : MT G} {mb : MS G} {n m : Nat} {env : Env} {g : G} {r} (h : whileN mt mb n env g = some r) (hm : n ≤ m) : whileN mt mb m env g = some r := by
  induction hm with
  | refl => exact h
  | step _ ih => exact whileN_succ ih
open Classical in
noncomputable def mWhile (mt : MT G) (mb : MS G) : MS G := fun env g => if h : ∃ n r, whileN mt mb n env g = some r then some (Classical.choose (Classical.choose_spec h)) else none
theorem mWhile_eq {mt : MT G} {mb : MS G} {n : Nat} {env : Env} {g : G} {r} (h : whileN mt mb n env g = some r) : mWhile mt mb env g = some r := by
  have hex : ∃ n r, whileN mt mb n env g = some r := ⟨n, r, h⟩
  unfold mWhile
  rw [dif_pos hex]
  have q := Classical.choose_spec (Classical.choose_spec hex)
  have q1 := whileN_mono q (Nat.le_max_left _ n)
  have q2 := whileN_mono h (Nat.le_max_right (Classical.choose hex) n)
  rw [q1] at q2
  exact q2
theorem mWhile_some {mt : MT G} {mb : MS G} {env : Env} {g : G} {r} (h : mWhile mt mb env g = some r) : ∃ n, whileN mt mb n env g = some r := by
  unfold mWhile at h
  split at h
  · rename_i hex
    cases h
    exact ⟨_, Classical.choose_spec (Classical.choose_spec hex)⟩
  · cases h
theorem ts_while {mb : MS G} {D : Ends} (h : tS X.K S (mWhile mt mb) D σ H) : tWhile (tT X.K S mt) (tS X.K S mb) D σ H := by
  obtain ⟨w, env, g, c, env', g', R, e, k⟩ := h
  obtain ⟨n, e⟩ := mWhile_some e
  refine ⟨fun m σ2 H2 => ∃ I2 env2 g2, Same w.I I2 ∧ Rel X.K S (w.im I2) env2 g2 σ2 H2 ∧ whileN mt mb m env2 g2 = some (c, env', g'), ⟨n, w.I, env, g, Same.refl _, R, e⟩, ?_⟩
  rintro m σ2 H2 ⟨I2, env2, g2, s2, R2, e2⟩
  cases m with
  | zero => simp [whileN] at e2
  | succ m =>
    unfold whileN at e2
    cases et : mt env2 g2 with
    | none => rw [et] at e2; cases e2
    | some q =>
      obtain ⟨b, g3⟩ := q
      rw [et] at e2
      refine ⟨w.im I2, env2, g2, b, g3, R2, et, fun I3 H3 s3 R3 => ?_⟩
      cases b with
      | false =>
        cases e2
        rw [if_neg Bool.false_ne_true]
        exact k σ2 I3 H3 (s2.trans s3) R3
      | true =>
        rw [if_pos rfl]
        refine ⟨fun σ' H' => ∃ I2 env2 g2, Same w.I I2 ∧ Rel X.K S (w.im I2) env2 g2 σ' H' ∧ whileN mt mb m env2 g2 = some (c, env', g'), fun σ' H' q => ⟨m, Nat.lt_succ_self m, q⟩, ?_⟩
        simp only at e2
        cases em : mb env2 g3 with
        | none => rw [em] at e2; cases e2
        | some r4 =>
          obtain ⟨c4, env4, g4⟩ := r4
          rw [em] at e2
          have s4 : Same w.I I3 := s2.trans s3
          refine ⟨w.im I3, env2, g3, c4, env4, g4, R3, em, ?_⟩
          cases c4 with
          | nx => exact fun σ' I5 H5 s5 R5 => ⟨I5, env4, g4, s4.trans s5, R5, e2⟩
          | co => exact fun σ' I5 H5 s5 R5 => ⟨I5, env4, g4, s4.trans s5, R5, e2⟩
          | br => cases e2; exact fun σ' I5 H5 s5 R5 => k σ' I5 H5 (s4.trans s5) R5
          | re d => cases e2; exact fun v σ' I5 H5 s5 R5 p => k v σ' I5 H5 (s4.trans s5) R5 p
          | rl d => cases e2; exact fun p vs σ' I5 H5 s5 R5 n hp ra z => k p vs σ' I5 H5 (s4.trans s5) R5 n hp ra z
theorem ds_while {mb : MS G} (hp : PassesOwn (model X.prog X.w) X.A X.env X.xe) (hc : DT X S c mt) (hb : DB X S body mb) : DS X S (.While c body [] pos) (mWhile mt mb) := PS.imp (ps_while hp hc hb) fun _ _ _ h => ts_while h
end
end Pd

/-! Pd: comprehensions, lists of one's own, defs. -/
namespace Pd
open PySem PySem.Spec L2
section
variable {G : Type} {X : Cx} {S : Gs G} {a b c e : Expr} {es rest : List Expr} {pos : Pos} {ma mb mc : ME G} {mt mu : MT G} {ml : ML G} {st : Stmt} {sts body : List Stmt} {m m1 m2 : MS G} {tg iter : Expr}
variable {K : PySem.W.Frag} {w : Wd} {env env' : Env} {g g' : G} {σ : St} {H H' I' : Hp}

/-! ### comprehensions -/
def Env.wipe (env : Env) : List Nat → Env
  | [] => env
  | v :: vs => (Env.wipe env vs).set v .un
theorem ewipe_len (env : Env) : ∀ vs : List Nat, (env.wipe vs).length = env.length
  | [] => rfl
  | v :: vs => by unfold Env.wipe; rw [List.length_set, ewipe_len env vs]
theorem ewipe_in {env : Env} {k : Nat} : ∀ {vs : List Nat}, k ∈ vs → (env.wipe vs).at k = .un
  | v :: vs, h => by
    unfold Env.wipe
    rw [at_set]
    by_cases z : k = v
    · subst z
      by_cases q : k < (env.wipe vs).length
      · rw [if_pos ⟨rfl, q⟩]
      · rw [if_neg fun z => q z.2]
        show (env.wipe vs).getD k .un = .un
        rw [List.getD_eq_getElem?_getD, List.getElem?_eq_none (by omega)]; rfl
    · rw [if_neg fun q => z q.1]
      rcases List.mem_cons.mp h with e | e
      · exact absurd e z
      · exact ewipe_in e
theorem ewipe_out {env : Env} {k : Nat} : ∀ {vs : List Nat}, k ∉ vs → (env.wipe vs).at k = env.at k
  | [], _ => rfl
  | v :: vs, h => by
    unfold Env.wipe
    rw [at_set, if_neg fun q => h (by simp [q.1])]
    exact ewipe_out fun q => h (List.mem_cons_of_mem _ q)
/-- a state of other slots: where the environment knows something, the same -/
theorem Rel.re {env1 : Env} {σ1 : St} (R : Rel K S w env1 g σ1 H) (hl : σ.length = env.length) (h : ∀ k, env.at k = .un ∨ (env.at k = env1.at k ∧ σ[k]? = σ1[k]?)) : Rel K S w env g σ H where
  e0 := R.e0
  eI := R.eI
  ag := R.ag
  ge := R.ge
  gfp := R.gfp
  grt := R.grt
  gok := R.gok
  fI := R.fI
  f0 := R.f0
  len := hl
  slot := fun k => by
    rcases h k with e | ⟨e, q⟩
    · rw [e]; trivial
    · rw [e]; exact (R.slot k).of_eq q
  dis := fun k j a hkj f1 f2 => by
    rcases h k with e | ⟨e, q⟩
    · rw [e] at f1; exact f1
    · rcases h j with e' | ⟨e', q'⟩
      · rw [e'] at f2; exact f2
      · rw [e] at f1; rw [e'] at f2
        exact R.dis k j a hkj (fpt_eq (i := k) q f1) (fpt_eq (i := j) q' f2)
theorem Rel.wipe (R : Rel K S w env g σ H) (vs : List Nat) : Rel K S w (env.wipe vs) g (L2.wipe σ vs) H := R.re (by rw [wipe_length, ewipe_len]; exact R.len) fun k => by
  by_cases h : k ∈ vs
  · exact .inl (ewipe_in h)
  · exact .inr ⟨ewipe_out h, wipe_out h⟩
theorem wipe_get {σ : St} {k : Nat} : ∀ {vs : List Nat}, k ∈ vs → k < σ.length → (L2.wipe σ vs)[k]? = some none
  | v :: vs, h, hl => by
    unfold L2.wipe
    by_cases z : k = v
    · subst z
      rw [List.getElem?_set_self (by rw [wipe_length]; exact hl)]
    · rw [List.getElem?_set_ne (Ne.symm z)]
      rcases List.mem_cons.mp h with e | e
      · exact absurd e z
      · exact wipe_get e hl
theorem wipe_eq {σ σ2 : St} {vs : List Nat} (hl : σ2.length = (L2.wipe σ vs).length) (h : ∀ k, k ∉ vs → σ2[k]? = (L2.wipe σ vs)[k]?) : L2.wipe σ2 vs = L2.wipe σ vs := by
  apply List.ext_getElem?
  intro k
  rw [wipe_length] at hl
  by_cases hk : k ∈ vs
  · by_cases z : k < σ.length
    · rw [wipe_get hk (by rw [hl]; exact z), wipe_get hk z]
    · rw [List.getElem?_eq_none (by rw [wipe_length]; omega), List.getElem?_eq_none (by rw [wipe_length]; omega)]
  · rw [wipe_out hk, h k hk]
/-- an object that nobody knows, kept in sight -/
abbrev Wd.hold (w : Wd) (p : Addr) (o : HO) : Wd := { w with H0 := upd w.H0 p o }
theorem Rel.hold {p : Addr} {o : HO} (R : Rel K S w env g σ H) (n : Nob w env σ H p) (hp : H p = some o) : Rel K S (w.hold p o) env g σ H := by
  obtain ⟨s1, s2⟩ := R.keepS (w' := w.hold p o) (H' := H) (Same.refl _) rfl fun i a f => by
    obtain ⟨a1, a2, a3, a4⟩ := (R.slot i).fr f
    have ne : a ≠ p := fun z => n.o i (z ▸ f)
    exact ⟨rfl, a1, (upd_ne ne).trans a2, a3⟩
  exact {
    e0 := fun a u e => by
      have e : upd w.H0 p o a = some u := e
      by_cases z : a = p
      · subst z; rw [upd_same] at e; rw [hp]; exact e
      · rw [upd_ne z] at e; exact R.e0 a u e
    eI := R.eI
    ag := fun a u e => by
      have e : upd w.H0 p o a = some u := e
      by_cases z : a = p
      · subst z
        show w.I a = w.I0 a
        rw [n.i, R.ge.free n.i]
      · rw [upd_ne z] at e; exact R.ag a u e
    ge := R.ge
    gfp := R.gfp
    grt := R.grt
    gok := R.gok
    fI := R.fI
    f0 := fun a ha => by
      have z : a ≠ p := fun z => n.f (z ▸ ha)
      show upd w.H0 p o a = none
      rw [upd_ne z]; exact R.f0 a ha
    len := R.len
    slot := s1
    dis := s2 }
/-- .. let go -/
theorem Rel.unhold {p : Addr} {o u : HO} (R : Rel K S (w.hold p o) env g σ H) (n0 : w.H0 p = none) (nI : w.I0 p = none) : Rel K S w env g σ (upd H p u) ∧ Nob w env σ (upd H p u) p ∧ H p = some o := by
  have hp : H p = some o := R.e0 p o upd_same
  have nf : ¬ w.fp p := fun z => by
    have q : upd w.H0 p o p = none := R.f0 p z
    rw [upd_same] at q
    cases q
  have ni : w.I p = none := (R.ag p o upd_same).trans nI
  have own : ∀ i, ¬ fpt H σ i (env.at i) p := fun i f => by
    have q : upd w.H0 p o p = none := ((R.slot i).fr f).2.1
    rw [upd_same] at q
    cases q
  have kp : ∀ i, SlotOk K w σ (upd H p u) i (env.at i) ∧ ∀ a, fpt (upd H p u) σ i (env.at i) a ↔ fpt H σ i (env.at i) a := fun i => (R.slot i).keep (σ' := σ) (w' := w) (H' := upd H p u) rfl (Same.refl _) rfl fun a f => by
    obtain ⟨a1, a2, a3, _⟩ := (R.slot i).fr f
    have ne : a ≠ p := fun z => own i (z ▸ f)
    exact ⟨upd_ne ne, a1, (upd_ne ne).symm.trans a2, a3⟩
  refine ⟨?_, ⟨ni, n0, nf, fun i f => own i (((kp i).2 p).mp f)⟩, hp⟩
  exact {
    e0 := fun a v e => by
      have z : a ≠ p := fun z => by rw [z, n0] at e; cases e
      rw [upd_ne z]
      exact R.e0 a v ((upd_ne z).trans e)
    eI := fun a v e => by
      have z : a ≠ p := fun z => by rw [z, ni] at e; cases e
      rw [upd_ne z]
      exact R.eI a v e
    ag := fun a v e => by
      have z : a ≠ p := fun z => by rw [z, n0] at e; cases e
      exact R.ag a v ((upd_ne z).trans e)
    ge := R.ge
    gfp := R.gfp
    grt := R.grt
    gok := S.loc (fun a ha => by
      have z : a ≠ p := fun z => nf (z ▸ (R.gfp a).mp ha)
      exact upd_ne z) R.gok
    fI := R.fI
    f0 := fun a ha => by
      have z : a ≠ p := fun z => nf (z ▸ ha)
      have q : upd w.H0 p o a = none := R.f0 a ha
      rw [upd_ne z] at q
      exact q
    len := R.len
    slot := fun i => (kp i).1
    dis := fun i j a n f1 f2 => R.dis i j a n (((kp i).2 a).mp f1) (((kp j).2 a).mp f2) }
def SV.notOw : SV → Bool
  | .ow _ => false
  | .tr _ => false
  | _ => true
theorem notOw_fpt {sv : SV} {i : Nat} {a : Addr} (h : sv.notOw = true) : ¬ fpt H σ i sv a := fun f => by
  cases sv with
  | ow ds => cases h
  | tr t => cases h
  | _ => exact f
/-- behind a block: the frame's own slots again -/
theorem Rel.join {I0 I6 H0 H6 : Hp} {g0 g6 : G} {vs : List Nat} (R0 : Rel K S (w.im I0) env g0 σ H0) (R6 : Rel K S (w.im I6) (env.wipe vs) g6 (L2.wipe σ vs) H6) (s : Same I0 I6) (h : ∀ k ∈ vs, (env.at k).notOw = true) : Rel K S (w.im I6) env g6 σ H6 where
  e0 := R6.e0
  eI := R6.eI
  ag := R6.ag
  ge := R6.ge
  gfp := R6.gfp
  grt := R6.grt
  gok := R6.gok
  fI := R6.fI
  f0 := R6.f0
  len := R0.len
  slot := fun k => by
    by_cases hk : k ∈ vs
    · exact ((R0.slot k).keep (σ' := σ) (w' := w.im I6) (H' := H6) rfl s rfl fun a f => absurd f (notOw_fpt (h k hk))).1
    · have q := R6.slot k
      rw [ewipe_out hk] at q
      exact q.of_eq (wipe_out hk).symm
  dis := fun k j a hkj f1 f2 => by
    have nk : k ∉ vs := fun z => notOw_fpt (h k z) f1
    have nj : j ∉ vs := fun z => notOw_fpt (h j z) f2
    exact R6.dis k j a hkj (by rw [ewipe_out nk]; exact fpt_eq (i := k) (wipe_out nk).symm f1) (by rw [ewipe_out nj]; exact fpt_eq (i := j) (wipe_out nj).symm f2)
theorem upd_id {H : Hp} {p : Addr} {o : HO} (h : H p = some o) : upd H p o = H := by
  funext b
  by_cases z : b = p
  · rw [z, upd_same, h]
  · rw [upd_ne z]
def compL (b : MTg G) (mt : MT G) (me : ME G) (env : Env) : List D → G → Option (List D × G)
  | [], g => some ([], g)
  | d :: ds, g => match b d env g with
    | none => none
    | some (env1, g1) => match mt env1 g1 with
      | none => none
      | some (false, g2) => compL b mt me env ds g2
      | some (true, g2) => match me env1 g2 with
        | none => none
        | some (x, g3) => match compL b mt me env ds g3 with
          | none => none
          | some (xs, g4) => some (x :: xs, g4)
def mComp (ml : ML G) (vs : List Nat) (b : MTg G) (mt : MT G) (me : ME G) : ML G := fun env g => bD (ml env g) fun ds g1 => if (vs.all fun k => (env.at k).notOw) = true then compL b mt me (env.wipe vs) ds g1 else none
theorem compL_len {b : MTg G} {mt : MT G} {me : ME G} {env : Env} : ∀ {ds : List D} {g : G} {xs : List D} {g' : G}, compL b mt me env ds g = some (xs, g') → xs.length ≤ ds.length
  | [], g, xs, g', h => by simp [compL] at h; rw [h.1]; exact Nat.le_refl 0
  | d :: ds, g, xs, g', h => by
    unfold compL at h
    cases e1 : b d env g with
    | none => rw [e1] at h; cases h
    | some q0 =>
      obtain ⟨env1, g1⟩ := q0
      rw [e1] at h
      dsimp only at h
      cases e2 : mt env1 g1 with
      | none => rw [e2] at h; cases h
      | some q =>
        obtain ⟨t, g2⟩ := q
        rw [e2] at h
        cases t with
        | false => exact Nat.le_trans (compL_len h) (by simp)
        | true =>
          dsimp only at h
          cases e3 : me env1 g2 with
          | none => rw [e3] at h; cases h
          | some q =>
            obtain ⟨x, g3⟩ := q
            rw [e3] at h
            dsimp only at h
            cases e4 : compL b mt me env ds g3 with
            | none => rw [e4] at h; cases h
            | some q =>
              obtain ⟨ys, g4⟩ := q
              rw [e4] at h
              cases h
              have := compL_len e4
              simp only [List.length_cons]
              omega
def mYes : MT G := fun _ g => some (true, g)
structure DTs {G : Type} (X : Cx) (S : Gs G) (ifs : List Expr) (mt : MT G) : Prop where
  pt : PTs X ifs (tT X.K S mt)
theorem dts_nil : DTs X S [] mYes := ⟨⟨fun pins s σ H Q I h => pts_nil.run pins s σ H Q I (by
  obtain ⟨w, env, g, d, g', R, e, k⟩ := h
  cases e
  exact k w.I H (Same.refl _) R)⟩⟩
theorem dts_one (h : DT X S c mt) : DTs X S [c] mt := ⟨pts_one h⟩
theorem tf_comp {idx vs : List Nat} {bt : MTg G} {me : ME G} {Q : VK} (hok : ∀ d env g env' g', bt d env g = some (env', g') → env'.length = env.length ∧ ∀ k, k ∉ idx → env'.at k = env.at k) (hsub : ∀ k ∈ idx, k ∈ vs)
    (h : tF K S (mComp ml vs bt mt me) σ H Q) : tLc (tI K S ml) (tTg K S idx bt) (tT K S mt) (tE K S me) vs σ H Q := by
  obtain ⟨w, env, g, xs, g', R, e, k⟩ := h
  obtain ⟨ds, g1, e1, e⟩ := bD_some e
  split at e
  case isFalse => cases e
  rename_i hown
  have hown : ∀ k ∈ vs, (env.at k).notOw = true := fun k hk => List.all_eq_true.mp hown k hk
  refine ⟨w, env, g, ds, g1, R, e1, fun J I1 H1 s1 R1 ok hz p hp => ?_⟩
  have n0 : w.H0 p = none := R1.e0.free hp
  have nI : w.I0 p = none := by
    have a1 : Same w.I0 I1 := R1.ge
    exact a1.free (R1.eI.free hp)
  -- the word: the list so far at p, the rest of the run
  refine ⟨fun i m H2 => m = ds.length - i ∧ i ≤ ds.length ∧ ∃ I2 g2 acc us as rest, Same I1 I2 ∧ Rel K S (w.im I2) env g2 σ H2 ∧ Nob (w.im I2) env σ H2 p ∧ H2 p = some (.lst us) ∧ RpA K I2 us as ∧ acc = us ∧ as.length ≤ i ∧
    compL bt mt me (env.wipe vs) (ds.drop i) g2 = some (rest, g') ∧ xs = as ++ rest, ⟨ds.length, by omega, Nat.zero_le _, I1, g1, [], [], [], xs, Same.refl _, R1.alloc hp, R1.nob hp, upd_same, .nil, rfl, Nat.le_refl _, e, rfl⟩, ?_⟩
  rintro i m H2 ⟨rfl, hi, I2, g2, acc, us, as, rest, s2, R2, n2, hp2, ra2, rfl, hl2, e2, ex⟩
  by_cases hlt : i < ds.length
  · refine .inr ⟨ok.go i I2 H2 hlt s2 R2.eI, fun H' => i + 1 ≤ ds.length ∧ ∃ I2 g2 acc us as rest, Same I1 I2 ∧ Rel K S (w.im I2) env g2 σ H' ∧ Nob (w.im I2) env σ H' p ∧ H' p = some (.lst us) ∧ RpA K I2 us as ∧ acc = us ∧ as.length ≤ i + 1 ∧
      compL bt mt me (env.wipe vs) (ds.drop (i + 1)) g2 = some (rest, g') ∧ xs = as ++ rest, fun H' ⟨q1, q⟩ => ⟨ds.length - (i + 1), by omega, rfl, q1, q⟩, fun x H' y => ?_⟩
    have hd : ds[i]? = some ds[i] := by simp [hlt]
    obtain ⟨I3, ps, r⟩ := ok.yl i I2 H2 x H' _ hd s2 R2.eI y
    rw [List.drop_eq_getElem_cons hlt] at e2
    unfold compL at e2
    cases eb : bt ds[i] (env.wipe vs) g2 with
    | none => rw [eb] at e2; cases e2
    | some eg =>
      obtain ⟨env3, g3⟩ := eg
      rw [eb] at e2
      dsimp only at e2
      have R3 := R2.pst ps
      have n3 : Nob (w.im I3) env σ H' p := Nob.pst (w := w.im I2) R2 n2 ps ((ps.ag p (by rw [hp2]; simp)).trans n2.i)
      have hp3 : H' p = some (.lst acc) := ps.eH _ _ hp2
      have R4 := (R3.hold n3 hp3).wipe vs
      have hk := hok _ _ _ _ _ eb
      refine ⟨(w.im I3).hold p (.lst acc), env.wipe vs, g2, ds[i], env3, g3, R4, r, eb, fun σ3 I4 H5 s4 R5 l5 f5 => ?_⟩
      have s4 : Same I3 I4 := s4
      have f5' : ∀ k, k ∉ vs → σ3[k]? = (L2.wipe σ vs)[k]? := fun k hk => f5 k fun z => hk (hsub k z)
      refine ⟨wipe_eq l5 f5', ?_⟩
      -- back from the element's state to the frame's
      have back : ∀ I6 H6 g6, Same I3 I6 → Rel K S ((w.im I6).hold p (.lst acc)) env3 g6 σ3 H6 → Rel K S ((w.im I6).hold p (.lst acc)) (env.wipe vs) g6 (L2.wipe σ vs) H6 := fun I6 H6 g6 s6 R6 =>
        R6.re (by rw [wipe_length, ewipe_len]; exact R.len) fun k => by
          by_cases hk' : k ∈ vs
          · exact .inl (ewipe_in hk')
          · exact .inr ⟨(hk.2 k fun z => hk' (hsub k z)).symm, (f5' k hk').symm⟩
      -- behind the element: the list let go
      have next : ∀ I6 H6 g6 (u : List V), Same I3 I6 → Rel K S ((w.im I6).hold p (.lst acc)) env3 g6 σ3 H6 → Rel K S (w.im I6) env g6 σ (upd H6 p (.lst u)) ∧ Nob (w.im I6) env σ (upd H6 p (.lst u)) p ∧ H6 p = some (.lst acc) := fun I6 H6 g6 u s6 R6 => by
        obtain ⟨q1, q2, q3⟩ := (back I6 H6 g6 s6 R6).unhold (w := w.im I6) (u := .lst u) n0 nI
        exact ⟨Rel.join R3 q1 s6 hown, ⟨q2.i, q2.h0, q2.f, fun j f => by
          have nj : j ∉ vs := fun z => notOw_fpt (hown j z) f
          exact q2.o j (by rw [ewipe_out nj]; exact fpt_eq (i := j) (wipe_out nj).symm f)⟩, q3⟩
      cases et : mt env3 g3 with
      | none => rw [et] at e2; cases e2
      | some q =>
        obtain ⟨t, g4⟩ := q
        rw [et] at e2
        refine ⟨(w.im I4).hold p (.lst acc), env3, g3, t, g4, R5, et, fun I6 H6 s6 R6 => ?_⟩
        have s6 : Same I4 I6 := s6
        have s6 : Same I3 I6 := s4.trans s6
        cases t with
        | false =>
          refine iteF ?_
          obtain ⟨q1, q2, q3⟩ := next I6 H6 g4 acc s6 R6
          rw [upd_id q3] at q1 q2
          exact ⟨by omega, I6, g4, acc, acc, as, rest, s2.trans (ps.eI.trans s6), q1, q2, q3, ra2.mono (ps.eI.trans s6), rfl, by omega, e2, ex⟩
        | true =>
          refine iteT ?_
          dsimp only at e2
          cases em : me env3 g4 with
          | none => rw [em] at e2; cases e2
          | some q =>
            obtain ⟨y5, g5⟩ := q
            rw [em] at e2
            dsimp only at e2
            cases ec : compL bt mt me (env.wipe vs) (ds.drop (i + 1)) g5 with
            | none => rw [ec] at e2; cases e2
            | some q =>
              obtain ⟨ys, g7⟩ := q
              rw [ec] at e2
              cases e2
              refine ⟨(w.im I6).hold p (.lst acc), env3, g4, y5, g5, R6, em, fun v I7 H7 s7 R7 p7 => ?_⟩
              have s7 : Same I6 I7 := s7
              obtain ⟨q1, q2, q3⟩ := next I7 H7 g5 (acc ++ [v]) (s6.trans s7) R7
              refine ⟨acc, q3, ?_, by omega, I7, g5, _, _, as ++ [y5], ys, s2.trans (ps.eI.trans (s6.trans s7)), q1, q2, upd_same, (ra2.mono (ps.eI.trans (s6.trans s7))).append (.one p7), rfl, ?_, ec, ?_⟩
              · rw [ra2.len]; omega
              · rw [List.length_append, List.length_singleton]; omega
              · rw [ex, List.append_assoc]; rfl
  · have hi' : i = ds.length := by omega
    subst hi'
    rw [List.drop_length] at e2
    cases e2
    rw [List.append_nil] at ex
    subst ex
    exact .inl ⟨ok.st _ I2 H2 (Nat.le_refl _) s2 R2.eI, k p acc I2 H2 (s1.trans s2) R2 n2 hp2 ra2 (Nat.le_trans hl2 hz)⟩
theorem df_comp {elt : Expr} {ifs : List Expr} {scope : Scope} {own : List (Str × Nat)} {idx : List Nat} {bt : MTg G} {me : ME G} (hc : X.calm = true) (hN : X.N.Nodup) (hi : DI X S tg iter ml) (ok : BlkOk X.N X.env.scope scope own)
    (hg : ∀ (s : Shared) (H : Hp) (C : Addr) (cl : List (Str × Addr)) (fp : List Addr), DTg (X.blk s H scope (compEnvC scope cl C X.env) fp) S tg idx bt) (ht : ∀ (s : Shared) (H : Hp) (C : Addr) (cl : List (Str × Addr)) (fp : List Addr), DTs (X.blk s H scope (compEnvC scope cl C X.env) fp) S ifs mt)
    (he : ∀ (s : Shared) (H : Hp) (C : Addr) (cl : List (Str × Addr)) (fp : List Addr), DE (X.blk s H scope (compEnvC scope cl C X.env) fp) S elt me) (hsub : ∀ k ∈ idx, k ∈ own.map (·.2) := by decide) (hs : ∀ x, foldedSetIterable iter X.env x = pure x := by intro _; rfl) :
    DF X S (.ListComp elt [⟨tg, iter, ifs, 0⟩] scope pos) (mComp ml (own.map (·.2)) bt mt me) :=
  PE.imp (pe_lc hc hN hi ok (fun s H C cl fp => (hg s H C cl fp).pg) (fun s H C cl fp => (ht s H C cl fp).pt) he hs) fun _ _ _ h => tf_comp (hg X.s_0 X.H_0 0 [] []).ok hsub h
/-- x = [.. for ..] on one line -/
theorem ts_setLc {idx vs : List Nat} {bt : MTg G} {me : ME G} {i : Nat} {D : Ends} (hok : ∀ d env g env' g', bt d env g = some (env', g') → env'.length = env.length ∧ ∀ k, k ∉ idx → env'.at k = env.at k) (hsub : ∀ k ∈ idx, k ∈ vs)
    (h : tS K S (mSetF i (mComp ml vs bt mt me)) D σ H) : tAsg (tLc (tI K S ml) (tTg K S idx bt) (tT K S mt) (tE K S me) vs) (gName i) D σ H := by
  obtain ⟨w, env, g, c, env', g', R, e, k⟩ := h
  obtain ⟨x, g1, e1, e⟩ := bD_some e
  cases e
  exact tf_comp hok hsub ⟨w, env, g, x, g', R, e1, fun p vs I' H' s' R' n hp ra hz => k _ I' H' s' (R'.putL n hp ra hz)⟩
theorem ds_setLc {elt : Expr} {ifs : List Expr} {scope : Scope} {own : List (Str × Nat)} {idx : List Nat} {bt : MTg G} {me : ME G} {i : Nat} {y : Str} {py spos : Pos} (hc : X.calm = true) (hN : X.N.Nodup) (hy : X.N[i]? = some y) (hyl : X.env.scope.names.lookup y = some .local)
    (hsw : swapsWith (.ListComp elt [⟨tg, iter, ifs, 0⟩] scope pos) (some (.Name y py)) spos.line X.env = pure true) (hi : DI X S tg iter ml) (ok : BlkOk X.N X.env.scope scope own)
    (hg : ∀ (s : Shared) (H : Hp) (C : Addr) (cl : List (Str × Addr)) (fp : List Addr), DTg (X.blk s H scope (compEnvC scope cl C X.env) fp) S tg idx bt) (ht : ∀ (s : Shared) (H : Hp) (C : Addr) (cl : List (Str × Addr)) (fp : List Addr), DTs (X.blk s H scope (compEnvC scope cl C X.env) fp) S ifs mt)
    (he : ∀ (s : Shared) (H : Hp) (C : Addr) (cl : List (Str × Addr)) (fp : List Addr), DE (X.blk s H scope (compEnvC scope cl C X.env) fp) S elt me) (hsub : ∀ k ∈ idx, k ∈ own.map (·.2) := by decide) (hs : ∀ x, foldedSetIterable iter X.env x = pure x := by intro _; rfl) :
    DS X S (.Assign [.Name y py] (.ListComp elt [⟨tg, iter, ifs, 0⟩] scope pos) spos) (mSetF i (mComp ml (own.map (·.2)) bt mt me)) :=
  PS.imp (ps_setLc hc hN hy hyl hsw hi ok (fun s H C cl fp => (hg s H C cl fp).pg) (fun s H C cl fp => (ht s H C cl fp).pt) he hs) fun _ _ _ h => ts_setLc (hg X.s_0 X.H_0 0 [] []).ok hsub h
/-- .. behind it handed out -/
def mThen (m : MS G) (j : Nat) : MS G := fun env g => match m env g with
  | some (.nx, e, g1) => some (.nx, e.frz j, g1)
  | r => r
theorem ds_then {st : Stmt} {m : MS G} (j : Nat) (h : DS X S st m) : DS X S st (mThen m j) := PS.imp h fun D σ H ⟨w, env, g, c, env', g', R, e, k⟩ => by
  unfold mThen at e
  split at e
  · rename_i e1 g1 em
    cases e
    refine ⟨w, env, g, .nx, e1, g', R, em, fun σ' I' H' s' R' => ?_⟩
    obtain ⟨I2, s2, R2⟩ := R'.frz j
    exact k σ' I2 H' (Same.trans s' s2) R2
  · exact ⟨w, env, g, c, env', g', R, e, k⟩
end
end Pd

/-! Pd: lists of one's own, defs. -/
namespace Pd
open PySem PySem.Spec L2
section
variable {G : Type} {X : Cx} {S : Gs G} {a b c e : Expr} {es rest : List Expr} {pos : Pos} {ma mb mc me : ME G} {mt mu : MT G} {ml : ML G} {st : Stmt} {sts body : List Stmt} {m m1 m2 : MS G} {tg iter : Expr}
variable {K : PySem.W.Frag} {w : Wd} {env env' : Env} {g g' : G} {σ : St} {H H' I' : Hp}

theorem Rel.own {j : Nat} {ds : List D} (R : Rel K S w env g σ H) (e : env.at j = .ow ds) : ∃ p vs, σ[j]? = some (some (.ref p)) ∧ H p = some (.lst vs) ∧ w.I p = none ∧ w.H0 p = none ∧ ¬ w.fp p ∧ RpA K w.I vs ds ∧ ds.length ≤ sizeLine := by
  have q := R.slot j
  rw [e] at q
  exact q
/-- x.append(e) -/
def mApp (j : Nat) (me : ME G) : MS G := fun env g => bD (me env g) fun d g1 => match env.at j with
  | .ow ds => if ds.length < sizeLine then some (.nx, env.set j (.ow (ds ++ [d])), g1) else none
  | _ => none
theorem ts_app {j : Nat} {D : Ends} (h : tS K S (mApp j me) D σ H) : tDrop (tBM K "list" rAppend (tVar j) (tA K S (mCons me mNil))) D σ H := by
  obtain ⟨w, env, g, c, env', g', R, e, k⟩ := h
  obtain ⟨d, g1, e1, e⟩ := bD_some e
  split at e
  · rename_i ds ej
    split at e
    · rename_i hz
      cases e
      obtain ⟨p, vs, sj, hp, _⟩ := R.own ej
      refine ⟨_, sj, .inl ⟨rfl, vs, SqL.of hp⟩, w, env, g, [d], g', R, ?_, fun us I' H' s' R' ra => ?_⟩
      · show bD (me env g) (fun x g1 => bD (mNil env g1) fun xs g2 => some (x :: xs, g2)) = some ([d], g')
        rw [e1]; rfl
      · cases ra with
        | cons r q =>
          cases q
          obtain ⟨p', us, sj', hp', hi, h0, hf, rb, hy⟩ := R'.own ej
          rw [sj] at sj'
          cases sj'
          refine ⟨p, us, _, rfl, rfl, hp', by rw [rb.len]; exact hz, ?_⟩
          exact k σ I' _ s' (R'.setOw ej sj hp' hi h0 hf (rb.append (.one r)) (by rw [List.length_append, List.length_singleton]; omega))
    · cases e
  · cases e
theorem ds_append (j : Nat) {x : Str} {xp ap cp : Pos} (he : DE X S e me) (hN : X.N[j]? = some x := by rfl) (hv : Vis X.env.scope x := by first | exact Or.inl rfl | exact Or.inr (Or.inl rfl) | exact Or.inr (Or.inr rfl)) (hd : (x == ("__debug__" : Str)) = false := by decide)
    (hcd : (x == ("__classdict__" : Str)) = false := by decide)
    (hbase : attributeBase (.Name x xp) "append" X.env (eval (.Name x xp) X.env) = eval (.Name x xp) X.env := by rfl)
    (hfew : ((backTo cp (starEach [e] X.env)).all (fun x => !x.1) && (backToKw cp (keywordEach [] X.env)).all (fun x => x.1.isSome)
      && decide ([e].length + ([] : List Keyword).length + (if ([] : List Keyword).isEmpty then 0 else 1) < 30)) = true := by rfl)
    (hline : (ap.endLine == cp.line) = true := by rfl) (hs : starEach [e] X.env = (false, eval e X.env) :: starEach [] X.env := by rfl) (hplain : (backTo cp (starEach [] X.env)).any (·.1) = false := by rfl)
    (hsw : swapsWith (.Call (.Attribute (.Name x xp) "append" ap) [e] [] cp) none pos.line X.env = pure false := by rfl) :
    DS X S (.Expr (.Call (.Attribute (.Name x xp) "append" ap) [e] [] cp) pos) (mApp j me) :=
  PS.imp (ps_expr (pe_bm PySem.F.plainAttrs_list PySem.F.slot_list_append PySem.F.type_list_append mt_append (pe_var hN hv hd hcd) (da_cons (S := S) he da_nil hs) hbase hfew hline hs hplain) hsw) fun _ _ _ h => ts_app h
/-- x[i] = e -/
def mSetIx (j : Nat) (mi me : ME G) : MS G := fun env g => bD (me env g) fun d g1 => bD (mi env g1) fun i g2 => match env.at j, i with
  | .ow ds, .int i => (ixN ds.length i).map fun k => (.nx, env.set j (.ow (ds.set k d)), g2)
  | _, _ => none
theorem ts_setIx {j : Nat} {mi : ME G} {D : Ends} (h : tS K S (mSetIx j mi me) D σ H) : tAsg (tE K S me) (gSub (tVar j) (tE K S mi) rSetL) D σ H := by
  obtain ⟨w, env, g, c, env', g', R, e, k⟩ := h
  obtain ⟨d, g1, e1, e⟩ := bD_some e
  obtain ⟨i, g2, e2, e⟩ := bD_some e
  split at e
  · rename_i ds i ej
    obtain ⟨n, en, e⟩ := Option.map_eq_some_iff.mp e
    cases e
    refine ⟨w, env, g, d, g1, R, e1, fun v I1 H1 s1 R1 p1 => ?_⟩
    obtain ⟨p, vs, sj, hp, _⟩ := R1.own ej
    refine ⟨_, sj, w.im I1, env, g1, _, g', R1, e2, fun u I2 H2 s2 R2 p2 => ?_⟩
    cases p2
    obtain ⟨p', us, sj', hp', hi, h0, hf, rb, hy⟩ := R2.own ej
    rw [sj] at sj'
    cases sj'
    refine ⟨p, us, i, n, rfl, rfl, hp', by rw [rb.len]; exact en, ?_⟩
    exact k σ I2 _ (s1.trans s2) (R2.setOw ej sj hp' hi h0 hf (rb.set (p1.mono s2) n) (by rw [List.length_set]; exact hy))
  · cases e
theorem ds_setIx (j : Nat) {x : Str} {xp sp : Pos} {i : Expr} {mi : ME G} (hi : DE X S i mi) (he : DE X S e me) (hN : X.N[j]? = some x := by rfl) (hv : Vis X.env.scope x := by first | exact Or.inl rfl | exact Or.inr (Or.inl rfl) | exact Or.inr (Or.inr rfl)) (hd : (x == ("__debug__" : Str)) = false := by decide)
    (hcd : (x == ("__classdict__" : Str)) = false := by decide)
    (ha : ∀ v, assign (.Subscript (.Name x xp) i sp) X.env v = (do
      let ov ← holding [v] (eval (.Name x xp) X.env)
      let iv ← holding [v, ov] (eval i X.env)
      standAt sp
      holding [v, ov, iv] (setItem ov iv v)
      release [v, ov, iv] []) := by intro _; rfl)
    (hs : swapsWithSole [.Subscript (.Name x xp) i sp] e pos.line X.env = pure false := by rfl) (hw : swappedStores [.Subscript (.Name x xp) i sp] e X.env = pure none := by rfl)
    (h1 : (assignEach [.Subscript (.Name x xp) i sp] X.env).map (·.2) = [assign (.Subscript (.Name x xp) i sp) X.env] := by rfl) :
    DS X S (.Assign [.Subscript (.Name x xp) i sp] e pos) (mSetIx j mi me) := PS.imp (ps_asg he (pg_sub (pe_var hN hv hd hcd) hi set_list ha) hs hw h1) fun _ _ _ h => ts_setIx h
/-- x.extend(e), e a list that stands -/
def mExt (j : Nat) (me : ME G) : MS G := fun env g => bD (me env g) fun d g1 => match env.at j, d with
  | .ow ds, .list es => if ds.length + es.length ≤ sizeLine then some (.nx, env.set j (.ow (ds ++ es)), g1) else none
  | _, _ => none
theorem ts_ext {j : Nat} {D : Ends} (h : tS K S (mExt j me) D σ H) : tDrop (tBM K "list" rExtend (tVar j) (tA K S (mCons me mNil))) D σ H := by
  obtain ⟨w, env, g, c, env', g', R, e, k⟩ := h
  obtain ⟨d, g1, e1, e⟩ := bD_some e
  split at e
  · rename_i ds es ej
    split at e
    · rename_i hz
      cases e
      obtain ⟨p, vs, sj, hp, _⟩ := R.own ej
      refine ⟨_, sj, .inl ⟨rfl, vs, SqL.of hp⟩, w, env, g, [.list es], g', R, ?_, fun us I' H' s' R' ra => ?_⟩
      · show bD (me env g) (fun x g1 => bD (mNil env g1) fun xs g2 => some (x :: xs, g2)) = some ([.list es], g')
        rw [e1]; rfl
      · cases ra with
        | cons r q =>
          cases q
          obtain ⟨p', us, sj', hp', hi, h0, hf, rb, hy⟩ := R'.own ej
          rw [sj] at sj'
          cases sj'
          cases r with
          | lst hq rc hx =>
            refine ⟨p, _, us, _, rfl, rfl, hp', R'.eI _ _ hq, by rw [rb.len, rc.len]; exact hz, ?_⟩
            exact k σ I' _ s' (R'.setOw ej sj hp' hi h0 hf (rb.append rc) (by rw [List.length_append]; exact hz))
    · cases e
  · cases e
theorem ds_extend (j : Nat) {x : Str} {xp ap cp : Pos} (he : DE X S e me) (hN : X.N[j]? = some x := by rfl) (hv : Vis X.env.scope x := by first | exact Or.inl rfl | exact Or.inr (Or.inl rfl) | exact Or.inr (Or.inr rfl)) (hd : (x == ("__debug__" : Str)) = false := by decide)
    (hcd : (x == ("__classdict__" : Str)) = false := by decide)
    (hbase : attributeBase (.Name x xp) "extend" X.env (eval (.Name x xp) X.env) = eval (.Name x xp) X.env := by rfl)
    (hfew : ((backTo cp (starEach [e] X.env)).all (fun x => !x.1) && (backToKw cp (keywordEach [] X.env)).all (fun x => x.1.isSome)
      && decide ([e].length + ([] : List Keyword).length + (if ([] : List Keyword).isEmpty then 0 else 1) < 30)) = true := by rfl)
    (hline : (ap.endLine == cp.line) = true := by rfl) (hs : starEach [e] X.env = (false, eval e X.env) :: starEach [] X.env := by rfl) (hplain : (backTo cp (starEach [] X.env)).any (·.1) = false := by rfl)
    (hsw : swapsWith (.Call (.Attribute (.Name x xp) "extend" ap) [e] [] cp) none pos.line X.env = pure false := by rfl) :
    DS X S (.Expr (.Call (.Attribute (.Name x xp) "extend" ap) [e] [] cp) pos) (mExt j me) :=
  PS.imp (ps_expr (pe_bm PySem.F.plainAttrs_list PySem.F.slot_list_extend PySem.F.type_list_extend mt_extend (pe_var hN hv hd hcd) (da_cons (S := S) he da_nil hs) hbase hfew hline hs hplain) hsw) fun _ _ _ h => ts_ext h

/-! ### lent for one look: the answer holds no list -/
def Env.lend (js : List Nat) (env : Env) : Env := js.foldl Env.frz env
theorem frz_at (env : Env) (j k : Nat) : (env.frz j).at k = env.at k ∨ ∃ ds, env.at k = .ow ds ∧ (env.frz j).at k = .sh (.list ds) := by
  unfold Env.frz
  split
  · rename_i ds e
    rw [at_set]
    by_cases z : k = j ∧ j < env.length
    · rw [if_pos z, z.1]
      exact .inr ⟨ds, e, rfl⟩
    · rw [if_neg z]; exact .inl rfl
  · exact .inl rfl
theorem lend_at : ∀ (js : List Nat) (env : Env) (k : Nat), (env.lend js).at k = env.at k ∨ ∃ ds, env.at k = .ow ds ∧ (env.lend js).at k = .sh (.list ds)
  | [], env, k => .inl rfl
  | j :: js, env, k => by
    show (Env.lend js (env.frz j)).at k = env.at k ∨ ∃ ds, env.at k = .ow ds ∧ (Env.lend js (env.frz j)).at k = .sh (.list ds)
    rcases lend_at js (env.frz j) k with h1 | ⟨ds, h1, h2⟩
    · rcases frz_at env j k with h | ⟨ds, h, h'⟩
      · exact .inl (h1.trans h)
      · exact .inr ⟨ds, h, h1.trans h'⟩
    · rcases frz_at env j k with h | ⟨es, h, h'⟩
      · exact .inr ⟨ds, h.symm.trans h1, h2⟩
      · rw [h'] at h1; cases h1
theorem Rel.lend : ∀ (js : List Nat) {w : Wd} {env : Env}, Rel K S w env g σ H → ∃ I', Same w.I I' ∧ Rel K S (w.im I') (env.lend js) g σ H
  | [], w, env, R => ⟨w.I, Same.refl _, R⟩
  | j :: js, w, env, R => by
    obtain ⟨I1, s1, R1⟩ := R.frz j
    obtain ⟨I2, s2, R2⟩ := Rel.lend js R1
    exact ⟨I2, s1.trans s2, R2⟩
def Env.noOw (env : Env) : Bool := (List.range env.length).all fun k => (env.at k).notOw
theorem noOw_at {env : Env} (h : env.noOw = true) (k : Nat) : (env.at k).notOw = true := by
  by_cases z : k < env.length
  · exact List.all_eq_true.mp h k (List.mem_range.mpr z)
  · show (env.getD k .un).notOw = true
    rw [List.getD_eq_getElem?_getD, List.getElem?_eq_none (by omega)]; rfl
theorem Rel.unlend {js : List Nat} {I1 I2 : Hp} (R : Rel K S w env g σ H) (RL : Rel K S (w.im I1) (env.lend js) g σ H) (R2 : Rel K S (w.im I2) (env.lend js) g' σ H') (s0 : Same w.I I1) (s : Same I1 I2) (no : (env.lend js).noOw = true) : Rel K S w env g' σ H' := by
  obtain ⟨q1, q2⟩ := R.keepS (w' := w) (H' := H') (Same.refl _) rfl fun k a f => by
    obtain ⟨a1, a2, a3, _⟩ := (R.slot k).fr f
    refine ⟨?_, a1, a2, a3⟩
    have n := noOw_at no k
    have q := R.slot k
    cases e : env.at k with
    | ow ds =>
      rw [e] at q f
      obtain ⟨p, vs, e1, hp, hi, h0, hf, r, z⟩ := q
      have f : σ[k]? = some (some (.ref a)) := f
      rw [e1] at f; cases f
      rcases lend_at js env k with h | ⟨es, h, h'⟩
      · rw [h, e] at n; cases n
      · have ql := RL.slot k
        rw [h'] at ql
        obtain ⟨v, f1, rp⟩ := ql
        rw [e1] at f1
        cases f1
        cases rp with
        | lst hq _ _ =>
          have hq1 := RL.eI _ _ hq
          rw [hp] at hq1
          cases hq1
          rw [hp]
          exact R2.eI _ _ (s _ _ hq)
    | tr t =>
      rcases lend_at js env k with h | ⟨es, h, h'⟩
      · rw [h, e] at n; cases n
      · rw [e] at h; cases h
    | _ => rw [e] at f; exact f.elim
  exact {
    e0 := R2.e0
    eI := s0.trans (s.trans R2.eI)
    ag := R.ag
    ge := R.ge
    gfp := R2.gfp
    grt := R2.grt
    gok := R2.gok
    fI := R.fI
    f0 := R.f0
    len := R.len
    slot := q1
    dis := q2 }
def scal0 : D → Bool
  | .none | .bool _ | .int _ | .str _ => true
  | _ => false
theorem scal0_rp {I J : Hp} {v : V} {d : D} (h : Rp K I v d) (z : scal0 d = true) : Rp K J v d := by
  cases h with
  | non => exact .non
  | bl b => exact .bl b
  | int i => exact .int i
  | str h => exact .str h
  | _ => cases z
def mLend (js : List Nat) (ma : ME G) : ME G := fun env g => if (env.lend js).noOw = true then bD (ma (env.lend js) g) fun d g1 => if scal0 d = true then some (d, g1) else none else none
def mLendT (js : List Nat) (mt : MT G) : MT G := fun env g => if (env.lend js).noOw = true then mt (env.lend js) g else none
theorem de_lend (js : List Nat) (h : DE X S e ma) : DE X S e (mLend js ma) := PE.imp h fun σ H Q ⟨w, env, g, d, g', R, e, k⟩ => by
  unfold mLend at e
  split at e
  case isFalse => cases e
  rename_i no
  obtain ⟨x, g1, e1, e⟩ := bD_some e
  split at e
  case isFalse => cases e
  rename_i sc
  cases e
  obtain ⟨I1, s1, RL⟩ := R.lend js
  exact ⟨w.im I1, env.lend js, g, d, g', RL, e1, fun v I' H' s' R' p => k v w.I H' (Same.refl _) (R.unlend RL R' s1 s' no) (scal0_rp p sc)⟩
theorem dt_lend (js : List Nat) (h : DT X S e mt) : DT X S e (mLendT js mt) := PT.imp h fun σ H Q ⟨w, env, g, d, g', R, e, k⟩ => by
  unfold mLendT at e
  split at e
  case isFalse => cases e
  rename_i no
  obtain ⟨I1, s1, RL⟩ := R.lend js
  exact ⟨w.im I1, env.lend js, g, d, g', RL, e, fun I' H' s' R' => k w.I H' (Same.refl _) (R.unlend RL R' s1 s' no)⟩
/-- x[i], x a list of one's own -/
def mIxOw (j : Nat) (mi : ME G) : ME G := fun env g => bD (mi env g) fun i g1 => match env.at j, i with
  | .ow ds, .int i => (atI ds i).map (·, g1)
  | _, _ => none
theorem de_ixOw (j : Nat) {x : Str} {xp : Pos} {i : Expr} {mi : ME G} (hi : DE X S i mi) (hN : X.N[j]? = some x := by rfl) (hv : Vis X.env.scope x := by first | exact Or.inl rfl | exact Or.inr (Or.inl rfl) | exact Or.inr (Or.inr rfl)) (hd : (x == ("__debug__" : Str)) = false := by decide)
    (hcd : (x == ("__classdict__" : Str)) = false := by decide) (hs : PlainIx i := by exact fun _ _ => rfl) : DE X S (.Subscript (.Name x xp) i pos) (mIxOw j mi) := PE.imp (pe_ix ix_list (pe_var hN hv hd hcd) hi hs) fun σ H Q ⟨w, env, g, d, g', R, e, k⟩ => by
  obtain ⟨i, g1, e1, e⟩ := bD_some e
  split at e
  · rename_i ds i ej
    obtain ⟨e3, rfl⟩ := map_some e
    obtain ⟨p, vs, sj, hp, _⟩ := R.own ej
    refine ⟨_, sj, w, env, g, _, g', R, e1, fun u I2 H2 s2 R2 p2 => ?_⟩
    cases p2
    obtain ⟨p', us, sj', hp', _, _, _, rb, _⟩ := R2.own ej
    rw [sj] at sj'
    cases sj'
    obtain ⟨v, e4, r⟩ := atI_rp rb e3
    exact ⟨p, us, i, v, rfl, rfl, SqL.of hp', e4, k v I2 H2 s2 R2 r⟩
  · cases e
/-- xs + ys, a new list -/
def mCat (ma mb : ME G) : ML G := fun env g => bD (ma env g) fun x g1 => bD (mb env g1) fun y g2 => match x, y with
  | .list xs, .list ys => if xs.length + ys.length ≤ sizeLine then some (xs ++ ys, g2) else none
  | _, _ => none
theorem df_cat (ha : DE X S a ma) (hb : DE X S b mb) : DF X S (.BinOp a .Add b pos) (mCat ma mb) := PE.imp (pe_op op_cat ha hb) fun σ H Q ⟨w, env, g, d, g', R, e, k⟩ => by
  obtain ⟨x, g1, e1, e⟩ := bD_some e
  obtain ⟨y, g2, e2, e⟩ := bD_some e
  split at e
  · rename_i xs ys
    split at e
    · rename_i hz
      cases e
      refine ⟨w, env, g, _, g1, R, e1, fun v I1 H1 s1 R1 p1 => ⟨w.im I1, env, g1, _, g', R1, e2, fun u I2 H2 s2 R2 p2 => ?_⟩⟩
      have s2 : Same I1 I2 := s2
      cases p1 with
      | lst hp ra _ =>
        cases p2 with
        | lst hq rb _ =>
          exact ⟨_, _, _, _, rfl, rfl, R2.eI _ _ (s2 _ _ hp), R2.eI _ _ hq, by rw [ra.len, rb.len]; exact hz, fun p h0 => k p _ I2 _ (s1.trans s2) (R2.alloc h0) (R2.nob h0) upd_same ((ra.mono s2).append rb) (by rw [List.length_append]; exact hz)⟩
    · cases e
  · cases e
def mCatOw (j : Nat) (mb : ME G) : ML G := fun env g => bD (mb env g) fun y g2 => match env.at j, y with
  | .ow xs, .list ys => if xs.length + ys.length ≤ sizeLine then some (xs ++ ys, g2) else none
  | _, _ => none
theorem df_catOw (j : Nat) {x : Str} {xp : Pos} (hb : DE X S b mb) (hN : X.N[j]? = some x := by rfl) (hv : Vis X.env.scope x := by first | exact Or.inl rfl | exact Or.inr (Or.inl rfl) | exact Or.inr (Or.inr rfl)) (hd : (x == ("__debug__" : Str)) = false := by decide)
    (hcd : (x == ("__classdict__" : Str)) = false := by decide) : DF X S (.BinOp (.Name x xp) .Add b pos) (mCatOw j mb) := PE.imp (pe_op op_cat (pe_var hN hv hd hcd) hb) fun σ H Q ⟨w, env, g, d, g', R, e, k⟩ => by
  obtain ⟨y, g2, e2, e⟩ := bD_some e
  split at e
  · rename_i xs ys ej
    split at e
    · rename_i hz
      cases e
      obtain ⟨p, vs, sj, hp, _⟩ := R.own ej
      refine ⟨_, sj, w, env, g, _, g', R, e2, fun u I2 H2 s2 R2 p2 => ?_⟩
      obtain ⟨p', us, sj', hp', _, _, _, ra, _⟩ := R2.own ej
      rw [sj] at sj'
      cases sj'
      cases p2 with
      | lst hq rb _ =>
        exact ⟨_, _, _, _, rfl, rfl, hp', R2.eI _ _ hq, by rw [ra.len, rb.len]; exact hz, fun p h0 => k p _ I2 _ s2 (R2.alloc h0) (R2.nob h0) upd_same (ra.append rb) (by rw [List.length_append]; exact hz)⟩
    · cases e
  · cases e
/-- xs * n -/
def mRep (ma mb : ME G) : ML G := fun env g => bD (ma env g) fun x g1 => bD (mb env g1) fun y g2 => match x, y with
  | .list xs, .int k => if -(2 ^ 63) ≤ k ∧ k < 2 ^ 63 ∧ xs.length * k.toNat ≤ sizeLine then some ((List.replicate k.toNat xs).flatten, g2) else none
  | _, _ => none
theorem df_rep (ha : DE X S a ma) (hb : DE X S b mb) : DF X S (.BinOp a .Mult b pos) (mRep ma mb) := PE.imp (pe_op op_rep ha hb) fun σ H Q ⟨w, env, g, d, g', R, e, k⟩ => by
  obtain ⟨x, g1, e1, e⟩ := bD_some e
  obtain ⟨y, g2, e2, e⟩ := bD_some e
  split at e
  · rename_i xs n
    split at e
    · rename_i hz
      cases e
      refine ⟨w, env, g, _, g1, R, e1, fun v I1 H1 s1 R1 p1 => ⟨w.im I1, env, g1, _, g', R1, e2, fun u I2 H2 s2 R2 p2 => ?_⟩⟩
      have s2 : Same I1 I2 := s2
      cases p1 with
      | lst hp ra _ =>
        cases p2
        refine ⟨_, _, _, rfl, rfl, R2.eI _ _ (s2 _ _ hp), hz.1, hz.2.1, by rw [ra.len]; exact hz.2.2, fun p h0 => k p _ I2 _ (s1.trans s2) (R2.alloc h0) (R2.nob h0) upd_same ((ra.mono s2).flatRep _) ?_⟩
        rw [List.length_flatten, List.map_replicate, List.sum_replicate_nat, Nat.mul_comm]
        exact hz.2.2
    · cases e
  · cases e
end
end Pd

/-! Pd: defs. -/
namespace Pd
open PySem PySem.Spec L2
section
variable {G : Type} {X : Cx} {S : Gs G} {m : MS G}
variable {K : PySem.W.Frag} {w : Wd} {env env' : Env} {g g' : G} {σ : St} {H H' I I' : Hp}

def startE (N : Nat) (as : List SV) : Env := as ++ List.replicate (N - as.length) .un
/-- a def's run: N slots, n parameters -/
def runS (N n : Nat) (m : MS G) (as : List SV) (g : G) : Option (Ct × G) := if as.length = n ∧ n ≤ N then match m (startE N as) g with
  | some (.re d, _, g1) => some (.re d, g1)
  | some (.rl ds, _, g1) => some (.rl ds, g1)
  | some (.nx, _, g1) => some (.re .none, g1)
  | _ => none
  else none
def Ct.data : Ct → Option D
  | .re d => some d
  | .rl ds => some (.list ds)
  | _ => none
def Ct.fresh : Ct → Option (List D)
  | .rl ds => some ds
  | _ => none
def runP (N n : Nat) (m : MS Unit) (ds : List D) : Option D := (runS N n m (ds.map .sh) ()).bind fun c => c.1.data
def runN (N n : Nat) (m : MS Unit) (ds : List D) : Option (List D) := (runS N n m (ds.map .sh) ()).bind fun c => c.1.fresh
def runG (N n : Nat) (m : MS G) (as : List SV) (g : G) : Option (D × G) := (runS N n m as g).bind fun c => c.1.data.map (·, c.2)

/-- the frame at a def's entry -/
theorem start_slot {w : Wd} {rt : V} {N : List Str} {vs : List V} {as : List SV} (hrt : w.rt = rt) (ha : ArgsOk K w.I rt vs as) (hl : as.length ≤ N.length) : ∀ i, SlotOk K w (start N vs) H i ((startE N.length as).at i) ∧ ∀ a, ¬ fpt H (start N vs) i ((startE N.length as).at i) a := by
  have key : ∀ {vs : List V} {as : List SV}, ArgsOk K w.I rt vs as → ∀ (n i : Nat), SlotOk K w (vs.map some ++ List.replicate n none) H i (Env.at (as ++ List.replicate n .un) i) ∧ ∀ a, ¬ fpt H (vs.map some ++ List.replicate n none) i (Env.at (as ++ List.replicate n .un) i) a := by
    intro vs as h
    induction h with
    | nil =>
      intro n i
      have e : Env.at ([] ++ List.replicate n SV.un) i = .un := by
        show ([] ++ List.replicate n SV.un).getD i .un = .un
        rw [List.nil_append, List.getD_eq_getElem?_getD, List.getElem?_replicate]
        split <;> rfl
      rw [e]
      exact ⟨trivial, fun a z => z⟩
    | @cons v vs a as ha _ ih =>
      intro n i
      cases i with
      | zero =>
        show SlotOk K w (some v :: _) H 0 a ∧ ∀ b, ¬ fpt H (some v :: _) 0 a b
        cases a with
        | un => exact ha.elim
        | ow ds => exact ha.elim
        | tr t => exact ha.elim
        | sh d => exact ⟨⟨v, rfl, ha⟩, fun a z => z⟩
        | kd d => exact ⟨⟨v, rfl, ha⟩, fun a z => z⟩
        | fz d => exact ⟨⟨v, rfl, ha⟩, fun a z => z⟩
        | fl d => exact ⟨⟨v, rfl, ha⟩, fun a z => z⟩
        | rz k ts => exact ⟨⟨v, rfl, ha⟩, fun a z => z⟩
        | st => exact ⟨(show some (some v) = some (some w.rt) by rw [hrt]; exact congrArg (fun x => some (some x)) ha), fun a z => z⟩
        | raw u => exact ⟨(show some (some v) = some (some u) from congrArg (fun x => some (some x)) ha), fun a z => z⟩
      | succ i =>
        have q := ih n i
        have e : Env.at ((a :: as) ++ List.replicate n .un) (i + 1) = Env.at (as ++ List.replicate n .un) i := rfl
        rw [e]
        exact ⟨q.1.of_eq' rfl, fun a f => q.2 a (fpt_eq (i := i) (k := i + 1) rfl f)⟩
  intro i
  have hv := ha.len
  have q := key ha (N.length - as.length) i
  unfold L2.start startE
  rw [hv]
  exact q
theorem start_rel {rt : V} {N : List Str} {vs : List V} {as : List SV} (w : Wd) (hrt : w.rt = rt) (ha : ArgsOk K w.I rt vs as) (hl : as.length ≤ N.length)
    (e0 : Same w.H0 H) (eI : Same w.I H) (ag : ∀ a o, w.H0 a = some o → w.I a = w.I0 a) (ge : Same w.I0 w.I) (gfp : ∀ a, S.fp g a ↔ w.fp a) (grt : S.root g = w.rt) (gok : S.ok g H) (fI : ∀ a, w.fp a → w.I a = none) (f0 : ∀ a, w.fp a → w.H0 a = none) :
    Rel K S w (startE N.length as) g (start N vs) H where
  e0 := e0
  eI := eI
  ag := ag
  ge := ge
  gfp := gfp
  grt := grt
  gok := gok
  fI := fI
  f0 := f0
  len := by
    unfold L2.start startE
    rw [List.length_append, List.length_append, List.length_map, List.length_replicate, List.length_replicate, ha.len]
  slot := fun i => (start_slot hrt ha hl i).1
  dis := fun i j a _ f1 => absurd f1 ((start_slot (H := H) hrt ha hl i).2 a)
theorem ArgsOk.of_rp {rt : V} : ∀ {vs : List V} {ds : List D}, RpA K I vs ds → ArgsOk K I rt vs (ds.map .sh)
  | _, _, .nil => .nil
  | _, _, .cons a b => .cons a (ArgsOk.of_rp b)
theorem runS_len {N n : Nat} {as : List SV} (r) (h : runS N n m as g = some r) : as.length = n ∧ n ≤ N := by
  unfold runS at h
  split at h
  · assumption
  · cases h
/-- what a def's end tells -/
def EndR (K : PySem.W.Frag) (S : Gs G) (w : Wd) (g' : G) (Q : VK) : Ct → Prop
  | .re d => ∀ v env' σ' I' H', Same w.I I' → Rel K S (w.im I') env' g' σ' H' → Rp K I' v d → Q v H'
  | .rl ds => ∀ p vs env' σ' I' H', Same w.I I' → Rel K S (w.im I') env' g' σ' H' → Nob (w.im I') env' σ' H' p → H' p = some (.lst vs) → RpA K I' vs ds → ds.length ≤ sizeLine → Q (.ref p) H'
  | _ => True
theorem run_body {N : List Str} {n : Nat} {as : List SV} {vs : List V} {w : Wd} {c : Ct} {Q : VK} (R : Rel K S w (startE N.length as) g (start N vs) H) (h : runS N.length n m as g = some (c, g')) (k : EndR K S w g' Q c) :
    tS K S m { nx := fun _ H' => Q .non H', rt := Q } (start N vs) H := by
  obtain ⟨hl, hn⟩ := runS_len _ h
  unfold runS at h
  rw [if_pos ⟨hl, hn⟩] at h
  split at h
  · rename_i d e1 g1 e
    cases h
    exact ⟨w, _, g, .re d, e1, g', R, e, fun v σ' I' H' s' R' p => k v e1 σ' I' H' s' R' p⟩
  · rename_i d e1 g1 e
    cases h
    exact ⟨w, _, g, .rl d, e1, g', R, e, fun p vs σ' I' H' s' R' n hp ra z => k p vs e1 σ' I' H' s' R' n hp ra z⟩
  · rename_i e1 g1 e
    cases h
    exact ⟨w, _, g, .nx, e1, g', R, e, fun σ' I' H' s' R' => k .non e1 σ' I' H' s' R' .non⟩
  · cases h
variable {P : Program} {wd : World} {mg : Str → Option Value} {base : Heap}
/-- a def's body as a term of rules, in any frame -/
abbrev Body (P : Program) (wd : World) (K : PySem.W.Frag) (mg : Str → Option Value) (base : Heap) (N : List Str) (qual : Str) (st : Stmt) (f : Addr) (k : Nat) (S : Gs G) (m : MS G) : Prop :=
  ∀ (cdv : Value) (A : Around) (outer : List PySem.Env) (s : Shared) (H : Hp) (E : XK), Room k (A.deeper (PyProof.Rows.envOfC qual (defScope st) s.heap.objs.size f cdv)) →
    PSs (cxOf CX0 P wd K mg base N qual (defScope st) f cdv A outer s H E).nox (defBody st) (tS K S m)
theorem fn_pure {x qual : Str} {st : Stmt} {f : Addr} {fd : FuncData} {N ps : List Str} {k : Nat} {m : MS Unit} (F : Fun K x qual st f fd) (Sc : FnScope N ps (defScope st)) (hb : Body P wd K mg base N qual st f k G0 m) :
    FnOk P wd K mg base CX0 (k + 1) f fd ps (spP K (runP N.length ps.length m)) := by
  refine F.ok Sc (fun vs H Q E h => ?_) (fun cdv A outer s H vs Q E hr h => ?_)
  · obtain ⟨I, ds, d, _, ra, e, _⟩ := h
    obtain ⟨c, e1, _⟩ := Option.bind_eq_some_iff.mp e
    have q := (runS_len (c.1, c.2) e1).1
    rw [List.length_map] at q
    rw [ra.len, q]
  · obtain ⟨I, ds, d, sI, ra, e, kk⟩ := h
    obtain ⟨⟨c, u⟩, e1, e2⟩ := Option.bind_eq_some_iff.mp e
    have hl := runS_len _ e1
    refine ⟨_, hb cdv A outer s H E hr, ?_⟩
    have R : Rel K G0 ⟨H, I, I, fun _ => False, .non⟩ (startE N.length (ds.map .sh)) () (start N vs) H :=
      start_rel (rt := .non) ⟨H, I, I, fun _ => False, .non⟩ rfl (ArgsOk.of_rp ra) (by rw [hl.1]; exact hl.2) (Same.refl _) sI (fun _ _ _ => rfl) (Same.refl _) (fun _ => Iff.rfl) rfl trivial (fun _ z => z.elim) (fun _ z => z.elim)
    refine run_body (c := c) (g' := u) R e1 ?_
    have fin : ∀ (env' : Env) σ' I' H', Same I I' → Rel K G0 (Wd.im ⟨H, I, I, fun _ => False, .non⟩ I') env' u σ' H' → Pst I H I' H' := fun env' σ' I' H' s' R' => ⟨s', R'.e0, R'.eI, fun a ha => by
      cases q : H a with
      | none => exact absurd q ha
      | some o => exact R'.ag a o q⟩
    cases c with
    | re d' =>
      cases e2
      exact fun v env' σ' I' H' s' R' p => kk v I' H' (fin env' σ' I' H' s' R') p
    | rl ds' =>
      cases e2
      refine fun p us env' σ' I' H' s' R' n hp rb z => ?_
      have R2 := R'.freeze n hp
      exact kk (.ref p) _ H' (fin env' σ' _ H' (Same.trans s' (same_new n.i)) R2) (.lst upd_same (rb.mono (same_new n.i)) z)
    | _ => cases e2
theorem fn_new {x qual : Str} {st : Stmt} {f : Addr} {fd : FuncData} {N ps : List Str} {k : Nat} {m : MS Unit} (F : Fun K x qual st f fd) (Sc : FnScope N ps (defScope st)) (hb : Body P wd K mg base N qual st f k G0 m) :
    FnOk P wd K mg base CX0 (k + 1) f fd ps (spN K (runN N.length ps.length m)) := by
  refine F.ok Sc (fun vs H Q E h => ?_) (fun cdv A outer s H vs Q E hr h => ?_)
  · obtain ⟨I, ds, d, _, ra, e, _⟩ := h
    obtain ⟨c, e1, _⟩ := Option.bind_eq_some_iff.mp e
    have q := (runS_len (c.1, c.2) e1).1
    rw [List.length_map] at q
    rw [ra.len, q]
  · obtain ⟨I, ds, d, sI, ra, e, kk⟩ := h
    obtain ⟨⟨c, u⟩, e1, e2⟩ := Option.bind_eq_some_iff.mp e
    have hl := runS_len _ e1
    refine ⟨_, hb cdv A outer s H E hr, ?_⟩
    have R : Rel K G0 ⟨H, I, I, fun _ => False, .non⟩ (startE N.length (ds.map .sh)) () (start N vs) H :=
      start_rel (rt := .non) ⟨H, I, I, fun _ => False, .non⟩ rfl (ArgsOk.of_rp ra) (by rw [hl.1]; exact hl.2) (Same.refl _) sI (fun _ _ _ => rfl) (Same.refl _) (fun _ => Iff.rfl) rfl trivial (fun _ z => z.elim) (fun _ z => z.elim)
    refine run_body (c := c) (g' := u) R e1 ?_
    cases c with
    | rl ds' =>
      cases e2
      refine fun p us env' σ' I' H' s' R' n hp rb z => kk p us I' H' ⟨s', R'.e0, R'.eI, fun a ha => ?_⟩ n.h0 n.i hp rb z
      cases q : H a with
      | none => exact absurd q ha
      | some o => exact R'.ag a o q
    | _ => cases e2
open Classical in
theorem fn_ghost {x qual : Str} {st : Stmt} {f : Addr} {fd : FuncData} {N ps : List Str} {k : Nat} {m : MS G} (F : Fun K x qual st f fd) (Sc : FnScope N ps (defScope st)) (hb : Body P wd K mg base N qual st f k S m) :
    FnOk P wd K mg base CX0 (k + 1) f fd ps (spG K S (runG N.length ps.length m)) := by
  refine F.ok Sc (fun vs H Q E h => ?_) (fun cdv A outer s H vs Q E hr h => ?_)
  · obtain ⟨I, g, as, d, g', _, _, _, ra, e, _⟩ := h
    obtain ⟨c, e1, _⟩ := Option.bind_eq_some_iff.mp e
    have q := (runS_len (c.1, c.2) e1).1
    rw [ra.len, q]
  · obtain ⟨I, g, as, d, g', sI, gok, fI, ra, e, kk⟩ := h
    obtain ⟨⟨c, g1⟩, e1, e2⟩ := Option.bind_eq_some_iff.mp e
    have hl := runS_len _ e1
    refine ⟨_, hb cdv A outer s H E hr, ?_⟩
    have h0 : Same (fun a => if S.fp g a then none else H a) H := fun a o q => by
      have q : (if S.fp g a then none else H a) = some o := q
      split at q
      · cases q
      · exact q
    have R : Rel K S ⟨fun a => if S.fp g a then none else H a, I, I, S.fp g, S.root g⟩ (startE N.length as) g (start N vs) H :=
      start_rel (rt := S.root g) ⟨fun a => if S.fp g a then none else H a, I, I, S.fp g, S.root g⟩ rfl ra (by rw [hl.1]; exact hl.2) h0 sI (fun _ _ _ => rfl) (Same.refl _) (fun _ => Iff.rfl) rfl gok fI (fun a z => if_pos z)
    refine run_body (c := c) (g' := g1) R e1 ?_
    have fin : ∀ (env' : Env) σ' I' H', Same I I' → Rel K S (Wd.im ⟨fun a => if S.fp g a then none else H a, I, I, S.fp g, S.root g⟩ I') env' g1 σ' H' → Gst S I H g I' H' g1 := fun env' σ' I' H' s' R' => {
      eI := s'
      eH := fun a o q nf => R'.e0 a o (show (if S.fp g a then none else H a) = some o by rw [if_neg nf]; exact q)
      sub := R'.eI
      ag := fun a ha => by
        by_cases z : S.fp g a
        · exact (R'.fI a z).trans (fI a z).symm
        · cases q : H a with
          | none => exact absurd q ha
          | some o => exact R'.ag a o (show (if S.fp g a then none else H a) = some o by rw [if_neg z]; exact q)
      fp' := R'.gfp
      rt := R'.grt
      ok := R'.gok }
    have e2 : (c.data).map (·, g1) = some (d, g') := e2
    cases c with
    | re d' =>
      cases e2
      exact fun v env' σ' I' H' s' R' p => kk v I' H' (fin env' σ' I' H' s' R') p
    | rl ds' =>
      cases e2
      refine fun p us env' σ' I' H' s' R' n hp rb z => ?_
      have R2 := R'.freeze n hp
      exact kk (.ref p) _ H' (fin env' σ' _ H' (Same.trans s' (same_new n.i)) R2) (.lst upd_same (rb.mono (same_new n.i)) z)
    | _ => cases e2
end
end Pd

/-! Pd: operations by values. -/
namespace Pd
open PySem PySem.Spec L2
section
variable {G : Type} {X : Cx} {S : Gs G} {K : PySem.W.Frag}

/-! ### ints -/
def dI (g : Int → Int → D) : D → D → Option D
  | .int i, .int j => some (g i j)
  | _, _ => none
def dIc (C : Int → Int → Prop) [∀ i j, Decidable (C i j)] (g : Int → Int → D) : D → D → Option D
  | .int i, .int j => if C i j then some (g i j) else none
  | _, _ => none
theorem od_I {gv : Int → Int → V} {g : Int → Int → D} (h : ∀ i j I, Rp K I (gv i j) (g i j)) : OpD K (rI0 gv) (dI g) := by
  intro I H x y d e z s p q hz Q k
  cases p with
  | int i =>
    cases q with
    | int j => cases hz; exact ⟨i, j, rfl, rfl, k _ I H (Pst.refl s) (h i j I)⟩
    | _ => cases hz
  | _ => cases hz
theorem od_Ic {C : Int → Int → Prop} [∀ i j, Decidable (C i j)] {gv : Int → Int → V} {g : Int → Int → D} (h : ∀ i j I, Rp K I (gv i j) (g i j)) : OpD K (rI C gv) (dIc C g) := by
  intro I H x y d e z s p q hz Q k
  cases p with
  | int i =>
    cases q with
    | int j =>
      have hz : (if C i j then some (g i j) else none) = some z := hz
      split at hz
      · rename_i hc
        cases hz
        exact ⟨i, j, rfl, rfl, hc, k _ I H (Pst.refl s) (h i j I)⟩
      · cases hz
    | _ => cases hz
  | _ => cases hz
instance (i j : Int) : Decidable (CMul i j) := by unfold CMul; exact inferInstance
instance (i j : Int) : Decidable (CDivN i j) := by unfold CDivN; exact inferInstance
instance (i j : Int) : Decidable (CPow i j) := by unfold CPow; exact inferInstance

/-! ### + -/
theorem sok_app {x y : Str} (hx : SOk x) (hy : SOk y) (hz : x.length + y.length ≤ sizeLine) : SOk (x ++ y) := by
  refine ⟨?_, ?_⟩
  · have e : (x ++ y).length = x.length + y.length := by
      show (x.cps ++ y.cps).size = x.cps.size + y.cps.size
      rw [Array.size_append]
    rw [e]; exact hz
  · have h1 := hx.2
    have h2 := hy.2
    simp only [PyData.canLay0] at h1 h2 ⊢
    unfold PyData.strOk at h1 h2 ⊢
    show (x.cps ++ y.cps).all _ = true
    rw [Array.all_append, h1, h2]
    rfl
def dAddS : D → D → Option D
  | .str x, .str y => if x.length + y.length ≤ sizeLine then some (.str (x ++ y)) else none
  | _, _ => none
def dAddT : D → D → Option D
  | .tuple xs, .tuple ys => if xs.length + ys.length ≤ sizeLine then some (.tuple (xs ++ ys)) else none
  | _, _ => none
def dAddL : D → D → Option D
  | .list xs, .list ys => if xs.length + ys.length ≤ sizeLine then some (.list (xs ++ ys)) else none
  | _, _ => none
theorem od_addS : OpD K (fun x y H Q => ∃ i j, x = .str i ∧ y = .str j ∧ i.length + j.length ≤ sizeLine ∧ Q (.str (i ++ j)) H) dAddS := by
  intro I H x y d e z s p q hz Q k
  cases p with
  | str hx =>
    cases q with
    | str hy =>
      have hz : (if _ then _ else none) = some z := hz
      split at hz
      · rename_i hc
        cases hz
        exact ⟨_, _, rfl, rfl, hc, k _ I H (Pst.refl s) (.str (sok_app hx hy hc))⟩
      · cases hz
    | _ => cases hz
  | _ => cases hz
theorem od_addT : OpD K (rCatA K) dAddT := by
  intro I H x y d e z s p q hz Q k
  cases p with
  | tup hp ra hl =>
    cases q with
    | tup hq rb hm =>
      have hz : (if _ then _ else none) = some z := hz
      split at hz
      · rename_i hc
        cases hz
        refine ⟨_, _, _, _, rfl, rfl, same_t s hp, same_t s hq, by rw [ra.len, rb.len]; exact hc, fun e => ?_, fun _ e => ?_, fun _ _ p h0 => ?_⟩
        · subst e
          cases ra
          exact k _ I H (Pst.refl s) (.tup hq rb hm)
        · subst e
          cases rb
          rw [List.append_nil] at k
          exact k _ I H (Pst.refl s) (.tup hp ra hl)
        · exact k _ _ _ (Pst.new s h0) (.tup (SqT.of upd_same) ((ra.append rb).mono (Pst.new s h0).eI) (by rw [List.length_append]; exact hc))
      · cases hz
    | _ => cases hz
  | _ => cases hz
theorem od_addL : OpD K rCat dAddL := by
  intro I H x y d e z s p q hz Q k
  cases p with
  | lst hp ra hl =>
    cases q with
    | lst hq rb hm =>
      have hz : (if _ then _ else none) = some z := hz
      split at hz
      · rename_i hc
        cases hz
        refine ⟨_, _, _, _, rfl, rfl, s _ _ hp, s _ _ hq, by rw [ra.len, rb.len]; exact hc, fun p h0 => ?_⟩
        exact k _ _ _ (Pst.new s h0) (.lst upd_same ((ra.append rb).mono (Pst.new s h0).eI) (by rw [List.length_append]; exact hc))
      · cases hz
    | _ => cases hz
  | _ => cases hz
def dAddI : D → D → Option D := dI fun i j => .int (i + j)
/-- + of ints, texts, tuples, lists -/
def dAdd (x y : D) : Option D := match x, y with
  | .int i, .int j => some (.int (i + j))
  | .str x, .str y => if x.length + y.length ≤ sizeLine then some (.str (x ++ y)) else none
  | .tuple xs, .tuple ys => if xs.length + ys.length ≤ sizeLine then some (.tuple (xs ++ ys)) else none
  | .list xs, .list ys => if xs.length + ys.length ≤ sizeLine then some (.list (xs ++ ys)) else none
  | _, _ => none
theorem OpD.imp {r : R2} {f f' : D → D → Option D} (h : OpD K r f) (e : ∀ x y z, f' x y = some z → f x y = some z) : OpD K r f' := by
  intro I H x y d e' z s p q hz Q k
  exact h s p q (e _ _ _ hz) k
abbrev rAddD (K : PySem.W.Frag) : R2 := fun x y H Q => rI0 (fun i j => .int (i + j)) x y H Q ∨ ((∃ i j, x = .str i ∧ y = .str j ∧ i.length + j.length ≤ sizeLine ∧ Q (.str (i ++ j)) H) ∨ (rCatA K x y H Q ∨ rCat x y H Q))
theorem op_addD : OpR X (binaryOp .Add) (rAddD X.K) := op_add.or (op_add_str.or (op_catA.or op_cat))
theorem od_addD : OpD K (rAddD K) dAdd := OpD.imp (OpD.or (od_I (g := fun i j => .int (i + j)) fun i j I => .int _) (OpD.or od_addS (OpD.or od_addT od_addL))) fun x y z h => by
  unfold dAdd at h
  split at h
  · exact h
  · split at h
    · rename_i hc
      simp only [dI, dAddS, if_pos hc]; exact h
    · cases h
  · split at h
    · rename_i hc
      simp only [dI, dAddS, dAddT, if_pos hc]; exact h
    · cases h
  · split at h
    · rename_i hc
      simp only [dI, dAddS, dAddT, dAddL, if_pos hc]; exact h
    · cases h
  · cases h
abbrev dSub : D → D → Option D := dI fun i j => .int (i - j)
theorem od_sub : OpD K (rI0 fun i j => .int (i - j)) dSub := od_I fun i j I => .int _
abbrev dMul : D → D → Option D := dIc CMul fun i j => .int (i * j)
theorem od_mul : OpD K (rI CMul fun i j => .int (i * j)) dMul := od_Ic fun i j I => .int _
abbrev dDiv : D → D → Option D := dIc CDivN fun i j => .int (i.fdiv j)
theorem od_div : OpD K (rI CDivN fun i j => .int (i.fdiv j)) dDiv := od_Ic fun i j I => .int _
abbrev dMod : D → D → Option D := dIc (fun _ j => j ≠ 0) fun i j => .int (i.fmod j)
theorem od_mod : OpD K (rI (fun _ j => j ≠ 0) fun i j => .int (i.fmod j)) dMod := od_Ic fun i j I => .int _
abbrev dPow : D → D → Option D := dIc CPow fun i j => .int (i ^ j.toNat)
theorem od_pow : OpD K (rI CPow fun i j => .int (i ^ j.toNat)) dPow := od_Ic fun i j I => .int _
abbrev dShl : D → D → Option D := dIc CPow fun i j => .int (i * 2 ^ j.toNat)
theorem od_shl : OpD K (rI CPow fun i j => .int (i * 2 ^ j.toNat)) dShl := od_Ic fun i j I => .int _
def dNeg : D → Option D
  | .int i => some (.int (-i))
  | _ => none
theorem ud_neg : UnD K (rU fun i => .int (-i)) dNeg := by
  intro I H x d z s p hz Q k
  cases p with
  | int i => cases hz; exact ⟨i, rfl, k _ I H (Pst.refl s) (.int _)⟩
  | _ => cases hz

/-! ### comparisons -/
abbrev dLtI : D → D → Option D := dI fun i j => .bool (decide (i < j))
theorem od_ltI : OpD K (rI0 fun i j => .bl (decide (i < j))) dLtI := od_I fun i j I => .bl _
abbrev dLeI : D → D → Option D := dI fun i j => .bool (decide (i ≤ j))
theorem od_leI : OpD K (rI0 fun i j => .bl (decide (i ≤ j))) dLeI := od_I fun i j I => .bl _
abbrev dGtI : D → D → Option D := dI fun i j => .bool (decide (j < i))
theorem od_gtI : OpD K (rI0 fun i j => .bl (decide (j < i))) dGtI := od_I fun i j I => .bl _
abbrev dGeI : D → D → Option D := dI fun i j => .bool (decide (j ≤ i))
theorem od_geI : OpD K (rI0 fun i j => .bl (decide (j ≤ i))) dGeI := od_I fun i j I => .bl _
def dEq (x y : D) : Option D := if x.depth ≤ 64 ∧ y.depth ≤ 64 then some (.bool (PyData.eqv x y)) else none
def dNe (x y : D) : Option D := if x.depth ≤ 64 ∧ y.depth ≤ 64 then some (.bool (!PyData.eqv x y)) else none
theorem shaped_of {I : Hp} {v : V} {d : D} (h : Rp K I v d) (hd : d.depth ≤ 64) : SeqAt.shaped d = true := by
  unfold SeqAt.shaped
  rw [h.lay hd, decide_eq_true hd]
  rfl
theorem od_eq : OpD K (rEqD K) dEq := by
  intro I H x y d e z s p q hz Q k
  unfold dEq at hz
  split at hz
  · rename_i hc
    cases hz
    exact ⟨d, e, (p.mono s).dp hc.1, (q.mono s).dp hc.2, shaped_of p hc.1, shaped_of q hc.2, k _ I H (Pst.refl s) (.bl _)⟩
  · cases hz
theorem od_ne : OpD K (rNeD K) dNe := by
  intro I H x y d e z s p q hz Q k
  unfold dNe at hz
  split at hz
  · rename_i hc
    cases hz
    exact ⟨d, e, (p.mono s).dp hc.1, (q.mono s).dp hc.2, shaped_of p hc.1, shaped_of q hc.2, k _ I H (Pst.refl s) (.bl _)⟩
  · cases hz
def isNone : D → Bool
  | .none => true
  | _ => false
def dIs : D → D → Option D
  | x, .none => some (.bool (isNone x))
  | _, _ => none
def dIsNot : D → D → Option D
  | x, .none => some (.bool (!isNone x))
  | _, _ => none
theorem isNone_rp {I : Hp} {v : V} {d : D} (h : Rp K I v d) : decide (v = .non) = isNone d := by
  cases h <;> simp [isNone]
theorem od_is : OpD K (fun x y H Q => y = .non ∧ Q (.bl (decide (x = .non))) H) dIs := by
  intro I H x y d e z s p q hz Q k
  cases q with
  | non => cases hz; exact ⟨rfl, by rw [isNone_rp p]; exact k _ I H (Pst.refl s) (.bl _)⟩
  | _ => cases hz
theorem od_isNot : OpD K (fun x y H Q => y = .non ∧ Q (.bl (!decide (x = .non))) H) dIsNot := by
  intro I H x y d e z s p q hz Q k
  cases q with
  | non => cases hz; exact ⟨rfl, by rw [isNone_rp p]; exact k _ I H (Pst.refl s) (.bl _)⟩
  | _ => cases hz
/-- in: a list of data, a tuple of flat data, one sign in a text -/
def flatD : D → Bool
  | .none | .bool _ | .int _ | .str _ => true
  | _ => false
theorem flat_rp {I : Hp} {v : V} {d : D} (h : Rp K I v d) : flatV v = flatD d := by cases h <;> rfl
theorem eqV_rp {I : Hp} {u v : V} {d e : D} (hu : Rp K I u d) (hv : Rp K I v e) (fd : flatD d = true) (fe : flatD e = true) : eqV u v = PyData.eqv d e := by
  cases hu <;> cases hv <;> first | (cases fd; done) | (cases fe; done) | (simp only [eqV, PyData.eqv])
theorem inV_rp {I : Hp} {x : V} {d : D} (hx : Rp K I x d) (fd : flatD d = true) : ∀ {vs : List V} {ds : List D}, RpA K I vs ds → ds.all flatD = true → inV x vs = ds.any fun e => PyData.eqv e d
  | _, _, .nil, _ => rfl
  | _, _, .cons (d := e) a b, h => by
    rw [List.all_cons, Bool.and_eq_true] at h
    show (eqV _ x || inV x _) = (PyData.eqv e d || _)
    rw [eqV_rp a hx h.1 fd, inV_rp hx fd b h.2]
theorem flats_rp {I : Hp} : ∀ {vs : List V} {ds : List D}, RpA K I vs ds → vs.all flatV = ds.all flatD
  | _, _, .nil => rfl
  | _, _, .cons a b => by rw [List.all_cons, List.all_cons, flat_rp a, flats_rp b]
def dInF (neg : Bool) : D → D → Option D
  | x, .list ds => if flatD x = true ∧ ds.all flatD = true then some (.bool (if neg then !ds.any (fun e => PyData.eqv e x) else ds.any fun e => PyData.eqv e x)) else none
  | x, .tuple ds => if flatD x = true ∧ ds.all flatD = true then some (.bool (if neg then !ds.any (fun e => PyData.eqv e x) else ds.any fun e => PyData.eqv e x)) else none
  | _, _ => none
theorem od_inF (neg : Bool) : OpD K (rIn K neg) (dInF neg) := by
  intro I H x y d e z s p q hz Q k
  cases q with
  | lst hq ra hl =>
    have hz : (if _ then _ else none) = some z := hz
    split at hz
    · rename_i hc
      cases hz
      refine ⟨_, _, rfl, .inl (SqL.of (s _ _ hq)), by rw [flat_rp p]; exact hc.1, by rw [flats_rp ra]; exact hc.2, ?_⟩
      rw [inV_rp p hc.1 ra hc.2]
      exact k _ I H (Pst.refl s) (.bl _)
    · cases hz
  | tup hq ra hl =>
    have hz : (if _ then _ else none) = some z := hz
    split at hz
    · rename_i hc
      cases hz
      refine ⟨_, _, rfl, .inr (same_t s hq), by rw [flat_rp p]; exact hc.1, by rw [flats_rp ra]; exact hc.2, ?_⟩
      rw [inV_rp p hc.1 ra hc.2]
      exact k _ I H (Pst.refl s) (.bl _)
    · cases hz
  | _ => cases hz
def dInS (neg : Bool) : D → D → Option D
  | .str ⟨cs⟩, .str z => match cs.toList with
    | [c] => some (.bool (if neg then !decide (c ∈ z.cps.toList) else decide (c ∈ z.cps.toList)))
    | _ => none
  | _, _ => none
theorem dInS_some {neg : Bool} {x y z : D} (h : dInS neg x y = some z) : ∃ c u, x = .str ⟨#[c]⟩ ∧ y = .str u ∧ z = .bool (if neg then !decide (c ∈ u.cps.toList) else decide (c ∈ u.cps.toList)) := by
  cases x with
  | str s =>
    obtain ⟨cs⟩ := s
    cases y with
    | str u =>
      have h : (match cs.toList with
        | [c] => some (PyData.bool (if neg then !decide (c ∈ u.cps.toList) else decide (c ∈ u.cps.toList)))
        | _ => none) = some z := h
      split at h
      · rename_i c ec
        cases h
        have e : cs = #[c] := by
          apply Array.ext'
          rw [ec]
        exact ⟨c, u, by rw [e], rfl, rfl⟩
      · cases h
    | _ => cases h
  | _ => cases h
theorem od_inS : OpD K (fun x y H Q => ∃ (c : Nat) (z : Str), x = .str ⟨#[c]⟩ ∧ y = .str z ∧ Q (.bl (decide (c ∈ z.cps.toList))) H) (dInS false) := by
  intro I H x y d e z s p q hz Q k
  obtain ⟨c, u, rfl, rfl, rfl⟩ := dInS_some hz
  cases p
  cases q
  exact ⟨c, u, rfl, rfl, k _ I H (Pst.refl s) (.bl _)⟩
theorem od_notInS : OpD K (fun x y H Q => ∃ (c : Nat) (z : Str), x = .str ⟨#[c]⟩ ∧ y = .str z ∧ Q (.bl (!decide (c ∈ z.cps.toList))) H) (dInS true) := by
  intro I H x y d e z s p q hz Q k
  obtain ⟨c, u, rfl, rfl, rfl⟩ := dInS_some hz
  cases p
  cases q
  exact ⟨c, u, rfl, rfl, k _ I H (Pst.refl s) (.bl _)⟩

/-! ### built-in functions -/
def dLen : List D → Option D
  | [.list ds] => some (.int ds.length)
  | [.tuple ds] => some (.int ds.length)
  | [.str x] => some (.int x.length)
  | _ => none
theorem cd_len : CallD K (fun xs H Q => ∃ x n, xs = [x] ∧ LenV K x H n ∧ Q (.int n) H) dLen := by
  intro I H xs ds z s p hz Q k
  cases p with
  | nil => cases hz
  | cons a b =>
    cases b with
    | cons _ _ => cases a <;> cases hz
    | nil =>
      cases a with
      | lst hp ra hl => cases hz; exact ⟨_, _, rfl, .inl ⟨_, SqL.of (s _ _ hp), ra.len.symm⟩, k _ I H (Pst.refl s) (.int _)⟩
      | tup hp ra hl => cases hz; exact ⟨_, _, rfl, .inr ⟨_, same_t s hp, ra.len.symm⟩, k _ I H (Pst.refl s) (.int _)⟩
      | str hx => cases hz; exact ⟨_, _, rfl, ⟨hx.1, rfl⟩, k _ I H (Pst.refl s) (.int _)⟩
      | _ => cases hz
def dAbs : List D → Option D
  | [.int i] => some (.int (if i < 0 then -i else i))
  | _ => none
theorem cd_abs : CallD K (fun xs H Q => ∃ i, xs = [.int i] ∧ Q (.int (if i < 0 then -i else i)) H) dAbs := by
  intro I H xs ds z s p hz Q k
  cases p with
  | nil => cases hz
  | cons a b =>
    cases b with
    | cons _ _ => cases a <;> cases hz
    | nil =>
      cases a with
      | int i => cases hz; exact ⟨i, rfl, k _ I H (Pst.refl s) (.int _)⟩
      | _ => cases hz
def dInt : List D → Option D
  | [.int i] => some (.int i)
  | [.bool b] => some (.int (if b then 1 else 0))
  | _ => none
theorem cd_int : CallD K (fun xs H Q => (∃ i, xs = [.int i] ∧ Q (.int i) H) ∨ ∃ k, xs = [.bl k] ∧ Q (.int (if k then 1 else 0)) H) dInt := by
  intro I H xs ds z s p hz Q k
  cases p with
  | nil => cases hz
  | cons a b =>
    cases b with
    | cons _ _ => cases a <;> cases hz
    | nil =>
      cases a with
      | int i => cases hz; exact .inl ⟨i, rfl, k _ I H (Pst.refl s) (.int _)⟩
      | bl i => cases hz; exact .inr ⟨i, rfl, k _ I H (Pst.refl s) (.int _)⟩
      | _ => cases hz
def dMax2 : List D → Option D
  | [.int i, .int j] => some (.int (if j > i then j else i))
  | _ => none
def dMin2 : List D → Option D
  | [.int i, .int j] => some (.int (if j < i then j else i))
  | _ => none
theorem rpa_two {I : Hp} {xs : List V} {i j : Int} (h : RpA K I xs [.int i, .int j]) : xs = [.int i, .int j] := by
  cases h with
  | cons a b => cases a; cases b with
    | cons a b => cases a; cases b; rfl
theorem cd_max2 : CallD K (fun xs H Q => ∃ i j, xs = [.int i, .int j] ∧ Q (.int (if j > i then j else i)) H) dMax2 := by
  intro I H xs ds z s p hz Q k
  unfold dMax2 at hz
  split at hz
  · cases hz; exact ⟨_, _, rpa_two p, k _ I H (Pst.refl s) (.int _)⟩
  · cases hz
theorem cd_min2 : CallD K (fun xs H Q => ∃ i j, xs = [.int i, .int j] ∧ Q (.int (if j < i then j else i)) H) dMin2 := by
  intro I H xs ds z s p hz Q k
  unfold dMin2 at hz
  split at hz
  · cases hz; exact ⟨_, _, rpa_two p, k _ I H (Pst.refl s) (.int _)⟩
  · cases hz
/-- list(x) -/
def dListOf : List D → Option (List D)
  | [.list ds] => some ds
  | [.tuple ds] => some ds
  | _ => none
theorem cf_list : CallF K (fun xs H Q => ∃ p ys, xs = [.ref p] ∧ (SqL K H p ys ∨ SqT K H p ys) ∧ ∀ l, H l = none → Q (.ref l) (upd H l (.lst ys))) dListOf := by
  intro I H xs ds zs s p hz Q k
  cases p with
  | nil => cases hz
  | cons a b =>
    cases b with
    | cons _ _ => cases a <;> cases hz
    | nil =>
      cases a with
      | lst hp ra hl => cases hz; exact ⟨_, _, rfl, .inl (SqL.of (s _ _ hp)), fun l h0 => k l _ _ h0 (same_new h0) upd_same ra hl⟩
      | tup hp ra hl => cases hz; exact ⟨_, _, rfl, .inr (same_t s hp), fun l h0 => k l _ _ h0 (same_new h0) upd_same ra hl⟩
      | _ => cases hz
def dTupleOf : List D → Option D
  | [.list ds] => some (.tuple ds)
  | [.tuple ds] => some (.tuple ds)
  | _ => none
theorem cd_tuple : CallD K (fun xs H Q => ∃ p ys, xs = [.ref p] ∧ ((SqL K H p ys ∧ ∀ l, H l = none → Q (.ref l) (upd H l (.tup ys))) ∨ (SqT K H p ys ∧ Q (.ref p) H))) dTupleOf := by
  intro I H xs ds zs s p hz Q k
  cases p with
  | nil => cases hz
  | cons a b =>
    cases b with
    | cons _ _ => cases a <;> cases hz
    | nil =>
      cases a with
      | lst hp ra hl =>
        cases hz
        exact ⟨_, _, rfl, .inl ⟨SqL.of (s _ _ hp), fun l h0 => by
          exact k _ _ _ (Pst.new s h0) (.tup (SqT.of upd_same) (ra.mono (Pst.new s h0).eI) hl)⟩⟩
      | tup hp ra hl => cases hz; exact ⟨_, _, rfl, .inr ⟨same_t s hp, k _ I H (Pst.refl s) (.tup hp ra hl)⟩⟩
      | _ => cases hz
def intsD : List D → Option (List Int)
  | [] => some []
  | .int i :: ds => (intsD ds).map (i :: ·)
  | _ => none
theorem intsD_some : ∀ {ds : List D} {ns : List Int}, intsD ds = some ns → ds = ns.map .int
  | [], _, h => by cases h; rfl
  | d :: ds, ns, h => by
    cases d with
    | int i =>
      obtain ⟨r, h1, rfl⟩ := Option.map_eq_some_iff.mp h
      rw [intsD_some h1]; rfl
    | _ => cases h
theorem intsD_map : ∀ ns : List Int, intsD (ns.map .int) = some ns
  | [] => rfl
  | n :: ns => by show (intsD (ns.map .int)).map (n :: ·) = _; rw [intsD_map ns]; rfl
def boolsD : List D → Option (List Bool)
  | [] => some []
  | .bool i :: ds => (boolsD ds).map (i :: ·)
  | _ => none
theorem boolsD_some : ∀ {ds : List D} {ns : List Bool}, boolsD ds = some ns → ds = ns.map .bool
  | [], _, h => by cases h; rfl
  | d :: ds, ns, h => by
    cases d with
    | bool i =>
      obtain ⟨r, h1, rfl⟩ := Option.map_eq_some_iff.mp h
      rw [boolsD_some h1]; rfl
    | _ => cases h
theorem boolsD_map : ∀ ns : List Bool, boolsD (ns.map .bool) = some ns
  | [] => rfl
  | n :: ns => by show (boolsD (ns.map .bool)).map (n :: ·) = _; rw [boolsD_map ns]; rfl
theorem RpA.bools {H : Hp} : ∀ {vs : List V} {ns : List Bool}, RpA K H vs (ns.map .bool) → vs = ns.map V.bl
  | _, [], h => by cases h; rfl
  | _, n :: ns, h => by
    cases h with
    | cons a b => cases a; rw [List.map_cons, ← RpA.bools b]
def dSum : List D → Option D
  | [.list ds] => (intsD ds).map fun ns => .int ns.sum
  | _ => none
theorem one_lst {I : Hp} {xs : List V} {ds : List D} (h : RpA K I xs [.list ds]) : ∃ p vs, xs = [.ref p] ∧ I p = some (.lst vs) ∧ RpA K I vs ds ∧ ds.length ≤ sizeLine := by
  cases h with
  | cons a b => cases b; cases a with
    | lst hp ra hl => exact ⟨_, _, rfl, hp, ra, hl⟩
theorem cd_sum : CallD K (rSum K) dSum := by
  intro I H xs ds z s p hz Q k
  unfold dSum at hz
  split at hz
  · obtain ⟨ns, e, rfl⟩ := Option.map_eq_some_iff.mp hz
    obtain ⟨a, vs, rfl, hp, ra, hl⟩ := one_lst p
    rw [intsD_some e] at ra
    rw [RpA.ints ra] at hp
    exact ⟨a, ns, rfl, SqL.of (s _ _ hp), k _ I H (Pst.refl s) (.int _)⟩
  · cases hz
def dAll : List D → Option D
  | [.list ds] => (boolsD ds).map fun ns => .bool (ns.all id)
  | _ => none
theorem cd_all : CallD K (rAll K) dAll := by
  intro I H xs ds z s p hz Q k
  unfold dAll at hz
  split at hz
  · obtain ⟨ns, e, rfl⟩ := Option.map_eq_some_iff.mp hz
    obtain ⟨a, vs, rfl, hp, ra, hl⟩ := one_lst p
    rw [boolsD_some e] at ra
    rw [RpA.bools ra] at hp
    exact ⟨a, ns, rfl, SqL.of (s _ _ hp), k _ I H (Pst.refl s) (.bl _)⟩
  · cases hz
def dAny : List D → Option D
  | [.list ds] => (boolsD ds).map fun ns => .bool (ns.any id)
  | _ => none
theorem cd_any : CallD K (rAny K) dAny := by
  intro I H xs ds z s p hz Q k
  unfold dAny at hz
  split at hz
  · obtain ⟨ns, e, rfl⟩ := Option.map_eq_some_iff.mp hz
    obtain ⟨a, vs, rfl, hp, ra, hl⟩ := one_lst p
    rw [boolsD_some e] at ra
    rw [RpA.bools ra] at hp
    exact ⟨a, ns, rfl, SqL.of (s _ _ hp), k _ I H (Pst.refl s) (.bl _)⟩
  · cases hz
end
end Pd

/-! Pd: order of data, isinstance, texts. -/
namespace PdLt
open PySem PySem.SeqAt
open SeqRoads2 MeetsSeq3 MeetsSeq2 MeetsSeq
open AutoSeq1 (wpAny_loadPart')
set_option autoImplicit false
/-- two tuples whose first items are unlike: these decide -/
theorem meets_first (p q : Addr) (us ws : Array Value) (c1 c2 : Nat) (e1 e2 : Option Addr) (z1 z2 : Array (Option Value)) (k : Bool) (hu : 0 < us.size) (hw : 0 < ws.size) : Meets (Builtin.«tuple.__lt__» ⟨[.ref p, .ref q], []⟩)
    (fun A R s => s.heap.get? p = some { cls := .type "tuple", dict := e1, data := .seq us c1, slots := z1 } ∧ s.heap.get? q = some { cls := .type "tuple", dict := e2, data := .seq ws c2, slots := z2 } ∧
      EqAt A.in1 s us[0] ws[0] false ∧ RcLt A.in1 s us[0] ws[0] k ∧ R (.ok (.ret (.bool k))) s) :=
  .of_wp fun prog w A R s h => by
    obtain ⟨hp, g, d, tk, os⟩ := s
    obtain ⟨ho, hq, hne, hlt, h⟩ := h
    have sub := AutoSeq1.sub_tuple_tuple
    have first : ∃ r, us.toList.zip ws.toList = (us[0], ws[0]) :: r := by
      obtain ⟨ul⟩ := us
      obtain ⟨wl⟩ := ws
      cases ul with
      | nil => simp at hu
      | cons x xs =>
        cases wl with
        | nil => simp at hw
        | cons y ys => exact ⟨xs.zip ys, by simp⟩
    obtain ⟨rs, first⟩ := first
    wp_walk using wpAny_loadPart' ho, wpAny_loadPart' hq, wpAny_forIn_list _ (fun rest b s' => b.1 = none ∧ s' = ⟨hp, g, d, tk, os⟩ ∧ rest = us.toList.zip ws.toList) _
    case turn =>
      rintro ⟨y, x⟩ rest b s' ⟨hb, rfl, hz⟩
      rw [first] at hz
      injection hz with hyx hrest
      injection hyx with hy hx
      subst hy hx
      refine wpAny_bind (hne prog w _ _ ?_)
      rw [if_pos (by rfl)]
      refine wpAny_bind (wpAny_rule (wpAny_bind (hlt prog w _ _ ?_)))
      wp_walk
      exact ⟨_, rfl, h⟩
    case fin =>
      rintro ⟨b1, b2⟩ s' ⟨hb, rfl, hz⟩
      rw [first] at hz
      cases hz
    case h =>
      exact ⟨rfl, rfl, rfl⟩
theorem rcLt_first {A : Around} {s : Shared} {p q : Addr} {us ws : Array Value} {k : Bool} (ho : s.heap.IsTuple p us) (hq : s.heap.IsTuple q ws) (hA : A.units < cLine) (hu : 0 < us.size) (hw : 0 < ws.size)
    (hne : EqAt A.in1 s us[0] ws[0] false) (hlt : RcLt A.in1 s us[0] ws[0] k) : RcLt A s (.ref p) (.ref q) k := fun prog w E Q h => by
  obtain ⟨⟨k1, dd, t1, sl⟩, ho, hc, n, hd⟩ := id ho
  obtain ⟨⟨k2, dd2, t2, sl2⟩, ho2, hc2, n2, hd2⟩ := id hq
  dsimp only at hc hd hc2 hd2
  subst hc; subst hd; subst hc2; subst hd2
  refine richCompare_meets_room (op := .Lt) ⟨_, ho, rfl⟩ ⟨_, ho2, rfl⟩ F.slot_tuple_lt F.entry_tuple_lt (F.args_tuple_lt_2 _ _) (meets_first p q us ws n n2 dd dd2 sl sl2 k hu hw) ⟨ho, ho2, hne, hlt, ?_⟩ hA
  exact ⟨(fun z => by cases z), h⟩
end PdLt

namespace Pd
open PySem PySem.Spec L2
section
variable {G : Type} {X : Cx} {S : Gs G} {K : PySem.W.Frag}
/-! ### < of data that is alike place by place; of tuples whose first items are unlike ints -/
def dLt (x y : D) : Option D := if x.depth ≤ 64 ∧ y.depth ≤ 64 ∧ PySem.W.alike x y = true ∧ isNone x = false then some (.bool (PySem.W.dataLt x y)) else match x, y with
  | .tuple (.int i :: r), .tuple (.int j :: t) => if i = j ∨ 64 < (PyData.tuple (.int i :: r)).depth ∨ 64 < (PyData.tuple (.int j :: t)).depth then none else some (.bool (decide (i < j)))
  | _, _ => none
def rLtD (K : PySem.W.Frag) : R2 := fun x y H Q => ∃ d e, Dp K H x d ∧ Dp K H y e ∧ ((d.depth ≤ 64 ∧ e.depth ≤ 64 ∧ PySem.W.alike d e = true ∧ isNone d = false ∧ Q (.bl (PySem.W.dataLt d e)) H) ∨
  ∃ i j r t, d = .tuple (.int i :: r) ∧ e = .tuple (.int j :: t) ∧ i ≠ j ∧ Q (.bl (decide (i < j))) H)
theorem reads_tup {h : Heap} {u : Value} {ds : List D} {as : List Addr} (r : Reads h u (.tuple ds) as) : ∃ (l : Addr) (vs : Array Value) (bs : List Addr), u = .ref l ∧ h.IsTuple l vs ∧ ReadsAll h vs.toList ds bs := by
  cases r with
  | tuple h1 h2 h3 h4 => exact ⟨_, _, _, rfl, ⟨_, h1, h2, _, h3⟩, h4⟩
theorem op_ltD (hu : X.A.units + 65 < cLine) : OpR X (compareOp .Lt) (rLtD X.K) := by
  intro pins s σ H x y v u Q I rx ry h
  obtain ⟨d, e, hd, he, h⟩ := h
  obtain ⟨as, r1⟩ := Dp.reads I d x v hd rx
  obtain ⟨bs, r2⟩ := Dp.reads I e y u he ry
  rcases h with ⟨d1, d2, al, nn, q⟩ | ⟨i, j, r, t, rfl, rfl, ne, q⟩
  · have nn' : d ≠ .none := fun z => by rw [z] at nn; cases nn
    have hm : min d.depth e.depth ≤ d.depth := Nat.min_le_left _ _
    exact PySem.W.rcLt_alike d e X.A s v u as bs r1 r2 al nn' (by omega) X.prog X.w _ _ ⟨.bl _, H, I, rfl, q⟩
  · obtain ⟨p, us, cs, rfl, t1, ra⟩ := reads_tup r1
    obtain ⟨q', ws, es, rfl, t2, rb⟩ := reads_tup r2
    obtain ⟨ul⟩ := us
    obtain ⟨wl⟩ := ws
    cases ra with
    | cons r1 ra =>
      cases rb with
      | cons r2 rb =>
        cases r1
        cases r2
        refine PdLt.rcLt_first (k := decide (i < j)) t1 t2 (by omega) (by simp) (by simp) ?_ ?_ X.prog X.w _ _ ⟨.bl _, H, I, rfl, q⟩
        · intro prog w E Q hq
          have e : (i == j) = false := beq_eq_false_iff_ne.mpr ne
          exact wpAny_eqBool_int (by rw [e]; exact hq)
        · intro prog w E Q hq
          exact P.lt_int hq
theorem od_lt : OpD K (rLtD K) dLt := by
  intro I H x y d e z s p q hz Q k
  unfold dLt at hz
  split at hz
  · rename_i hc
    cases hz
    exact ⟨d, e, (p.mono s).dp hc.1, (q.mono s).dp hc.2.1, .inl ⟨hc.1, hc.2.1, hc.2.2.1, hc.2.2.2, k _ I H (Pst.refl s) (.bl _)⟩⟩
  · split at hz
    · split at hz
      · cases hz
      · rename_i ne
        cases hz
        exact ⟨_, _, (p.mono s).dp (by omega), (q.mono s).dp (by omega), .inr ⟨_, _, _, _, rfl, rfl, fun z => ne (.inl z), k _ I H (Pst.refl s) (.bl _)⟩⟩
    · cases hz
end
end Pd

/-! Pd: isinstance, texts. -/
namespace Pd
open PySem PySem.Spec L2
section
variable {G : Type} {X : Cx} {S : Gs G} {K : PySem.W.Frag} {a b c e : Expr} {es : List Expr} {pos : Pos} {ma mb me : ME G}
/-! ### isinstance -/
def tyN : D → String
  | .none => "NoneType"
  | .bool _ => "bool"
  | .int _ => "int"
  | .str _ => "str"
  | .list _ => "list"
  | .tuple _ => "tuple"
  | .dict _ => "dict"
theorem tyX_rp {I H : Hp} {v : V} {d : D} (s : Same I H) (h : Rp K I v d) : TyX K H v (.type (tyN d)) := by
  cases h with
  | non => exact .base .non
  | bl b => exact .base (.bl b)
  | int i => exact .base (.int i)
  | str h => exact .base (.str _)
  | lst hp _ _ => exact .base (.lst (s _ _ hp))
  | tup hp _ _ =>
    rcases hp with (hp | ⟨o, hp⟩) | ⟨o, its, n, hk, hc, _⟩
    · exact .base (.tup (s _ _ hp))
    · exact .fTuple (s _ _ hp)
    · exact .kTuple hk hc
  | emp hp => exact .base (.dT (s _ _ hp))
/-- isinstance(e, T), T a built-in class: what it is, by the name of its class -/
def isTy (T : String) (d : D) : Option Bool := kitB (tyN d) T
def mIsi (T : String) (ma : ME G) : ME G := fun env g => bD (ma env g) fun d g1 => (isTy T d).map fun b => (.bool b, g1)
theorem de_isi {T : String} {x : Str} {p q : Pos} (hg : Gl X "isinstance") (hm : X.mg "isinstance" = none) (hgT : Gl X x) (hmT : X.mg x = none) (hvT : bootBuiltins x = some (.type T)) (ha : DE X S e ma)
    (hn : x ≠ "__name__" := by decide) (hd : (x == ("__debug__" : Str)) = false := by decide)
    (he : starEach [e, .Name x q] X.env = (false, eval e X.env) :: starEach [.Name x q] X.env := by rfl) (hs : starEach [.Name x q] X.env = (false, eval (.Name x q) X.env) :: starEach [] X.env := by rfl) (hpl : (backTo pos (starEach [.Name x q] X.env)).any (·.1) = false := by rfl) :
    DE X S (.Call (.Name "isinstance" p) [e, .Name x q] [] pos) (mIsi T ma) :=
  PE.imp (pe_callB call_isi hg hm (by decide +kernel) (pa_cons ha (pa_cons (pe_bltn (v := .ty T) hgT hmT hvT rfl hn hd) pa_nil hs) he) (by decide) (by decide) he hpl) fun σ H Q ⟨w, env, g, d, g', R, e, k⟩ => by
    obtain ⟨y, g1, e1, e⟩ := bD_some e
    obtain ⟨b, e2, e⟩ := Option.map_eq_some_iff.mp e
    cases e
    refine ⟨w, env, g, y, g', R, e1, fun v I' H' s' R' p => ?_⟩
    exact ⟨v, .ty T, .type (tyN y), .type T, b, rfl, .ty T, tyX_rp R'.eI p, kit_ty e2, k _ I' H' s' R' (.bl _)⟩
/-- isinstance(e, (S, T)) -/
def isTy2 (T U : String) (d : D) : Option Bool := match isTy T d with
  | some true => some true
  | some false => isTy U d
  | none => none
def mIsi2 (T U : String) (ma : ME G) : ME G := fun env g => bD (ma env g) fun d g1 => (isTy2 T U d).map fun b => (.bool b, g1)
theorem de_isi2 {T U : String} {x y : Str} {p q r tp : Pos} {kk : Nat} (hg : Gl X "isinstance") (hm : X.mg "isinstance" = none) (hgT : Gl X x) (hmT : X.mg x = none) (hvT : bootBuiltins x = some (.type T)) (hgU : Gl X y) (hmU : X.mg y = none) (hvU : bootBuiltins y = some (.type U)) (ha : DE X S e ma)
    (hn : x ≠ "__name__" := by decide) (hd : (x == ("__debug__" : Str)) = false := by decide) (hn2 : y ≠ "__name__" := by decide) (hd2 : (y == ("__debug__" : Str)) = false := by decide)
    (he : starEach [e, .Tuple [.Name x q, .Name y r] kk tp] X.env = (false, eval e X.env) :: starEach [.Tuple [.Name x q, .Name y r] kk tp] X.env := by rfl) (hs : starEach [.Tuple [.Name x q, .Name y r] kk tp] X.env = (false, eval (.Tuple [.Name x q, .Name y r] kk tp) X.env) :: starEach [] X.env := by rfl)
    (hs1 : starEach [.Name x q, .Name y r] X.env = (false, eval (.Name x q) X.env) :: starEach [.Name y r] X.env := by rfl) (hs2 : starEach [.Name y r] X.env = (false, eval (.Name y r) X.env) :: starEach [] X.env := by rfl)
    (hpl : (backTo pos (starEach [.Tuple [.Name x q, .Name y r] kk tp] X.env)).any (·.1) = false := by rfl) :
    DE X S (.Call (.Name "isinstance" p) [e, .Tuple [.Name x q, .Name y r] kk tp] [] pos) (mIsi2 T U ma) :=
  PE.imp (pe_callB call_isiT hg hm (by decide +kernel) (pa_cons ha (pa_cons (pe_tup (pa_cons (pe_bltn (v := .ty T) hgT hmT hvT rfl hn hd) (pa_cons (pe_bltn (v := .ty U) hgU hmU hvU rfl hn2 hd2) pa_nil hs2) hs1)) pa_nil hs) he) (by decide) (by decide) he hpl) fun σ H Q ⟨w, env, g, d, g', R, e, k⟩ => by
    obtain ⟨y, g1, e1, e⟩ := bD_some e
    obtain ⟨b, e2, e⟩ := Option.map_eq_some_iff.mp e
    cases e
    refine ⟨w, env, g, y, g', R, e1, fun v I' H' s' R' p => ⟨by show 2 ≤ sizeLine; decide, fun t ht => ?_⟩⟩
    refine ⟨v, t, [.ty T, .ty U], .type (tyN y), [.type T, .type U], b, rfl, upd_same, .cons (.ty T) (.cons (.ty U) .nil), tyX_rp (R'.eI.trans (same_new ht)) p, ?_, ?_⟩
    · unfold isTy2 at e2
      cases e3 : isTy T y with
      | none => rw [e3] at e2; cases e2
      | some c =>
        rw [e3] at e2
        cases c with
        | true => cases e2; exact kitAny_cons (kit_ty e3) (fun z => by cases z) fun _ => rfl
        | false =>
          refine kitAny_cons (kit_ty e3) (fun _ => ?_) (fun z => by cases z)
          have e2 : isTy U y = some b := e2
          unfold PySem.W.kitAny
          rw [show PySem.W.kitOne X.K (.type (tyN y)) (.type U) = some b from kit_ty e2]
          cases b <;> rfl
    · have ps := Pst.new (p := t) (o := HO.tup [V.ty T, V.ty U]) R'.eI ht
      exact k _ _ _ (Same.trans s' ps.eI) (R'.pst ps) (.bl _)

/-! ### methods of texts -/
def mM1 (f : D → D → Option D) (ma mb : ME G) : ME G := fun env g => bD (ma env g) fun x g1 => match x with
  | .str z => bD (mb env g1) fun y g2 => (f (.str z) y).map (·, g2)
  | _ => none
theorem te_m1 {r : V → List V → Hp → VK → Prop} {f : D → D → Option D} (hf : OpD X.K (fun x y H Q => r x [y] H Q) f) {σ : St} {H : Hp} {Q : VK} (h : tE X.K S (mM1 f ma mb) σ H Q) : tM1 r (tE X.K S ma) (tE X.K S mb) σ H Q := by
  obtain ⟨w, env, g, d, g', R, e, k⟩ := h
  obtain ⟨x, g1, e1, e⟩ := bD_some e
  split at e
  · obtain ⟨y, g2, e2, e⟩ := bD_some e
    obtain ⟨e3, rfl⟩ := map_some e
    refine ⟨w, env, g, _, g1, R, e1, fun v I1 H1 s1 R1 p1 => ?_⟩
    cases p1 with
    | str hx =>
      refine ⟨⟨_, rfl⟩, w.im I1, env, g1, y, g', R1, e2, fun u I2 H2 s2 R2 p2 => ?_⟩
      exact hf R2.eI (.str hx) p2 e3 fun v3 I3 H3 ps p3 => k v3 I3 H3 (s1.trans (Same.trans s2 ps.eI)) (R2.pst ps) p3
  · cases e
theorem mt_indexF : MtR X "str.index" (fun x xs H Q => ∃ (a b : Str) (i : Nat) (rest : List Nat), x = .str a ∧ xs = [.str b] ∧ Builtin.Str.occurrences a b 0 a.length 1 = i :: rest ∧ Q (.int (i : Nat)) H) := by
  intro pins s σ H x xs v us Q I rx rs h
  obtain ⟨a, b, i, rest, rfl, rfl, ho, q⟩ := h
  obtain ⟨t, rfl⟩ := rx
  cases rs with
  | cons r1 rs =>
    cases rs
    obtain ⟨u, rfl⟩ := r1
    exact PySem.SC.index ho ⟨.int (i : Nat), H, I.tok _, ⟨_, rfl⟩, q⟩
def dIndex : D → D → Option D
  | .str x, .str y => match Builtin.Str.occurrences x y 0 x.length 1 with
    | i :: _ => some (.int (i : Nat))
    | [] => none
  | _, _ => none
theorem od_index : OpD K (fun x y H Q => ∃ (a b : Str) (i : Nat) (rest : List Nat), x = .str a ∧ [y] = [.str b] ∧ Builtin.Str.occurrences a b 0 a.length 1 = i :: rest ∧ Q (.int (i : Nat)) H) dIndex := by
  intro I H x y d e z s p q hz Q k
  cases p with
  | str hx =>
    cases q with
    | str hy =>
      have hz : (match Builtin.Str.occurrences _ _ 0 _ 1 with
        | i :: _ => some (PyData.int (i : Nat))
        | [] => none) = some z := hz
      split at hz
      · rename_i i rest ho
        cases hz
        exact ⟨_, _, i, rest, rfl, rfl, ho, k _ I H (Pst.refl s) (.int _)⟩
      · cases hz
    | _ => cases hz
  | _ => cases hz
def strsD : List D → Option (List Str)
  | [] => some []
  | .str i :: ds => (strsD ds).map (i :: ·)
  | _ => none
theorem strsD_map : ∀ ns : List Str, strsD (ns.map .str) = some ns
  | [] => rfl
  | n :: ns => by show (strsD (ns.map .str)).map (n :: ·) = _; rw [strsD_map ns]; rfl
theorem strsD_some : ∀ {ds : List D} {ns : List Str}, strsD ds = some ns → ds = ns.map .str
  | [], _, h => by cases h; rfl
  | d :: ds, ns, h => by
    cases d with
    | str i =>
      obtain ⟨r, h1, rfl⟩ := Option.map_eq_some_iff.mp h
      rw [strsD_some h1]; rfl
    | _ => cases h
theorem RpA.strs {H : Hp} : ∀ {vs : List V} {ns : List Str}, RpA K H vs (ns.map .str) → vs = ns.map V.str ∧ ∀ n ∈ ns, SOk n
  | _, [], h => by cases h; exact ⟨rfl, fun _ h => nomatch h⟩
  | _, n :: ns, h => by
    cases h with
    | cons a b =>
      cases a with
      | str ha =>
        obtain ⟨h1, h2⟩ := RpA.strs b
        rw [List.map_cons, ← h1]
        refine ⟨rfl, fun m hm => ?_⟩
        rcases List.mem_cons.mp hm with e | e
        · rw [e]; exact ha
        · exact h2 m e
def dJoin : D → D → Option D
  | .str x, .list ds => (strsD ds).bind fun ys => if (ys.map (·.length)).sum + ys.length * x.length ≤ 16777216 ∧ x.length = 0 then some (.str ⟨((ys.map fun y => y.cps.toList).flatten).toArray⟩) else none
  | _, _ => none
theorem join_nil : ∀ {x : Str} {ys : List Str}, x.length = 0 → Txt.join x ys = ⟨((ys.map fun y => y.cps.toList).flatten).toArray⟩ := by
  intro x ys hx
  have hx' : TL.tl x = [] := by
    show x.cps.toList = []
    have : x.cps.size = 0 := hx
    apply List.eq_nil_of_length_eq_zero
    rw [Array.length_toList]; exact this
  have key : ∀ zs : List (List Nat), TL.joinL [] zs = zs.flatten := by
    intro zs
    induction zs with
    | nil => rfl
    | cons z zs ih =>
      cases zs with
      | nil => show z = z ++ []; rw [List.append_nil]
      | cons u us => show z ++ ([] ++ TL.joinL [] (u :: us)) = z ++ (u :: us).flatten; rw [ih]; rfl
  have h2 := TL.tl_join x ys
  rw [hx', key] at h2
  have h3 : (Txt.join x ys).cps.toList = (ys.map fun y => y.cps.toList).flatten := by
    rw [show Txt.join x ys = Str.join x ys from PySem.StrLaws.glued_eq_join x ys]
    exact h2
  cases e : Txt.join x ys with
  | mk cs =>
    rw [e] at h3
    congr
    apply Array.ext'
    rw [h3]
theorem sok_join {ys : List Str} (h : ∀ y ∈ ys, SOk y) (hz : (ys.map (·.length)).sum ≤ 16777216) : SOk ⟨((ys.map fun y => y.cps.toList).flatten).toArray⟩ := by
  refine ⟨?_, ?_⟩
  · show ((ys.map fun y => y.cps.toList).flatten).toArray.size ≤ sizeLine
    rw [List.size_toArray, List.length_flatten, List.map_map, line_val]
    have e : (ys.map (List.length ∘ fun y => y.cps.toList)) = ys.map (·.length) := by
      apply List.map_congr_left
      intro y _
      show y.cps.toList.length = y.cps.size
      rw [Array.length_toList]
    rw [e]; exact hz
  · simp only [PyData.canLay0]
    unfold PyData.strOk
    rw [Array.all_eq_true_iff_forall_mem]
    intro c hc
    have hc : c ∈ (ys.map fun y => y.cps.toList).flatten := by simpa using hc
    obtain ⟨l, hl, hcl⟩ := List.mem_flatten.mp hc
    obtain ⟨y, hy, rfl⟩ := List.mem_map.mp hl
    have h2 := (h y hy).2
    simp only [PyData.canLay0] at h2
    unfold PyData.strOk at h2
    rw [Array.all_eq_true_iff_forall_mem] at h2
    exact h2 c (by simpa using hcl)
theorem od_join : OpD K (fun x y H Q => ∃ a p, ∃ ys : List Str, x = .str a ∧ [y] = [.ref p] ∧ (SqL K H p (ys.map V.str) ∨ SqT K H p (ys.map V.str)) ∧ (ys.map (·.length)).sum + ys.length * a.length ≤ 16777216 ∧ Q (.str (Txt.join a ys)) H) dJoin := by
  intro I H x y d e z s p q hz Q k
  cases p with
  | str hx =>
    cases q with
    | lst hp ra hl =>
      have hz : (strsD _).bind _ = some z := hz
      obtain ⟨ys, e1, hz⟩ := Option.bind_eq_some_iff.mp hz
      split at hz
      · rename_i hc
        cases hz
        rw [strsD_some e1] at ra
        obtain ⟨f1, f2⟩ := RpA.strs ra
        rw [f1] at hp
        refine ⟨_, _, ys, rfl, rfl, .inl (SqL.of (s _ _ hp)), hc.1, ?_⟩
        rw [join_nil hc.2]
        exact k _ I H (Pst.refl s) (.str (sok_join f2 (by have := hc.1; omega)))
      · cases hz
    | _ => cases hz
  | _ => cases hz
theorem de_join {ap : Pos} (ho : DE X S a ma) (he : DE X S e me) (hs : starEach [e] X.env = [(false, eval e X.env)] := by rfl) (hbase : attributeBase a "join" X.env (eval a X.env) = eval a X.env := by rfl) (hline : (ap.endLine == pos.line) = true := by rfl) :
    DE X S (.Call (.Attribute a "join" ap) [e] [] pos) (mM1 dJoin ma me) := PE.imp (pe_join ho he hs hbase hline) fun _ _ _ h => te_m1 od_join h
theorem de_index {ap : Pos} (ho : DE X S a ma) (he : DE X S e me) (hs : starEach [e] X.env = [(false, eval e X.env)] := by rfl) (hbase : attributeBase a "index" X.env (eval a X.env) = eval a X.env := by rfl) (hline : (ap.endLine == pos.line) = true := by rfl) :
    DE X S (.Call (.Attribute a "index" ap) [e] [] pos) (mM1 dIndex ma me) := PE.imp (pe_m1 PySem.F.slot_str_index PySem.F.type_str_index mt_indexF ho he hs hbase hline) fun _ _ _ h => te_m1 od_index h
end
end Pd

/-! Pd: defs by name, constants; the law's list of draws. -/
namespace Pd
open PySem PySem.Spec L2
section
variable {G : Type} {X : Cx} {S : Gs G} {P : Program} {wd : World} {K : PySem.W.Frag} {mg : Str → Option Value} {base : Heap} {a b c e : Expr} {es : List Expr} {pos : Pos} {ma mb me : ME G} {ml : ML G}
/-- a def of the text, by its name -/
structure Dfn (K : PySem.W.Frag) (mg : Str → Option Value) (x qual : Str) (st : Stmt) (ps : List Str) : Prop where
  ex : ∃ f fd, Fun K x qual st f fd ∧ mg x = some (.ref f) ∧ Binds K fd ps []
/-- .. with its promise -/
structure Def1 (P : Program) (wd : World) (K : PySem.W.Frag) (mg : Str → Option Value) (base : Heap) (x : Str) (ps : List Str) (k : Nat) (sp : Sp) : Prop where
  ex : ∃ f fd, FnOk P wd K mg base CX0 k f fd ps sp ∧ mg x = some (.ref f) ∧ PySem.W.keepIn K (.ref f) = true ∧ Binds K fd ps []
theorem def_pure {x qual : Str} {st : Stmt} {N ps : List Str} {k : Nat} {m : MS Unit} (h : Dfn K mg x qual st ps) (Sc : FnScope N ps (defScope st)) (hb : ∀ f, Body P wd K mg base N qual st f k G0 m) : Def1 P wd K mg base x ps (k + 1) (spP K (runP N.length ps.length m)) := by
  obtain ⟨f, fd, F, hm, hB⟩ := h.ex
  exact ⟨f, fd, fn_pure F Sc (hb f), hm, F.kp, hB⟩
theorem def_new {x qual : Str} {st : Stmt} {N ps : List Str} {k : Nat} {m : MS Unit} (h : Dfn K mg x qual st ps) (Sc : FnScope N ps (defScope st)) (hb : ∀ f, Body P wd K mg base N qual st f k G0 m) : Def1 P wd K mg base x ps (k + 1) (spN K (runN N.length ps.length m)) := by
  obtain ⟨f, fd, F, hm, hB⟩ := h.ex
  exact ⟨f, fd, fn_new F Sc (hb f), hm, F.kp, hB⟩
theorem def_ghost {x qual : Str} {st : Stmt} {N ps : List Str} {k : Nat} {m : MS G} (h : Dfn K mg x qual st ps) (Sc : FnScope N ps (defScope st)) (hb : ∀ f, Body P wd K mg base N qual st f k S m) : Def1 P wd K mg base x ps (k + 1) (spG K S (runG N.length ps.length m)) := by
  obtain ⟨f, fd, F, hm, hB⟩ := h.ex
  exact ⟨f, fd, fn_ghost F Sc (hb f), hm, F.kp, hB⟩
theorem Def1.imp {x : Str} {ps : List Str} {k : Nat} {sp sp' : Sp} (h : Def1 P wd K mg base x ps k sp) (i : ∀ vs H Q E, sp' vs H Q E → sp vs H Q E) : Def1 P wd K mg base x ps k sp' := by
  obtain ⟨f, fd, F, r⟩ := h.ex
  exact ⟨f, fd, F.imp i, r⟩
theorem Def1.mono {x : Str} {ps : List Str} {j k : Nat} {sp : Sp} (h : Def1 P wd K mg base x ps j sp) (hk : j ≤ k) : Def1 P wd K mg base x ps k sp := by
  obtain ⟨f, fd, F, r⟩ := h.ex
  exact ⟨f, fd, F.mono hk, r⟩
/-- calls -/
theorem call_P {x : Str} {ps : List Str} {k : Nat} {F : List D → Option D} {p : Pos} (h : Def1 X.prog X.w X.K X.mg X.base x ps k (spP X.K F)) (hr : Room k X.A) (hg : Gl X x) (ha : DA X S (e :: es) ml) (hdb : (x == ("__debug__" : Str)) = false := by decide)
    (he : starEach (e :: es) X.env = (false, eval e X.env) :: starEach es X.env := by rfl) (hpl : (backTo pos (starEach es X.env)).any (·.1) = false := by rfl) : DE X S (.Call (.Name x p) (e :: es) [] pos) (mCall F ml) := by
  obtain ⟨f, fd, FF, hm, hk, hB⟩ := h.ex
  exact de_callP (pe_call FF hr hg hm hk hB .nil pass0 ha hdb he hpl)
theorem call_N {x : Str} {ps : List Str} {k : Nat} {F : List D → Option (List D)} {p : Pos} (h : Def1 X.prog X.w X.K X.mg X.base x ps k (spN X.K F)) (hr : Room k X.A) (hg : Gl X x) (ha : DA X S (e :: es) ml) (hdb : (x == ("__debug__" : Str)) = false := by decide)
    (he : starEach (e :: es) X.env = (false, eval e X.env) :: starEach es X.env := by rfl) (hpl : (backTo pos (starEach es X.env)).any (·.1) = false := by rfl) : DF X S (.Call (.Name x p) (e :: es) [] pos) (mCallF F ml) := by
  obtain ⟨f, fd, FF, hm, hk, hB⟩ := h.ex
  exact df_callN (pe_call FF hr hg hm hk hB .nil pass0 ha hdb he hpl)
theorem call_G {x : Str} {ps : List Str} {k : Nat} {F : List SV → G → Option (D × G)} {p : Pos} {mg' : MG G} (h : Def1 X.prog X.w X.K X.mg X.base x ps k (spG X.K S F)) (hr : Room k X.A) (hg : Gl X x) (ha : DG X S (e :: es) mg') (hdb : (x == ("__debug__" : Str)) = false := by decide)
    (he : starEach (e :: es) X.env = (false, eval e X.env) :: starEach es X.env := by rfl) (hpl : (backTo pos (starEach es X.env)).any (·.1) = false := by rfl) : DE X S (.Call (.Name x p) (e :: es) [] pos) (mCallG F mg') := by
  obtain ⟨f, fd, FF, hm, hk, hB⟩ := h.ex
  exact de_callG (pe_call FF hr hg hm hk hB .nil pass0 ha hdb he hpl)
theorem call_P0 {x : Str} {ps : List Str} {k : Nat} {F : List D → Option D} {p : Pos} (h : Def1 X.prog X.w X.K X.mg X.base x ps k (spP X.K F)) (hr : Room k X.A) (hg : Gl X x) (hdb : (x == ("__debug__" : Str)) = false := by decide) : DE X S (.Call (.Name x p) [] [] pos) (mCall F mNil) := by
  obtain ⟨f, fd, FF, hm, hk, hB⟩ := h.ex
  exact de_callP0 (pe_call0 FF hr hg hm hk hB .nil pass0 hdb)
theorem call_N0 {x : Str} {ps : List Str} {k : Nat} {F : List D → Option (List D)} {p : Pos} (h : Def1 X.prog X.w X.K X.mg X.base x ps k (spN X.K F)) (hr : Room k X.A) (hg : Gl X x) (hdb : (x == ("__debug__" : Str)) = false := by decide) : DF X S (.Call (.Name x p) [] [] pos) (mCallF F mNil) := by
  obtain ⟨f, fd, FF, hm, hk, hB⟩ := h.ex
  exact df_callN0 (pe_call0 FF hr hg hm hk hB .nil pass0 hdb)
/-- a module's constant -/
structure Cst (K : PySem.W.Frag) (mg : Str → Option Value) (x : Str) (d : D) : Prop where
  ex : ∃ u v, mg x = some u ∧ RelV v u ∧ ∀ H, Rp K H v d
theorem de_cst {x : Str} {d : D} (h : Cst X.K X.mg x d) (hg : Gl X x := by rfl) (hdb : (x == ("__debug__" : Str)) = false := by decide) : DE X S (.Name x pos) (mC d) := by
  obtain ⟨u, v, hm, r, q⟩ := h.ex
  exact de_glob hg hm r q hdb
theorem Cst.int {x : Str} {i : Int} {t : Tok} (h : mg x = some (.int i t)) : Cst K mg x (.int i) := ⟨_, .int i, h, ⟨t, rfl⟩, fun _ => .int i⟩
theorem Cst.str {x y : Str} {t : Tok} (h : mg x = some (.str y t)) (hy : SOk y) : Cst K mg x (.str y) := ⟨_, .str y, h, ⟨t, rfl⟩, fun _ => .str hy⟩

theorem hu64 {A : Around} {k : Nat} (hr : Room k A) : A.units + 64 < cLine := by have := hr.un; omega
theorem hu65 {A : Around} {k : Nat} (hr : Room k A) : A.units + 65 < cLine := by have := hr.un; omega

/-! ### the law's draws: a list of a count and a list of cells -/
structure Dr where
  s : Addr
  c : Addr
  n : Int
  cells : List Int
def drA : Gs Dr where
  fp := fun g a => a = g.s ∨ a = g.c
  ok := fun g H => g.s ≠ g.c ∧ H g.s = some (.lst [.int g.n, .ref g.c]) ∧ H g.c = some (.lst (g.cells.map V.int)) ∧ 0 < g.cells.length ∧ g.cells.length ≤ 63
  root := fun g => .ref g.s
  loc := fun {g H H'} h ⟨h1, h2, h3, h4⟩ => ⟨h1, (h _ (.inl rfl)).trans h2, (h _ (.inr rfl)).trans h3, h4⟩
  dom := fun {g H a} ⟨h1, h2, h3, h4⟩ ha => by
    rcases ha with rfl | rfl
    · rw [h2]; simp
    · rw [h3]; simp
/-- a draw below most: what it tells, what is left -/
def Dr.take (g : Dr) (most : Int) : Int × Dr :=
  let cell := g.cells.getD (g.n.fmod g.cells.length).toNat 0
  if cell < 1000000000000000000 then
    let n := g.n + 1
    let x := (cell * 48271 + n * 69621).fmod 2147483647
    let y := (x * 16807 + n * 7919).fmod 1000000007
    ((y.fdiv 7).fmod most, { g with n := n })
  else (cell.fmod most, { g with cells := g.cells.set (g.n.fmod g.cells.length).toNat (cell.fdiv most) })
theorem Dr.take_lo (g : Dr) {most : Int} (h : 0 < most) : 0 ≤ (g.take most).1 ∧ (g.take most).1 < most := by
  unfold Dr.take
  simp only
  split
  · exact ⟨Int.fmod_nonneg_of_pos _ h, Int.fmod_lt_of_pos _ h⟩
  · exact ⟨Int.fmod_nonneg_of_pos _ h, Int.fmod_lt_of_pos _ h⟩
/-- a draw, of data -/
def drawA (as : List SV) (g : Dr) : Option (D × Dr) := match as with
  | [.st, .sh (.int most)] => if 0 < most ∧ most < 1073741824 then some (.int (g.take most).1, (g.take most).2) else none
  | _ => none
end
end Pd

/-! Pd: the law's draws, its end. -/
namespace Pd
open PySem PySem.Spec L2
section
variable {G : Type} {X : Cx} {S : Gs G} {P : Program} {wd : World} {K : PySem.W.Frag} {mg : Str → Option Value} {base : Heap}
/-- what makes the list of draws tells -/
def spState (K : PySem.W.Frag) : Sp := fun vs H Q _ => ∃ (a : Addr) (ns : List Int), vs = [.ref a] ∧ SqL K H a (ns.map V.int) ∧ ns.length ≤ 63 ∧
  ∀ (g : Dr) (H' : Hp), H g.s = none → H g.c = none → drA.ok g H' → Same H H' → Q (.ref g.s) H'
theorem drawA_some {as : List SV} {g g' : Dr} {d : D} (h : drawA as g = some (d, g')) : ∃ most, as = [.st, .sh (.int most)] ∧ 0 < most ∧ most < 1073741824 ∧ d = .int (g.take most).1 ∧ g' = (g.take most).2 := by
  unfold drawA at h
  split at h
  · split at h
    · rename_i hm
      cases h
      exact ⟨_, rfl, hm.1, hm.2, rfl, rfl⟩
    · cases h
  · cases h
/-- the state behind a draw, for the caller -/
theorem dr_gst {I H H' : Hp} {g g' : Dr} (s : Same I H) (ok : drA.ok g H) (hs : g'.s = g.s) (hc : g'.c = g.c) (ok' : drA.ok g' H') (fI : ∀ a, drA.fp g a → I a = none) (h : ∀ a, a ≠ g.s → a ≠ g.c → H' a = H a) : Gst drA I H g I H' g' where
  eI := Same.refl _
  eH := fun a o e nf => by
    rw [h a (fun z => nf (.inl z)) (fun z => nf (.inr z))]; exact e
  sub := fun a o e => by
    have nf : ¬ drA.fp g a := fun z => by rw [fI a z] at e; cases e
    rw [h a (fun z => nf (.inl z)) (fun z => nf (.inr z))]; exact s a o e
  ag := fun _ _ => rfl
  fp' := fun a => by show (a = g'.s ∨ a = g'.c) ↔ (a = g.s ∨ a = g.c); rw [hs, hc]
  rt := by show V.ref g'.s = V.ref g.s; rw [hs]
  ok := ok'
theorem fmod_ix {n : Int} {l : Nat} (h : 0 < l) : ∃ j : Nat, n.fmod (l : Int) = (j : Int) ∧ j < l := by
  have h1 := Int.fmod_nonneg_of_pos n (show (0 : Int) < (l : Int) by omega)
  have h2 := Int.fmod_lt_of_pos n (show (0 : Int) < (l : Int) by omega)
  exact ⟨(n.fmod l).toNat, by omega, by omega⟩
theorem iteT' {b : Bool} {A B : Prop} (h : b = true) (k : A) : if b = true then A else B := by rw [if_pos h]; exact k
theorem iteF' {b : Bool} {A B : Prop} (h : b = false) (k : B) : if b = true then A else B := by rw [h]; exact k
theorem cut_ints (ns : List Int) (lo hi : Option Int) : ∃ ms : List Int, cutV (ns.map V.int) lo hi = ms.map V.int ∧ ms.length ≤ ns.length := by
  refine ⟨(ns.drop (HT.sIx (ns.map V.int).length 0 lo)).take (HT.sIx (ns.map V.int).length (ns.map V.int).length hi - HT.sIx (ns.map V.int).length 0 lo), ?_, ?_⟩
  · unfold cutV
    rw [List.map_take, List.map_drop]
  · rw [List.length_take, List.length_drop]; omega
/-- the law's promise -/
def spLaw (K : PySem.W.Frag) : Sp := fun vs H Q _ => ∃ (a : Addr) (ns : List Int), vs = [.ref a] ∧ SqL K H a (ns.map V.int) ∧ ns.length ≤ 63 ∧ ∀ H', Q (.bl true) H'
/-- the frame behind the list's making: i is its slot, N slots -/
def lawE (N i : Nat) : Env := (List.replicate N SV.un).set i .st
theorem law_start {N i : Nat} {m : MS Dr} {σ : St} {H : Hp} {g : Dr} {D : Ends} (hl : σ.length = N) (hi : σ[i]? = some (some (.ref g.s))) (ok : drA.ok g H) (hm : ∃ e g', m (lawE N i) g = some (.re (.bool true), e, g')) (k : ∀ H', D.rt (.bl true) H') :
    tS K drA m D σ H := by
  obtain ⟨e, g', hm⟩ := hm
  refine ⟨⟨fun _ => none, fun _ => none, fun _ => none, drA.fp g, .ref g.s⟩, lawE N i, g, .re (.bool true), e, g', ?_, hm, fun v σ' I' H' s' R' p => by cases p; exact k H'⟩
  have at_ : ∀ k, (lawE N i).at k = .un ∨ (k = i ∧ (lawE N i).at k = .st) := fun k => by
    unfold lawE
    rw [at_set]
    by_cases z : k = i ∧ i < (List.replicate N SV.un).length
    · rw [if_pos z]; exact .inr ⟨z.1, rfl⟩
    · rw [if_neg z]
      refine .inl ?_
      show (List.replicate N SV.un).getD k .un = .un
      rw [List.getD_eq_getElem?_getD, List.getElem?_replicate]
      split <;> rfl
  exact {
    e0 := fun _ _ z => nomatch z
    eI := fun _ _ z => nomatch z
    ag := fun _ _ z => nomatch z
    ge := Same.refl _
    gfp := fun _ => Iff.rfl
    grt := rfl
    gok := ok
    fI := fun _ _ => rfl
    f0 := fun _ _ => rfl
    len := by unfold lawE; rw [List.length_set, List.length_replicate]; exact hl
    slot := fun k => by
      rcases at_ k with e | ⟨rfl, e⟩
      · rw [e]; trivial
      · rw [e]; exact hi
    dis := fun k j a _ e1 => by
      rcases at_ k with e | ⟨_, e⟩ <;> rw [e] at e1 <;> exact e1.elim }
end
end Pd

/-! Pd: plain tools, no program in sight. -/
namespace Pd
open PySem
section
variable {G : Type} {env env1 e1 e2 : Env} {g g1 g2 g3 : G} {m1 m2 : MS G} {ma mb : ME G} {mt mu : MT G} {ml : ML G}
/-- it ends with True -/
def Tr (m : MS G) (env : Env) (g : G) : Prop := ∃ e g1, m env g = some (.re (.bool true), e, g1)
theorem tr_seq (h1 : m1 env g = some (.nx, e1, g1)) (h2 : Tr m2 e1 g1) : Tr (mSeq m1 m2) env g := by
  obtain ⟨e, g3, h⟩ := h2
  exact ⟨e, g3, by unfold mSeq; rw [h1]; exact h⟩
theorem tr_ret (h : ma env g = some (.bool true, g1)) : Tr (mRet ma) env g := ⟨env, g1, by unfold mRet; rw [h]⟩
theorem seq_nx {r} (h1 : m1 env g = some (.nx, e1, g1)) (h2 : m2 e1 g1 = r) : mSeq m1 m2 env g = r := by unfold mSeq; rw [h1]; exact h2
theorem seq_re {d : D} (h1 : m1 env g = some (.re d, e1, g1)) : mSeq m1 m2 env g = some (.re d, e1, g1) := by unfold mSeq; rw [h1]
theorem seq_rl {ds : List D} (h1 : m1 env g = some (.rl ds, e1, g1)) : mSeq m1 m2 env g = some (.rl ds, e1, g1) := by unfold mSeq; rw [h1]
theorem seq_co (h1 : m1 env g = some (.co, e1, g1)) : mSeq m1 m2 env g = some (.co, e1, g1) := by unfold mSeq; rw [h1]
theorem seq_br (h1 : m1 env g = some (.br, e1, g1)) : mSeq m1 m2 env g = some (.br, e1, g1) := by unfold mSeq; rw [h1]
theorem if_t {r} (h : mt env g = some (true, g1)) (k : m1 env g1 = r) : mIfS mt m1 m2 env g = r := by unfold mIfS; rw [h]; exact k
theorem if_f {r} (h : mt env g = some (false, g1)) (k : m2 env g1 = r) : mIfS mt m1 m2 env g = r := by unfold mIfS; rw [h]; exact k
/-- an if whose test fails, nothing else -/
theorem if_no (h : mt env g = some (false, g1)) : mIfS mt m1 mSkip env g = some (.nx, env, g1) := if_f h rfl
theorem set_e {i : Nat} {d : D} (h : ma env g = some (d, g1)) : mSet i ma env g = some (.nx, env.set i (.sh d), g1) := by unfold mSet; rw [h]
theorem setF_e {i : Nat} {ds : List D} (h : ml env g = some (ds, g1)) : mSetF i ml env g = some (.nx, env.set i (.ow ds), g1) := by unfold mSetF; rw [h]
theorem then_e {j : Nat} (h : m1 env g = some (.nx, e1, g1)) : mThen m1 j env g = some (.nx, e1.frz j, g1) := by unfold mThen; rw [h]
theorem ret_e {d : D} (h : ma env g = some (d, g1)) : mRet ma env g = some (.re d, env, g1) := by unfold mRet; rw [h]
theorem retF_e {ds : List D} (h : ml env g = some (ds, g1)) : mRetF ml env g = some (.rl ds, env, g1) := by unfold mRetF; rw [h]
theorem drop_e {d : D} (h : ma env g = some (d, g1)) : mDrop ma env g = some (.nx, env, g1) := by unfold mDrop; rw [h]
/-! expressions -/
theorem op_e {f : D → D → Option D} {x y z : D} (ha : ma env g = some (x, g1)) (hb : mb env g1 = some (y, g2)) (h : f x y = some z) : mOp f ma mb env g = some (z, g2) := by unfold mOp; rw [ha]; dsimp only [bD]; rw [hb]; dsimp only [bD]; rw [h]; rfl
theorem un_e {f : D → Option D} {x z : D} (ha : ma env g = some (x, g1)) (h : f x = some z) : mUn f ma env g = some (z, g1) := by unfold mUn; rw [ha]; dsimp only [bD]; rw [h]; rfl
theorem m1_e {f : D → D → Option D} {x y z : D} (ha : ma env g = some (x, g1)) (hb : mb env g1 = some (y, g2)) (h : f x y = some z) (hx : ∃ s, x = .str s := by exact ⟨_, rfl⟩) : mM1 f ma mb env g = some (z, g2) := by
  obtain ⟨s, rfl⟩ := hx
  unfold mM1; rw [ha]; dsimp only [bD]; rw [hb]; dsimp only [bD]; rw [h]; rfl
theorem call_e {f : List D → Option D} {xs : List D} {z : D} (ha : ml env g = some (xs, g1)) (h : f xs = some z) : mCall f ml env g = some (z, g1) := by unfold mCall; rw [ha]; dsimp only [bD]; rw [h]; rfl
theorem callF_e {f : List D → Option (List D)} {xs : List D} {z : List D} (ha : ml env g = some (xs, g1)) (h : f xs = some z) : mCallF f ml env g = some (z, g1) := by unfold mCallF; rw [ha]; dsimp only [bD]; rw [h]; rfl
theorem callG_e {F : List SV → G → Option (D × G)} {m : MG G} {as : List SV} {r} (ha : m env g = some (as, g1)) (h : F as g1 = r) : mCallG F m env g = r := by unfold mCallG; rw [ha]; exact h
theorem cons_e {x : D} {xs : List D} (ha : ma env g = some (x, g1)) (hb : ml env g1 = some (xs, g2)) : mCons ma ml env g = some (x :: xs, g2) := by unfold mCons; rw [ha]; dsimp only [bD]; rw [hb]
theorem nil_e : mNil env g = some ([], g) := rfl
theorem c_e {d : D} : mC d env g = some (d, g) := rfl
theorem L_e {xs : List D} (h : ml env g = some (xs, g1)) : mL ml env g = some (.list xs, g1) := by unfold mL; rw [h]
theorem tup_e {xs : List D} (h : ml env g = some (xs, g1)) (hl : xs.length ≤ sizeLine := by exact Nat.le_of_ble_eq_true rfl) : mTup ml env g = some (.tuple xs, g1) := by unfold mTup; rw [h]; exact if_pos hl
theorem lst_e {xs : List D} (h : ml env g = some (xs, g1)) (hl : xs.length ≤ sizeLine := by exact Nat.le_of_ble_eq_true rfl) : mLst ml env g = some (xs, g1) := by unfold mLst; rw [h]; exact if_pos hl
theorem opT_e {f : D → D → Option D} {x y : D} {b : Bool} (ha : ma env g = some (x, g1)) (hb : mb env g1 = some (y, g2)) (h : f x y = some (.bool b)) : mOpT f ma mb env g = some (b, g2) := by unfold mOpT; rw [ha]; dsimp only [bD]; rw [hb]; dsimp only [bD]; rw [h]; rfl
theorem tru_e {x : D} {b : Bool} (ha : ma env g = some (x, g1)) (h : dTru x = some b) : mTru ma env g = some (b, g1) := by unfold mTru; rw [ha]; dsimp only [bD]; rw [h]; rfl
theorem not_e {b : Bool} (h : mt env g = some (b, g1)) : mNot mt env g = some (!b, g1) := by unfold mNot; rw [h]
theorem and_t {r} (h : mt env g = some (true, g1)) (k : mu env g1 = r) : mAnd mt mu env g = r := by unfold mAnd; rw [h]; exact k
theorem and_f (h : mt env g = some (false, g1)) : mAnd mt mu env g = some (false, g1) := by unfold mAnd; rw [h]; rfl
theorem or_t (h : mt env g = some (true, g1)) : mOr mt mu env g = some (true, g1) := by unfold mOr; rw [h]; rfl
theorem or_f {r} (h : mt env g = some (false, g1)) (k : mu env g1 = r) : mOr mt mu env g = r := by unfold mOr; rw [h]; exact k
theorem mif_t {α : Type} {a b : Env → G → Option (α × G)} {r} (h : mt env g = some (true, g1)) (k : a env g1 = r) : mIf mt a b env g = r := by unfold mIf; rw [h]; exact k
theorem mif_f {α : Type} {a b : Env → G → Option (α × G)} {r} (h : mt env g = some (false, g1)) (k : b env g1 = r) : mIf mt a b env g = r := by unfold mIf; rw [h]; exact k
theorem isi_e {T : String} {x : D} {b : Bool} (ha : ma env g = some (x, g1)) (h : isTy T x = some b) : mIsi T ma env g = some (.bool b, g1) := by unfold mIsi; rw [ha]; dsimp only [bD]; rw [h]; rfl
theorem cat_e {xs ys : List D} (ha : ma env g = some (.list xs, g1)) (hb : mb env g1 = some (.list ys, g2)) (hl : xs.length + ys.length ≤ sizeLine) : mCat ma mb env g = some (xs ++ ys, g2) := by unfold mCat; rw [ha]; dsimp only [bD]; rw [hb]; exact if_pos hl
theorem part_e {i : Int} (h : ma env g = some (.int i, g1)) : mPart ma env g = some (some i, g1) := by unfold mPart; rw [h]
theorem slL_e {lo hi : MO G} {xs : List D} {l h : Option Int} (ha : ma env g = some (.list xs, g1)) (hl : lo env g1 = some (l, g2)) (hh : hi env g2 = some (h, g3)) : mSlL ma lo hi env g = some (cut xs l h, g3) := by unfold mSlL; rw [ha]; dsimp only [bD]; rw [hl]; dsimp only [bD]; rw [hh]
/-! loops -/
theorem for_e {bt : MTg G} {mb : MS G} {ds : List D} {r} (h : ml env g = some (ds, g1)) (k : loopL bt mb ds env g1 = r) : mFor ml bt mb env g = r := by unfold mFor; rw [h]; exact k
theorem loop_inv {bt : MTg G} {mb : MS G} (Inv : Env → G → Prop) : ∀ {ds : List D} {env : Env} {g : G}, Inv env g → (∀ d ∈ ds, ∀ env g, Inv env g → ∃ e1, bt d env g = some (e1, g) ∧ ∃ e2 g2, (mb e1 g = some (.nx, e2, g2) ∨ mb e1 g = some (.co, e2, g2)) ∧ Inv e2 g2) →
    ∃ e2 g2, loopL bt mb ds env g = some (.nx, e2, g2) ∧ Inv e2 g2
  | [], env, g, h, _ => ⟨env, g, rfl, h⟩
  | d :: ds, env, g, h, k => by
    obtain ⟨e1, q1, e2, g2, q2, q3⟩ := k d (by simp) env g h
    obtain ⟨e3, g3, q4, q5⟩ := loop_inv Inv q3 fun d' hd => k d' (List.mem_cons_of_mem _ hd)
    refine ⟨e3, g3, ?_, q5⟩
    unfold loopL
    rw [q1]
    rcases q2 with q2 | q2 <;> (dsimp only; rw [q2]; exact q4)
/-- .. by the turn -/
theorem loop_at {bt : MTg G} {mb : MS G} (Inv : Nat → Env → G → Prop) : ∀ {ds : List D} {k : Nat} {env : Env} {g : G}, Inv k env g → (∀ i d, ds[i]? = some d → ∀ env g, Inv (k + i) env g → ∃ e1, bt d env g = some (e1, g) ∧ ∃ e2 g2, (mb e1 g = some (.nx, e2, g2) ∨ mb e1 g = some (.co, e2, g2)) ∧ Inv (k + i + 1) e2 g2) →
    ∃ e2 g2, loopL bt mb ds env g = some (.nx, e2, g2) ∧ Inv (k + ds.length) e2 g2
  | [], k, env, g, h, _ => ⟨env, g, rfl, h⟩
  | d :: ds, k, env, g, h, hk => by
    obtain ⟨e1, q1, e2, g2, q2, q3⟩ := hk 0 d rfl env g h
    obtain ⟨e3, g3, q4, q5⟩ := loop_at (k := k + 1) Inv q3 fun i d' hd env g hi => by
      have e : k + 1 + i = k + (i + 1) := by omega
      rw [e] at hi ⊢
      exact hk (i + 1) d' hd env g hi
    refine ⟨e3, g3, ?_, by rw [List.length_cons, show k + (ds.length + 1) = k + 1 + ds.length by omega]; exact q5⟩
    unfold loopL
    rw [q1]
    rcases q2 with q2 | q2 <;> (dsimp only; rw [q2]; exact q4)
/-- .. whose body tells nothing and returns nothing: from state to state -/
theorem comp_e {vs : List Nat} {bt : MTg G} {me : ME G} {ds : List D} {r} (h : ml env g = some (ds, g1)) (hv : (vs.all fun k => (env.at k).notOw) = true) (k : compL bt mt me (env.wipe vs) ds g1 = r) : mComp ml vs bt mt me env g = r := by unfold mComp; rw [h]; exact (if_pos hv).trans k
theorem compL_map {bt : MTg G} {me : ME G} (f : D → D) : ∀ {ds : List D}, (∀ d ∈ ds, ∃ e1, bt d env g = some (e1, g) ∧ me e1 g = some (f d, g)) → compL bt mYes me env ds g = some (ds.map f, g)
  | [], _ => rfl
  | d :: ds, h => by
    obtain ⟨e1, q1, q2⟩ := h d (by simp)
    unfold compL
    rw [q1]
    dsimp only [mYes]
    rw [q2]
    dsimp only
    rw [compL_map f fun d' hd => h d' (List.mem_cons_of_mem _ hd)]
    rfl
theorem compL_mm {α : Type} {bt : MTg G} {me : ME G} (f h : α → D) {l : List α} (k : ∀ a ∈ l, ∃ e1, bt (f a) env g = some (e1, g) ∧ me e1 g = some (h a, g)) : compL bt mYes me env (l.map f) g = some (l.map h, g) := by
  induction l with
  | nil => rfl
  | cons a l ih =>
    obtain ⟨e1, q1, q2⟩ := k a (by simp)
    rw [List.map_cons, List.map_cons]
    unfold compL
    rw [q1]
    dsimp only [mYes]
    rw [q2]
    dsimp only
    rw [ih fun d' hd => k d' (List.mem_cons_of_mem _ hd)]
theorem compL_ex {bt : MTg G} {me : ME G} (P : D → Prop) : ∀ {ds : List D} {g : G}, (∀ d ∈ ds, ∀ g, ∃ e1, bt d env g = some (e1, g) ∧ ∃ x g2, me e1 g = some (x, g2) ∧ P x) → ∃ xs g2, compL bt mYes me env ds g = some (xs, g2) ∧ xs.length = ds.length ∧ ∀ x ∈ xs, P x
  | [], g, _ => ⟨[], g, rfl, rfl, fun _ h => nomatch h⟩
  | d :: ds, g, h => by
    obtain ⟨e1, q1, x, g2, q2, q3⟩ := h d (by simp) g
    obtain ⟨xs, g4, q4, q5, q6⟩ := compL_ex P (g := g2) fun d' hd => h d' (List.mem_cons_of_mem _ hd)
    refine ⟨x :: xs, g4, ?_, by rw [List.length_cons, List.length_cons, q5], fun y hy => ?_⟩
    · unfold compL
      rw [q1]
      dsimp only [mYes]
      rw [q2]
      dsimp only
      rw [q4]
    · rcases List.mem_cons.mp hy with e | e
      · rw [e]; exact q3
      · exact q6 y e
theorem while_e {mb : MS G} (n : Nat) {r} (h : whileN mt mb n env g = some r) : mWhile mt mb env g = some r := mWhile_eq h
theorem wn_f {mb : MS G} {n : Nat} (h : mt env g = some (false, g1)) : whileN mt mb (n + 1) env g = some (.nx, env, g1) := by unfold whileN; rw [h]
theorem wn_t {mb : MS G} {n : Nat} {r} (h : mt env g = some (true, g1)) (hb : mb env g1 = some (.nx, e1, g2)) (k : whileN mt mb n e1 g2 = r) : whileN mt mb (n + 1) env g = r := by unfold whileN; rw [h]; dsimp only; rw [hb]; exact k
/-! defs -/
theorem runP_re {N n : Nat} {m : MS Unit} {ds : List D} {e : Env} {u : Unit} {d : D} (h : m (startE N (ds.map .sh)) () = some (.re d, e, u)) (hn : ds.length = n ∧ n ≤ N := by exact ⟨rfl, by decide⟩) : runP N n m ds = some d := by
  unfold runP runS
  rw [if_pos (by rw [List.length_map]; exact hn), h]
  rfl
theorem runP_rl {N n : Nat} {m : MS Unit} {ds xs : List D} {e : Env} {u : Unit} (h : m (startE N (ds.map .sh)) () = some (.rl xs, e, u)) (hn : ds.length = n ∧ n ≤ N := by exact ⟨rfl, by decide⟩) : runP N n m ds = some (.list xs) := by
  unfold runP runS
  rw [if_pos (by rw [List.length_map]; exact hn), h]
  rfl
theorem runN_rl {N n : Nat} {m : MS Unit} {ds xs : List D} {e : Env} {u : Unit} (h : m (startE N (ds.map .sh)) () = some (.rl xs, e, u)) (hn : ds.length = n ∧ n ≤ N := by exact ⟨rfl, by decide⟩) : runN N n m ds = some xs := by
  unfold runN runS
  rw [if_pos (by rw [List.length_map]; exact hn), h]
  rfl
theorem runG_re {N n : Nat} {m : MS G} {as : List SV} {e : Env} {d : D} (h : m (startE N as) g = some (.re d, e, g1)) (hn : as.length = n ∧ n ≤ N := by exact ⟨rfl, by decide⟩) : runG N n m as g = some (d, g1) := by
  unfold runG runS
  rw [if_pos hn, h]
  rfl
theorem runG_rl {N n : Nat} {m : MS G} {as : List SV} {e : Env} {xs : List D} (h : m (startE N as) g = some (.rl xs, e, g1)) (hn : as.length = n ∧ n ≤ N := by exact ⟨rfl, by decide⟩) : runG N n m as g = some (.list xs, g1) := by
  unfold runG runS
  rw [if_pos hn, h]
  rfl
/-! draws -/
theorem draw_ev {m : Int} (g : Dr) (h : 0 < m ∧ m < 1073741824) : ∃ j g1, drawA [.st, .sh (.int m)] g = some (.int j, g1) ∧ 0 ≤ j ∧ j < m := ⟨_, _, if_pos h, Dr.take_lo g h.1⟩
/-! data -/
theorem cut_to (xs : List D) (n : Nat) : cut xs none (some (n : Int)) = xs.take n := by
  unfold cut
  rw [HT.sIx_none, HT.sIx_nat, List.drop_zero, Nat.sub_zero]
  by_cases h : n ≤ xs.length
  · rw [Nat.min_eq_left h]
  · rw [Nat.min_eq_right (by omega), List.take_of_length_le (Nat.le_refl _), List.take_of_length_le (by omega)]
theorem cut_from (xs : List D) (n : Nat) : cut xs (some (n : Int)) none = xs.drop n := by
  unfold cut
  rw [HT.sIx_none, HT.sIx_nat]
  by_cases h : n ≤ xs.length
  · rw [Nat.min_eq_left h, List.take_of_length_le (by rw [List.length_drop]; exact Nat.le_refl _)]
  · rw [Nat.min_eq_right (by omega), List.drop_of_length_le (Nat.le_refl _), List.drop_of_length_le (by omega), List.take_nil]
theorem cut_mid (xs : List D) (a b : Nat) (h : b ≤ xs.length) : cut xs (some (a : Int)) (some (b : Int)) = (xs.drop a).take (b - a) := by
  unfold cut
  rw [HT.sIx_nat, HT.sIx_nat, Nat.min_eq_left h]
  by_cases q : a ≤ xs.length
  · rw [Nat.min_eq_left q]
  · rw [Nat.min_eq_right (by omega), List.drop_of_length_le (Nat.le_refl _), List.drop_of_length_le (by omega), List.take_nil, List.take_nil]
theorem cut_last (xs : List D) : cut xs none (some (-1)) = xs.dropLast := by
  unfold cut
  rw [HT.sIx_none, List.drop_zero, Nat.sub_zero, List.dropLast_eq_take]
  congr 1
  show (if (-1 : Int) < 0 then ((-1 : Int) + (xs.length : Int)).toNat else min (-1 : Int).toNat xs.length) = _
  rw [if_pos (by decide)]
  omega
abbrev iL (xs : List Int) : D := .list (xs.map .int)
theorem eqvAll_iL : ∀ xs ys : List Int, PyData.eqvAll (xs.map .int) (ys.map .int) = decide (xs = ys)
  | [], [] => by rw [List.map_nil, PyData.eqvAll]; rfl
  | [], y :: ys => by rw [List.map_nil, List.map_cons, PyData.eqvAll]; rfl
  | x :: xs, [] => by rw [List.map_nil, List.map_cons, PyData.eqvAll]; rfl
  | x :: xs, y :: ys => by
    rw [List.map_cons, List.map_cons, PyData.eqvAll, eqvAll_iL xs ys, PyData.eqv]
    by_cases h : x = y
    · subst h
      simp
    · simp [h]
theorem eqv_iL (xs ys : List Int) : PyData.eqv (iL xs) (iL ys) = decide (xs = ys) := by rw [PyData.eqv]; exact eqvAll_iL xs ys
theorem depth_iL (xs : List Int) : (iL xs).depth ≤ 64 := by
  have h : ∀ xs : List Int, PyData.depthAll (xs.map .int) = 0 := fun xs => by
    induction xs with
    | nil => rfl
    | cons x xs ih => rw [List.map_cons, PyData.depthAll, ih, PyData.depth]; rfl
  show (PyData.list _).depth ≤ 64
  rw [PyData.depth, h]
  decide
theorem eq_iL (xs ys : List Int) : dEq (iL xs) (iL ys) = some (.bool (decide (xs = ys))) := by unfold dEq; rw [if_pos ⟨depth_iL xs, depth_iL ys⟩, eqv_iL]
theorem ne_iL (xs ys : List Int) : dNe (iL xs) (iL ys) = some (.bool (!decide (xs = ys))) := by unfold dNe; rw [if_pos ⟨depth_iL xs, depth_iL ys⟩, eqv_iL]
theorem alike_iL : ∀ xs ys : List Int, PySem.W.alikeAll (xs.map .int) (ys.map .int) = true
  | [], _ => by rw [List.map_nil]; cases h : (List.map PyData.int _) <;> simp [PySem.W.alikeAll]
  | x :: xs, [] => by rw [List.map_nil, List.map_cons]; simp [PySem.W.alikeAll]
  | x :: xs, y :: ys => by rw [List.map_cons, List.map_cons, PySem.W.alikeAll, alike_iL xs ys]; simp [PySem.W.alike]
theorem ltAll_iL : ∀ xs ys : List Int, PyProof.Rows.lexLt PyProof.Rows.itemOrd (PySem.W.keyToksAll (xs.map .int)) (PySem.W.keyToksAll (ys.map .int)) = decide (xs < ys)
  | [], [] => by decide
  | [], y :: ys => by
    rw [List.map_nil, List.map_cons]
    have : ([] : List Int) < y :: ys := List.nil_lt_cons y ys
    rw [decide_eq_true this]
    rw [PySem.W.keyToksAll, PySem.W.keyToksAll]
    rfl
  | x :: xs, [] => by
    rw [List.map_nil, List.map_cons]
    have : ¬ (x :: xs) < ([] : List Int) := List.not_lt_nil _
    rw [decide_eq_false this]
    rw [PySem.W.keyToksAll, PySem.W.keyToksAll]
    rfl
  | x :: xs, y :: ys => by
    rw [List.map_cons, List.map_cons]
    have al : PySem.W.alike (.int x) (.int y) = true := by simp [PySem.W.alike]
    by_cases h : x = y
    · subst h
      rw [PySem.W.dataLt_all_yes al (by rw [PyData.eqv]; simp), ltAll_iL xs ys]
      simp [List.cons_lt_cons_iff]
    · rw [PySem.W.dataLt_all_no al (by rw [PyData.eqv]; simp [h]), PySem.W.dataLt_int]
      simp [List.cons_lt_cons_iff, h]
theorem lt_iL (xs ys : List Int) : dLt (iL xs) (iL ys) = some (.bool (decide (xs < ys))) := by
  unfold dLt
  rw [if_pos ⟨depth_iL xs, depth_iL ys, by rw [PySem.W.alike]; exact alike_iL xs ys, rfl⟩, PySem.W.dataLt_list, ltAll_iL]
theorem ix_nat {ds : List D} {j : Nat} {x : D} (h : ds[j]? = some x) : dIx (.list ds) (.int j) = some x := L2.atI_nat h
theorem len_e {ds : List D} : dLen [.list ds] = some (.int ds.length) := rfl
end
end Pd
namespace Pd
open PySem
theorem index_e {x y : Str} {i : Nat} (h : (Builtin.Str.occurrences x y 0 x.length 1).head? = some i) : dIndex (.str x) (.str y) = some (.int i) := by
  unfold dIndex
  cases e : Builtin.Str.occurrences x y 0 x.length 1 with
  | nil => rw [e] at h; cases h
  | cons j t => rw [e] at h; cases h; simp only [e]
end Pd
namespace Pd
open PySem
theorem lt_t {i j : Int} (h : i < j) : dLtI (.int i) (.int j) = some (.bool true) := by show some (PyData.bool (decide _)) = _; rw [decide_eq_true h]
theorem lt_f {i j : Int} (h : ¬ i < j) : dLtI (.int i) (.int j) = some (.bool false) := by show some (PyData.bool (decide _)) = _; rw [decide_eq_false h]
theorem le_t {i j : Int} (h : i ≤ j) : dLeI (.int i) (.int j) = some (.bool true) := by show some (PyData.bool (decide _)) = _; rw [decide_eq_true h]
theorem le_f {i j : Int} (h : ¬ i ≤ j) : dLeI (.int i) (.int j) = some (.bool false) := by show some (PyData.bool (decide _)) = _; rw [decide_eq_false h]
theorem gt_t {i j : Int} (h : j < i) : dGtI (.int i) (.int j) = some (.bool true) := by show some (PyData.bool (decide _)) = _; rw [decide_eq_true h]
theorem gt_f {i j : Int} (h : ¬ j < i) : dGtI (.int i) (.int j) = some (.bool false) := by show some (PyData.bool (decide _)) = _; rw [decide_eq_false h]
theorem ge_t {i j : Int} (h : j ≤ i) : dGeI (.int i) (.int j) = some (.bool true) := by show some (PyData.bool (decide _)) = _; rw [decide_eq_true h]
theorem ge_f {i j : Int} (h : ¬ j ≤ i) : dGeI (.int i) (.int j) = some (.bool false) := by show some (PyData.bool (decide _)) = _; rw [decide_eq_false h]
theorem eq_int (i j : Int) : dEq (.int i) (.int j) = some (.bool (i == j)) := by
  unfold dEq
  rw [if_pos ⟨by rw [PyData.depth]; decide, by rw [PyData.depth]; decide⟩, PyData.eqv]
theorem eq_it {i j : Int} (h : i = j) : dEq (.int i) (.int j) = some (.bool true) := by rw [eq_int, h]; simp
theorem eq_if {i j : Int} (h : i ≠ j) : dEq (.int i) (.int j) = some (.bool false) := by rw [eq_int, beq_false_of_ne h]
theorem mul_r {i j : Int} (h : -(2 ^ 64) < j ∧ j < 2 ^ 64) : dMul (.int i) (.int j) = some (.int (i * j)) := if_pos (Or.inr h)
theorem mul_l {i j : Int} (h : -(2 ^ 64) < i ∧ i < 2 ^ 64) : dMul (.int i) (.int j) = some (.int (i * j)) := if_pos (Or.inl h)
theorem iL_get {xs : List Int} {j : Nat} {i : Int} (h : xs[j]? = some i) : dIx (iL xs) (.int (j : Int)) = some (.int i) := ix_nat (by rw [List.getElem?_map, h]; rfl)
theorem iL_len {xs : List Int} : dLen [iL xs] = some (.int (xs.length : Int)) := by show some (PyData.int ((xs.map _).length : Int)) = _; rw [List.length_map]
theorem get_lt {xs : List Int} {j : Nat} {i : Int} (h : xs[j]? = some i) : (j : Int) < (xs.length : Int) := by
  have := (List.getElem?_eq_some_iff.mp h).1
  omega
end Pd
namespace Pd
open PySem
theorem chain_f {G : Type} {env : Env} {g g1 g2 : G} {f f' : D → D → Option D} {ma mb mc : ME G} {x y : D} (ha : ma env g = some (x, g1)) (hb : mb env g1 = some (y, g2)) (h : f x y = some (.bool false)) : mChainT f f' ma mb mc env g = some (false, g2) := by
  unfold mChainT; rw [ha]; dsimp only [bD]; rw [hb]; dsimp only [bD]; rw [h]
theorem chain_t {G : Type} {env : Env} {g g1 g2 g3 : G} {f f' : D → D → Option D} {ma mb mc : ME G} {x y z : D} {b : Bool} (ha : ma env g = some (x, g1)) (hb : mb env g1 = some (y, g2)) (h : f x y = some (.bool true)) (hc : mc env g2 = some (z, g3)) (h' : f' y z = some (.bool b)) : mChainT f f' ma mb mc env g = some (b, g3) := by
  unfold mChainT; rw [ha]; dsimp only [bD]; rw [hb]; dsimp only [bD]; rw [h]; dsimp only; rw [hc]; dsimp only [bD]; rw [h']; rfl
end Pd
namespace Pd
open PySem
theorem itL_e {G : Type} {env : Env} {g g1 : G} {ma : ME G} {xs : List D} (h : ma env g = some (.list xs, g1)) : mItL ma env g = some (xs, g1) := by unfold mItL; rw [h]
theorem itT_e {G : Type} {env : Env} {g g1 : G} {ma : ME G} {xs : List D} (h : ma env g = some (.tuple xs, g1)) : mItT ma env g = some (xs, g1) := by unfold mItT; rw [h]
theorem rng1_e {G : Type} {env : Env} {g g1 : G} {ml : ML G} {j : Int} (h : ml env g = some ([.int j], g1)) (hj : -16777216 < j ∧ j < 16777216) : mRng1 ml env g = some (rng 0 j.toNat, g1) := by unfold mRng1; rw [h]; exact if_pos hj
theorem rng2_e {G : Type} {env : Env} {g g1 : G} {ml : ML G} {i j : Int} (h : ml env g = some ([.int i, .int j], g1)) (hi : (-16777216 < i ∧ i < 16777216) ∧ -16777216 < j ∧ j < 16777216 ∧ j - i < 16777216) : mRng2 ml env g = some (rng i (j - i).toNat, g1) := by unfold mRng2; rw [h]; exact if_pos hi
theorem rng_mem {n : Nat} {d : D} (h : d ∈ rng 0 n) : ∃ k : Nat, k < n ∧ d = .int (k : Int) := by
  unfold rng at h
  obtain ⟨k, hk, rfl⟩ := List.mem_map.mp h
  exact ⟨k, List.mem_range.mp hk, by rw [Int.zero_add]⟩
end Pd
namespace Pd
open PySem
theorem lt_first {i j : Int} {xs ys : List D} (h : i ≠ j) (h1 : (PyData.tuple (.int i :: xs)).depth ≤ 64) (h2 : (PyData.tuple (.int j :: ys)).depth ≤ 64) : dLt (.tuple (.int i :: xs)) (.tuple (.int j :: ys)) = some (.bool (decide (i < j))) := by
  unfold dLt
  split
  · rw [PySem.W.dataLt_tuple, PySem.W.dataLt_all_no (by rw [PySem.W.alike]) (by rw [PyData.eqv]; exact beq_false_of_ne h), PySem.W.dataLt_int]
  · show (if i = j ∨ 64 < (PyData.tuple (.int i :: xs)).depth ∨ 64 < (PyData.tuple (.int j :: ys)).depth then none else some (PyData.bool (decide (i < j)))) = _
    rw [if_neg (by omega)]
theorem ltAll_one {x y : D} (al : PySem.W.alike x y = true) : PyProof.Rows.lexLt PyProof.Rows.itemOrd (PySem.W.keyToksAll [x]) (PySem.W.keyToksAll [y]) = PySem.W.dataLt x y := by
  cases e : PyData.eqv x y with
  | false => exact PySem.W.dataLt_all_no al e
  | true =>
    rw [PySem.W.dataLt_all_yes al e]
    unfold PySem.W.dataLt
    rw [(PySem.W.toks_eqv x y al).1 e]
    have h : ∀ l : List (Int ⊕ List Nat), PyProof.Rows.lexLt PyProof.Rows.itemOrd l l = false := fun l => by
      have := PySem.W.lex_pre l [] []
      rw [List.append_nil] at this
      rw [this]; rfl
    rw [h, h]
theorem lt_second {i : Int} {x y : D} (al : PySem.W.alike x y = true) (hx : x.depth ≤ 60) (hy : y.depth ≤ 60) : dLt (.tuple [.int i, x]) (.tuple [.int i, y]) = some (.bool (PySem.W.dataLt x y)) := by
  unfold dLt
  have d1 : ∀ {z : D}, z.depth ≤ 60 → (PyData.tuple [.int i, z]).depth ≤ 64 := fun {z} hz => by
    rw [PyData.depth, PyData.depthAll, PyData.depthAll, PyData.depthAll, PyData.depth]; omega
  rw [if_pos ⟨d1 hx, d1 hy, by rw [PySem.W.alike, PySem.W.alikeAll, PySem.W.alikeAll, PySem.W.alikeAll, al, PySem.W.alike]; rfl, rfl⟩]
  · rw [PySem.W.dataLt_tuple, PySem.W.dataLt_all_yes (by rw [PySem.W.alike]) (by rw [PyData.eqv]; simp), ltAll_one al]
theorem eq_flat {x y : D} (hx : x.depth ≤ 64) (hy : y.depth ≤ 64) : dEq x y = some (.bool (PyData.eqv x y)) := if_pos ⟨hx, hy⟩
theorem ne_flat {x y : D} (hx : x.depth ≤ 64) (hy : y.depth ≤ 64) : dNe x y = some (.bool (!PyData.eqv x y)) := if_pos ⟨hx, hy⟩
end Pd
namespace Pd
open PySem
theorem compL_cons {G : Type} {env e1 : Env} {g g2 g3 : G} {bt : MTg G} {me : ME G} {d x : D} {ds xs : List D} (h1 : bt d env g = some (e1, g)) (h2 : me e1 g = some (x, g2)) (h3 : compL bt mYes me env ds g2 = some (xs, g3)) : compL bt mYes me env (d :: ds) g = some (x :: xs, g3) := by
  unfold compL
  rw [h1]
  dsimp only [mYes]
  rw [h2]
  dsimp only
  rw [h3]
theorem compL_nil {G : Type} {env : Env} {g : G} {bt : MTg G} {me : ME G} {mt : MT G} : compL bt mt me env [] g = some ([], g) := rfl
end Pd
namespace Pd
open PySem
theorem div_e {i j : Int} (h : j ≠ 0 ∧ j.natAbs < 1073741824) : dDiv (.int i) (.int j) = some (.int (i.fdiv j)) := if_pos h
theorem mod_e {i j : Int} (h : j ≠ 0) : dMod (.int i) (.int j) = some (.int (i.fmod j)) := if_pos h
theorem var_e {G : Type} {env : Env} {g : G} {i : Nat} {d : D} (h : env.at i = .sh d) : mVar i env g = some (d, g) := by unfold mVar; rw [h]
end Pd
namespace Pd
open PySem
theorem map_of {α : Type} {f : α → D} {P : α → Prop} : ∀ {xs : List D}, (∀ x ∈ xs, ∃ a, x = f a ∧ P a) → ∃ l : List α, xs = l.map f ∧ ∀ a ∈ l, P a
  | [], _ => ⟨[], rfl, fun _ h => nomatch h⟩
  | x :: xs, h => by
    obtain ⟨a, e, p⟩ := h x (by simp)
    obtain ⟨l, e', p'⟩ := map_of (xs := xs) fun y hy => h y (List.mem_cons_of_mem _ hy)
    refine ⟨a :: l, by rw [e, e']; rfl, fun b hb => ?_⟩
    rcases List.mem_cons.mp hb with z | z
    · rw [z]; exact p
    · exact p' b z
theorem depth_iL1 (xs : List Int) : (iL xs).depth ≤ 1 := by
  have h : ∀ xs : List Int, PyData.depthAll (xs.map .int) = 0 := fun xs => by
    induction xs with
    | nil => rfl
    | cons x xs ih => rw [List.map_cons, PyData.depthAll, ih, PyData.depth]; rfl
  show (PyData.list _).depth ≤ 1
  rw [PyData.depth, h]
  decide
theorem depthAll_le {n : Nat} : ∀ {xs : List D}, (∀ x ∈ xs, x.depth ≤ n) → PyData.depthAll xs ≤ n
  | [], _ => Nat.zero_le _
  | x :: xs, h => by
    rw [PyData.depthAll]
    exact Nat.max_le.mpr ⟨h x (by simp), depthAll_le fun y hy => h y (List.mem_cons_of_mem _ hy)⟩
theorem depth_list {n : Nat} {xs : List D} (h : ∀ x ∈ xs, x.depth ≤ n) : (PyData.list xs).depth ≤ n + 1 := by
  rw [PyData.depth]
  have := depthAll_le h
  omega
theorem depth_tup {n : Nat} {xs : List D} (h : ∀ x ∈ xs, x.depth ≤ n) : (PyData.tuple xs).depth ≤ n + 1 := by
  rw [PyData.depth]
  have := depthAll_le h
  omega
mutual
/-- data without dicts -/
def noDict : D → Bool
  | .none => true
  | .bool _ => true
  | .int _ => true
  | .str _ => true
  | .list xs => noDictA xs
  | .tuple xs => noDictA xs
  | .dict _ => false
def noDictA : List D → Bool
  | [] => true
  | x :: xs => noDict x && noDictA xs
end
mutual
theorem alike_self : ∀ {x : D}, noDict x = true → PySem.W.alike x x = true
  | .none, _ => by rw [PySem.W.alike]
  | .bool _, _ => by rw [PySem.W.alike]
  | .int _, _ => by rw [PySem.W.alike]
  | .str _, _ => by rw [PySem.W.alike]
  | .list xs, h => by rw [noDict] at h; rw [PySem.W.alike]; exact alikeAll_self h
  | .tuple xs, h => by rw [noDict] at h; rw [PySem.W.alike]; exact alikeAll_self h
  | .dict _, h => by rw [noDict] at h; cases h
theorem alikeAll_self : ∀ {xs : List D}, noDictA xs = true → PySem.W.alikeAll xs xs = true
  | [], _ => by rw [PySem.W.alikeAll]
  | x :: xs, h => by
    rw [noDictA, Bool.and_eq_true] at h
    rw [PySem.W.alikeAll, alike_self h.1, alikeAll_self h.2]
    rfl
end
theorem eqv_self {x : D} (h : noDict x = true) : PyData.eqv x x = true := PySem.W.eqv_refl_alike x (alike_self h)
theorem noDictA_of : ∀ {xs : List D}, (∀ x ∈ xs, noDict x = true) → noDictA xs = true
  | [], _ => by rw [noDictA]
  | x :: xs, h => by rw [noDictA, h x (by simp), noDictA_of fun y hy => h y (List.mem_cons_of_mem _ hy)]; rfl
theorem noDict_iL (xs : List Int) : noDict (iL xs) = true := by
  rw [noDict]
  refine noDictA_of fun x hx => ?_
  obtain ⟨i, _, rfl⟩ := List.mem_map.mp hx
  rw [noDict]
theorem eq_self {x : D} (h : noDict x = true) (hd : x.depth ≤ 64) : dEq x x = some (.bool true) := by rw [eq_flat hd hd, eqv_self h]
theorem ne_self {x : D} (h : noDict x = true) (hd : x.depth ≤ 64) : dNe x x = some (.bool false) := by rw [ne_flat hd hd, eqv_self h]; rfl
theorem ne_bb (a b : Bool) : dNe (.bool a) (.bool b) = some (.bool (a != b)) := by
  rw [ne_flat (by rw [PyData.depth]; decide) (by rw [PyData.depth]; decide), PyData.eqv]; rfl
theorem ne_int (a b : Int) : dNe (.int a) (.int b) = some (.bool (!(a == b))) := by
  rw [ne_flat (by rw [PyData.depth]; decide) (by rw [PyData.depth]; decide), PyData.eqv]
end Pd
namespace Pd
open PySem
theorem band_t {G : Type} {env : Env} {g g1 : G} {ma mb : ME G} {r} (h : ma env g = some (.bool true, g1)) (k : mb env g1 = r) : mBAnd ma mb env g = r := by unfold mBAnd; rw [h]; exact k
end Pd
namespace Pd
open PySem
section
variable {G : Type} {env e1 e2 : Env} {g g1 g2 : G}
theorem rng_zero (lo : Int) : rng lo 0 = [] := rfl
theorem rng_succ (lo : Int) (n : Nat) : rng lo (n + 1) = .int lo :: rng (lo + 1) n := by
  unfold rng
  rw [List.range_succ_eq_map, List.map_cons, List.map_map]
  congr 1
  · simp
  · apply List.map_congr_left
    intro k _
    simp only [Function.comp]
    congr 1
    omega
theorem rng0 (n : Nat) : rng 0 n = (List.range n).map fun k => .int (k : Int) := by
  unfold rng
  apply List.map_congr_left
  intro k _
  rw [Int.zero_add]
theorem compL_filter {α : Type} {bt : MTg G} {me : ME G} {mt : MT G} (f h : α → D) (p : α → Bool) {l : List α} (k : ∀ a ∈ l, ∃ e1, bt (f a) env g = some (e1, g) ∧ mt e1 g = some (p a, g) ∧ me e1 g = some (h a, g)) :
    compL bt mt me env (l.map f) g = some ((l.filter p).map h, g) := by
  induction l with
  | nil => rfl
  | cons a l ih =>
    obtain ⟨e1, q1, q2, q3⟩ := k a (by simp)
    have ih := ih fun d' hd => k d' (List.mem_cons_of_mem _ hd)
    rw [List.map_cons]
    unfold compL
    rw [q1]
    dsimp only
    rw [q2]
    cases hp : p a with
    | false => rw [List.filter_cons_of_neg (by rw [hp]; decide)]; exact ih
    | true =>
      rw [List.filter_cons_of_pos hp, List.map_cons]
      dsimp only
      rw [q3]
      dsimp only
      rw [ih]
theorem asg_e {b : MTg G} {ma : ME G} {d : D} (h : ma env g = some (d, g1)) (hb : b d env g1 = some (e1, g2)) : mAsg b ma env g = some (.nx, e1, g2) := by unfold mAsg; rw [h]; dsimp only [bD]; rw [hb]; rfl
theorem par_e {i j : Nat} {ml : ML G} {x y : D} (h : ml env g = some ([x, y], g1)) : mPar i j ml env g = some (.nx, (env.set i (.sh x)).set j (.sh y), g1) := by unfold mPar; rw [h]
theorem enum_e {ml : ML G} {ds : List D} (h : ml env g = some ([.list ds], g1)) : mEnum ml env g = some (enm 0 ds, g1) := by unfold mEnum; rw [h]
theorem loop_nil {bt : MTg G} {mb : MS G} : loopL bt mb [] env g = some (.nx, env, g) := rfl
theorem loop_nx {bt : MTg G} {mb : MS G} {d : D} {ds : List D} {r} (h1 : bt d env g = some (e1, g1)) (h2 : mb e1 g1 = some (.nx, e2, g2)) (h3 : loopL bt mb ds e2 g2 = r) : loopL bt mb (d :: ds) env g = r := by
  unfold loopL; rw [h1]; dsimp only; rw [h2]; exact h3
theorem loop_re {bt : MTg G} {mb : MS G} {d x : D} {ds : List D} (h1 : bt d env g = some (e1, g1)) (h2 : mb e1 g1 = some (.re x, e2, g2)) : loopL bt mb (d :: ds) env g = some (.re x, e2, g2) := by
  unfold loopL; rw [h1]; dsimp only; rw [h2]
theorem setIx_e {j : Nat} {mi me : ME G} {d : D} {i : Int} {ds : List D} {k : Nat} (h : me env g = some (d, g1)) (hi : mi env g1 = some (.int i, g2)) (hj : env.at j = .ow ds) (hk : L2.ixN ds.length i = some k) : mSetIx j mi me env g = some (.nx, env.set j (.ow (ds.set k d)), g2) := by
  unfold mSetIx; rw [h]; dsimp only [bD]; rw [hi]; dsimp only [bD]; rw [hj]; dsimp only; rw [hk]; rfl
theorem ixOw_e {j : Nat} {mi : ME G} {d : D} {i : Int} {ds : List D} (hi : mi env g = some (.int i, g1)) (hj : env.at j = .ow ds) (hk : L2.atI ds i = some d) : mIxOw j mi env g = some (d, g1) := by
  unfold mIxOw; rw [hi]; dsimp only [bD]; rw [hj]; dsimp only; rw [hk]; rfl
theorem ixN_nat {n k : Nat} (h : k < n) : L2.ixN n (k : Int) = some k := by
  unfold L2.ixN
  rw [if_pos (by omega), if_pos (by omega)]; simp
theorem app_e {j : Nat} {me : ME G} {d : D} {ds : List D} (h : me env g = some (d, g1)) (hj : env.at j = .ow ds) (hl : ds.length < sizeLine) : mApp j me env g = some (.nx, env.set j (.ow (ds ++ [d])), g1) := by
  unfold mApp; rw [h]; dsimp only [bD]; rw [hj]; exact if_pos hl
theorem retOw_e {j : Nat} {ds : List D} (hj : env.at j = .ow ds) : mRetOw j env g = some (.rl ds, env.set j .un, g) := by unfold mRetOw; rw [hj]
end
end Pd
namespace Pd
open PySem
theorem neq_f {i j : Int} (h : i = j) : dNe (.int i) (.int j) = some (.bool false) := by rw [ne_int, h]; simp
theorem neq_t {i j : Int} (h : i ≠ j) : dNe (.int i) (.int j) = some (.bool true) := by rw [ne_int, beq_false_of_ne h]; rfl
/-- it tells d, and ends -/
def Re {G : Type} (d : D) (m : MS G) (env : Env) (g : G) : Prop := ∃ e g1, m env g = some (.re d, e, g1)
section
variable {G : Type} {env env1 e1 e2 : Env} {g g1 g2 g3 : G} {m1 m2 : MS G} {ma mb : ME G} {mt mu : MT G} {ml : ML G} {d : D}
theorem re_nx (h1 : m1 env g = some (.nx, e1, g1)) (h2 : Re d m2 e1 g1) : Re d (mSeq m1 m2) env g := by
  obtain ⟨e, g3, h⟩ := h2
  exact ⟨e, g3, seq_nx h1 h⟩
theorem re_in (h : Re d m1 env g) : Re d (mSeq m1 m2) env g := by
  obtain ⟨e, g3, h⟩ := h
  exact ⟨e, g3, seq_re h⟩
theorem re_ift (h : mt env g = some (true, g1)) (k : Re d m1 env g1) : Re d (mIfS mt m1 m2) env g := by
  obtain ⟨e, g3, k⟩ := k
  exact ⟨e, g3, if_t h k⟩
theorem re_iff (h : mt env g = some (false, g1)) (k : Re d m2 env g1) : Re d (mIfS mt m1 m2) env g := by
  obtain ⟨e, g3, k⟩ := k
  exact ⟨e, g3, if_f h k⟩
theorem re_ret (h : ma env g = some (d, g1)) : Re d (mRet ma) env g := ⟨_, _, ret_e h⟩
theorem re_e {e g3} (h : m1 env g = some (.re d, e, g3)) : Re d m1 env g := ⟨e, g3, h⟩
end
theorem runP_Re {N n : Nat} {m : MS Unit} {ds : List D} {d : D} (h : Re d m (startE N (ds.map .sh)) ()) (hn : ds.length = n ∧ n ≤ N := by exact ⟨rfl, by decide⟩) : runP N n m ds = some d := by
  obtain ⟨e, u, h⟩ := h
  exact runP_re h hn
end Pd
namespace Pd
open PySem
theorem any_e {α : Type} (l : List α) (f : α → Bool) : dAny [.list (l.map fun z => .bool (f z))] = some (.bool (l.any f)) := by
  have e : l.map (fun z => PyData.bool (f z)) = (l.map f).map .bool := by rw [List.map_map]; rfl
  rw [e]
  show (boolsD _).map _ = _
  rw [boolsD_map]
  show some (PyData.bool ((l.map f).any id)) = _
  rw [List.any_map]; rfl
theorem all_e {α : Type} (l : List α) (f : α → Bool) : dAll [.list (l.map fun z => .bool (f z))] = some (.bool (l.all f)) := by
  have e : l.map (fun z => PyData.bool (f z)) = (l.map f).map .bool := by rw [List.map_map]; rfl
  rw [e]
  show (boolsD _).map _ = _
  rw [boolsD_map]
  show some (PyData.bool ((l.map f).all id)) = _
  rw [List.all_map]; rfl
end Pd
namespace Pd
open PySem
section
variable {G : Type} {env e1 e2 : Env} {g g1 g2 g3 : G}
theorem setIx_iL {j : Nat} {mi me : ME G} {xs : List Int} {v : Int} {k : Nat} (h : me env g = some (.int v, g1)) (hi : mi env g1 = some (.int (k : Int), g2)) (hj : env.at j = .ow (xs.map .int)) (hk : k < xs.length) : mSetIx j mi me env g = some (.nx, env.set j (.ow ((xs.set k v).map .int)), g2) := by
  rw [setIx_e h hi hj (ixN_nat (by rw [List.length_map]; exact hk)), List.map_set]
end
end Pd
namespace Pd
open PySem
/-- it hands out the new list ds, and ends -/
def Rl {G : Type} (ds : List D) (m : MS G) (env : Env) (g : G) : Prop := ∃ e g1, m env g = some (.rl ds, e, g1)
section
variable {G : Type} {env env1 e1 e2 : Env} {g g1 g2 g3 : G} {m1 m2 : MS G} {ma mb : ME G} {mt mu : MT G} {ml : ML G} {ds : List D}
theorem rl_nx (h1 : m1 env g = some (.nx, e1, g1)) (h2 : Rl ds m2 e1 g1) : Rl ds (mSeq m1 m2) env g := by
  obtain ⟨e, g3, h⟩ := h2
  exact ⟨e, g3, seq_nx h1 h⟩
theorem rl_in (h : Rl ds m1 env g) : Rl ds (mSeq m1 m2) env g := by
  obtain ⟨e, g3, h⟩ := h
  exact ⟨e, g3, seq_rl h⟩
theorem rl_ift (h : mt env g = some (true, g1)) (k : Rl ds m1 env g1) : Rl ds (mIfS mt m1 m2) env g := by
  obtain ⟨e, g3, k⟩ := k
  exact ⟨e, g3, if_t h k⟩
theorem rl_iff (h : mt env g = some (false, g1)) (k : Rl ds m2 env g1) : Rl ds (mIfS mt m1 m2) env g := by
  obtain ⟨e, g3, k⟩ := k
  exact ⟨e, g3, if_f h k⟩
theorem rl_ret (h : ml env g = some (ds, g1)) : Rl ds (mRetF ml) env g := ⟨_, _, retF_e h⟩
theorem rl_retOw {j : Nat} (h : env.at j = .ow ds) : Rl ds (mRetOw j) env g := ⟨_, _, retOw_e h⟩
end
theorem runP_Rl {N n : Nat} {m : MS Unit} {ds xs : List D} (h : Rl xs m (startE N (ds.map .sh)) ()) (hn : ds.length = n ∧ n ≤ N := by exact ⟨rfl, by decide⟩) : runP N n m ds = some (.list xs) := by
  obtain ⟨e, u, h⟩ := h
  exact runP_rl h hn
theorem runN_Rl {N n : Nat} {m : MS Unit} {ds xs : List D} (h : Rl xs m (startE N (ds.map .sh)) ()) (hn : ds.length = n ∧ n ≤ N := by exact ⟨rfl, by decide⟩) : runN N n m ds = some xs := by
  obtain ⟨e, u, h⟩ := h
  exact runN_rl h hn
end Pd
namespace Pd
open PySem
theorem tup2_e {G : Type} {env e1 e2 : Env} {g g1 g2 : G} {b1 b2 : MTg G} {x y : D} (h1 : b1 x env g = some (e1, g1)) (h2 : b2 y e1 g1 = some (e2, g2)) : bTup 2 (bCons b1 (bCons b2 bNil)) (.tuple [x, y]) env g = some (e2, g2) := by
  show (b1 x env g).bind _ = _
  rw [h1]
  show (b2 y e1 g1).bind _ = _
  rw [h2]
  rfl
end Pd
namespace Pd
open PySem
section
variable {G : Type} {env e1 e2 : Env} {g g1 g2 g3 : G}
theorem intsD_mm : ∀ ns : List Int, intsD (ns.map .int) = some ns
  | [] => rfl
  | n :: ns => by show (intsD (ns.map .int)).map (n :: ·) = _; rw [intsD_mm ns]; rfl
theorem sum_e {α : Type} (l : List α) (f : α → Int) : dSum [.list (l.map fun z => .int (f z))] = some (.int ((l.map f).sum)) := by
  have e : l.map (fun z => PyData.int (f z)) = (l.map f).map .int := by rw [List.map_map]; rfl
  rw [e]
  show (intsD _).map _ = _
  rw [intsD_mm]
  rfl
end
end Pd

/-! Pd: targets by place, slices of one's own lists, sorted. -/
namespace Pd
open PySem PySem.Spec L2
section
variable {G : Type} {X : Cx} {S : Gs G} {K : PySem.W.Frag} {a b c e i : Expr} {es rest : List Expr} {pos : Pos} {ma mb me mi : ME G} {mt : MT G} {ml mk : ML G} {w : Wd} {env env' : Env} {g g' : G} {σ : St} {H H' I' : Hp}
/-! ### x[i] as a target, x a list of one's own -/
def bSub (j : Nat) (mi : ME G) : MTg G := fun d env g => bD (mi env g) fun i g1 => match env.at j, i with
  | .ow ds, .int i => (ixN ds.length i).map fun k => (env.set j (.ow (ds.set k d)), g1)
  | _, _ => none
theorem dg_sub (j : Nat) {x : Str} {xp : Pos} (hi : DE X S i mi) (hN : X.N[j]? = some x := by rfl) (hv : Vis X.env.scope x := by first | exact Or.inl rfl | exact Or.inr (Or.inl rfl) | exact Or.inr (Or.inr rfl)) (hd : (x == ("__debug__" : Str)) = false := by decide)
    (hcd : (x == ("__classdict__" : Str)) = false := by decide)
    (ha : ∀ v, assign (.Subscript (.Name x xp) i pos) X.env v = (do
      let ov ← holding [v] (eval (.Name x xp) X.env)
      let iv ← holding [v, ov] (eval i X.env)
      standAt pos
      holding [v, ov, iv] (setItem ov iv v)
      release [v, ov, iv] []) := by intro _; rfl) : DTg X S (.Subscript (.Name x xp) i pos) [j] (bSub j mi) where
  pg := PG.imp (pg_sub (pe_var hN hv hd hcd) hi set_list ha) fun v σ H Q ⟨w, env, g, d, env', g', R, pv, e, k⟩ => by
    obtain ⟨i, g2, e2, e⟩ := bD_some e
    split at e
    · rename_i ds i ej
      obtain ⟨n, en, e⟩ := Option.map_eq_some_iff.mp e
      cases e
      obtain ⟨p, vs, sj, hp, _⟩ := R.own ej
      refine ⟨_, sj, w, env, g, _, g', R, e2, fun u I2 H2 s2 R2 p2 => ?_⟩
      have s2 : Same w.I I2 := s2
      cases p2
      obtain ⟨p', us, sj', hp', hi, h0, hf, rb, hy⟩ := R2.own ej
      rw [sj] at sj'
      cases sj'
      refine ⟨p, us, i, n, rfl, rfl, hp', by rw [rb.len]; exact en, ?_⟩
      exact k σ I2 _ s2 (R2.setOw ej sj hp' hi h0 hf (rb.set (pv.mono s2) n) (by rw [List.length_set]; exact hy)) rfl fun _ _ => rfl
    · cases e
  ok := fun d env g env' g' e => by
    obtain ⟨i, g2, e2, e⟩ := bD_some e
    split at e
    · obtain ⟨n, en, e⟩ := Option.map_eq_some_iff.mp e
      cases e
      exact ⟨by rw [List.length_set], fun k hk => by rw [at_set, if_neg fun z => hk (by simp [z.1])]⟩
    · cases e
/-! ### x[lo:hi] = ys -/
def gSlice (to : TE) (tl th : TO) : TG := fun v σ H Q => to σ H fun o H1 => tl σ H1 fun l H2 => th σ H2 fun u H3 => ∃ p b xs ys a c, o = .ref p ∧ v = .ref b ∧ l = some a ∧ u = some c ∧ H3 p = some (.lst xs) ∧ H3 b = some (.lst ys) ∧ p ≠ b ∧
  0 ≤ a ∧ a ≤ c ∧ c ≤ xs.length ∧ xs.length + ys.length ≤ sizeLine ∧ Q σ (upd H3 p (.lst (xs.take a.toNat ++ ys ++ xs.drop c.toNat)))
theorem pg_slice {o : Expr} {lo hi : Option Expr} {p2 : Pos} {to : TE} {tl th : TO} (ho : PE X o to) (hl : PO X lo tl) (hh : PO X hi th)
    (ha : ∀ v, assign (.Subscript o (.Slice lo hi none p2) pos) X.env v = (do
      let ov ← holding [v] (eval o X.env)
      let iv ← holding [v, ov] (eval (.Slice lo hi none p2) X.env)
      standAt pos
      holding [v, ov, iv] (setItem ov iv v)
      release [iv, v, ov] []) := by intro _; rfl) : PG X (.Subscript o (.Slice lo hi none p2) pos) (gSlice to tl th) := by
  refine ⟨fun pins s σ H v u Q I r h => ?_⟩
  rw [ha]
  refine wpAny_bind (wpAny_holding (thn (ho.run pins s σ H _ I h) fun ov s1 ⟨x, H1, I1, r1, q1⟩ => ?_))
  refine wpAny_bind (wpAny_holding (wpAny_Slice (thn (hl.run pins s1 σ H1 _ I1 q1) fun vl s2 ⟨l, H2, I2, pl, q2⟩ => thn (hh.run pins s2 σ H2 _ I2 q2) fun vu s3 ⟨u', H3, I3, pu, q3⟩ => ?_)))
  rw [evalPart_none]
  refine wpAny_pure ?_
  have I4 : Inv X pins σ H3 { s3 with heap := s3.heap.push { cls := .type "slice", data := .fields #[vl, vu, .none] } } := I3.kept (t' := s3.toks) fun b ob q => Heap.get?_push_of_some _ q
  obtain ⟨p, b, xs, ys, a, c, rfl, rfl, rfl, rfl, hp, hb, hne, h0, hac, hc, hz, q⟩ := q3
  cases pl
  cases pu
  cases r1
  cases r
  refine wpAny_bind (wpAny_standAt (wpAny_bind (wpAny_holding ?_)))
  exact set_slice I4 hp hb hne (Heap.IsSliceOf.new ..) ⟨_, rfl⟩ ⟨_, rfl⟩ h0 hac hc hz fun s' I5 => wpAny_release ⟨σ, _, I5, q⟩
def mSetSl (j : Nat) (lo hi : MO G) (me : ME G) : MS G := fun env g => bD (me env g) fun d g1 => bD (lo env g1) fun l g2 => bD (hi env g2) fun h g3 => match env.at j, d, l, h with
  | .ow ds, .list ys, some a, some c => if 0 ≤ a ∧ a ≤ c ∧ c ≤ ds.length ∧ ds.length + ys.length ≤ sizeLine then some (.nx, env.set j (.ow (ds.take a.toNat ++ ys ++ ds.drop c.toNat)), g3) else none
  | _, _, _, _ => none
theorem rpa_take {I : Hp} : ∀ {vs : List V} {ds : List D}, RpA K I vs ds → ∀ n : Nat, RpA K I (vs.take n) (ds.take n)
  | _, _, .nil, n => by rw [List.take_nil, List.take_nil]; exact .nil
  | _, _, .cons _ _, 0 => .nil
  | _, _, .cons a b, n + 1 => .cons a (rpa_take b n)
theorem rpa_drop {I : Hp} : ∀ {vs : List V} {ds : List D}, RpA K I vs ds → ∀ n : Nat, RpA K I (vs.drop n) (ds.drop n)
  | _, _, .nil, n => by rw [List.drop_nil, List.drop_nil]; exact .nil
  | _, _, .cons a b, 0 => .cons a b
  | _, _, .cons a b, n + 1 => rpa_drop b n
theorem ds_setSl (j : Nat) {x : Str} {xp sp p2 : Pos} {lo hi : Option Expr} {mlo mhi : MO G} (he : DE X S e me) (hl : DO X S lo mlo) (hh : DO X S hi mhi) (hN : X.N[j]? = some x := by rfl) (hv : Vis X.env.scope x := by first | exact Or.inl rfl | exact Or.inr (Or.inl rfl) | exact Or.inr (Or.inr rfl)) (hd : (x == ("__debug__" : Str)) = false := by decide)
    (hcd : (x == ("__classdict__" : Str)) = false := by decide)
    (ha : ∀ v, assign (.Subscript (.Name x xp) (.Slice lo hi none p2) sp) X.env v = (do
      let ov ← holding [v] (eval (.Name x xp) X.env)
      let iv ← holding [v, ov] (eval (.Slice lo hi none p2) X.env)
      standAt sp
      holding [v, ov, iv] (setItem ov iv v)
      release [iv, v, ov] []) := by intro _; rfl)
    (hs : swapsWithSole [.Subscript (.Name x xp) (.Slice lo hi none p2) sp] e pos.line X.env = pure false := by rfl) (hw : swappedStores [.Subscript (.Name x xp) (.Slice lo hi none p2) sp] e X.env = pure none := by rfl)
    (h1 : (assignEach [.Subscript (.Name x xp) (.Slice lo hi none p2) sp] X.env).map (·.2) = [assign (.Subscript (.Name x xp) (.Slice lo hi none p2) sp) X.env] := by rfl) :
    DS X S (.Assign [.Subscript (.Name x xp) (.Slice lo hi none p2) sp] e pos) (mSetSl j mlo mhi me) := PS.imp (ps_asg he (pg_slice (pe_var hN hv hd hcd) hl.po hh.po ha) hs hw h1) fun D σ H ⟨w, env, g, ct, env', g', R, e, k⟩ => by
  obtain ⟨d, g1, e1, e⟩ := bD_some e
  obtain ⟨l, g2, e2, e⟩ := bD_some e
  obtain ⟨h, g3, e3, e⟩ := bD_some e
  split at e
  · rename_i ds ys a c ej _ _
    split at e
    · rename_i hz
      cases e
      refine ⟨w, env, g, _, g1, R, e1, fun v I1 H1 s1 R1 p1 => ?_⟩
      obtain ⟨p, vs, sj, hp, _⟩ := R1.own ej
      refine ⟨_, sj, w.im I1, env, g1, _, g2, R1, e2, fun I2 H2 s2 R2 => ⟨w.im I2, env, g2, _, g', R2, e3, fun I3 H3 s3 R3 => ?_⟩⟩
      have s2 : Same I1 I2 := s2
      have s3 : Same I2 I3 := s3
      cases p1 with
      | lst hb rb hy =>
        obtain ⟨p', us, sj', hp', hi, h0, hf, ra, hx⟩ := R3.own ej
        rw [sj] at sj'
        cases sj'
        have hb3 := s3 _ _ (s2 _ _ hb)
        refine ⟨p, _, us, _, a, c, rfl, rfl, rfl, rfl, hp', R3.eI _ _ hb3, fun z => ?_, hz.1, hz.2.1, by rw [ra.len]; exact hz.2.2.1, by rw [ra.len, rb.len]; exact hz.2.2.2, ?_⟩
        · have hi : I3 p = none := hi
          rw [z, hb3] at hi; cases hi
        · refine k σ I3 _ (s1.trans (s2.trans s3)) (R3.setOw ej sj hp' hi h0 hf (((rpa_take ra _).append (rb.mono (s2.trans s3))).append (rpa_drop ra _)) ?_)
          have := hz.2.2.2
          rw [List.length_append, List.length_append, List.length_take, List.length_drop]
          omega
    · cases e
  · cases e
/-- x[lo:hi] of a list of one's own -/
def mSlOw (j : Nat) (lo hi : MO G) : ML G := fun env g => bD (lo env g) fun l g2 => bD (hi env g2) fun h g3 => match env.at j with
  | .ow ds => some (cut ds l h, g3)
  | _ => none
theorem df_sliceOw (j : Nat) {x : Str} {xp p2 : Pos} {lo hi : Option Expr} {mlo mhi : MO G} (hl : DO X S lo mlo) (hh : DO X S hi mhi) (hN : X.N[j]? = some x := by rfl) (hv : Vis X.env.scope x := by first | exact Or.inl rfl | exact Or.inr (Or.inl rfl) | exact Or.inr (Or.inr rfl)) (hd : (x == ("__debug__" : Str)) = false := by decide)
    (hcd : (x == ("__classdict__" : Str)) = false := by decide) : DF X S (.Subscript (.Name x xp) (.Slice lo hi none p2) pos) (mSlOw j mlo mhi) := PE.imp (pe_slice sl_list (pe_var hN hv hd hcd) hl.po hh.po) fun σ H Q q => by
  obtain ⟨w, env, g, d, g', R, e, k⟩ := q
  obtain ⟨l, g2, e2, e⟩ := bD_some e
  obtain ⟨h, g3, e3, e⟩ := bD_some e
  split at e
  · rename_i ds ej
    cases e
    obtain ⟨p, vs, sj, hp, _⟩ := R.own ej
    refine ⟨_, sj, w, env, g, l, g2, R, e2, fun I2 H2 s2 R2 => ⟨w.im I2, env, g2, h, g', R2, e3, fun I3 H3 s3 R3 => ?_⟩⟩
    have s2 : Same w.I I2 := s2
    have s3 : Same I2 I3 := s3
    obtain ⟨p', us, sj', hp', hi, h0, hf, ra, hx⟩ := R3.own ej
    rw [sj] at sj'
    cases sj'
    refine ⟨_, _, rfl, SqL.of hp', fun p h0 => ?_⟩
    exact k p _ I3 _ (s2.trans s3) (R3.alloc h0) (R3.nob h0) upd_same (cut_rp ra l h) (Nat.le_trans (cut_le ds l h) hx)
  · cases e
/-! ### a new list by a test -/
theorem df_if (hc : DT X S c mt) (ha : DF X S a ml) (hb : DF X S b mk) : DF X S (.IfExp c a b pos) (mIf mt ml mk) := PE.imp (pe_ifExp hc ha hb) fun σ H Q q => by
  obtain ⟨w, env, g, d, g', R, e, k⟩ := q
  obtain ⟨x, g1, e1, e⟩ := bD_some e
  refine ⟨w, env, g, x, g1, R, e1, fun I1 H1 s1 R1 => ?_⟩
  cases x with
  | true => exact ⟨w.im I1, env, g1, d, g', R1, e, fun p vs I2 H2 s2 R2 => k p vs I2 H2 (s1.trans s2) R2⟩
  | false => exact ⟨w.im I1, env, g1, d, g', R1, e, fun p vs I2 H2 s2 R2 => k p vs I2 H2 (s1.trans s2) R2⟩
end
end Pd
namespace Pd
open PySem
section
variable {G : Type} {env e1 e2 : Env} {g g1 g2 g3 : G}
theorem lendT_e {js : List Nat} {mt : MT G} {r} (h0 : (env.lend js).noOw = true) (h : mt (env.lend js) g = r) : mLendT js mt env g = r := by unfold mLendT; rw [if_pos h0]; exact h
theorem frz_e {j : Nat} {m : MS G} {r} (h : m (env.frz j) g = r) : mFrz j m env g = r := h
theorem slOw_e {j : Nat} {lo hi : MO G} {l h : Option Int} {ds : List D} (hl : lo env g = some (l, g1)) (hh : hi env g1 = some (h, g2)) (hj : env.at j = .ow ds) : mSlOw j lo hi env g = some (cut ds l h, g2) := by
  unfold mSlOw; rw [hl]; dsimp only [bD]; rw [hh]; dsimp only [bD]; rw [hj]
theorem catOw_e {j : Nat} {mb : ME G} {ds ys : List D} (hb : mb env g = some (.list ys, g1)) (hj : env.at j = .ow ds) (hl : ds.length + ys.length ≤ sizeLine) : mCatOw j mb env g = some (ds ++ ys, g1) := by
  unfold mCatOw; rw [hb]; dsimp only [bD]; rw [hj]; exact if_pos hl
end
end Pd

/-! Pd: sorted. -/
namespace Pd
open PySem PySem.Spec L2
section
variable {G : Type} {X : Cx} {S : Gs G} {K : PySem.W.Frag}
def rSortD (K : PySem.W.Frag) : List V → Hp → VK → Prop := fun vs H Q => ∃ a xs ds, vs = [.ref a] ∧ SqL K H a xs ∧ DpAll K H xs ds ∧ PySem.W.AllAlike ds ∧ PySem.W.Sortable ds ∧ (∀ d ∈ ds, d.depth ≤ 60) ∧
  ∀ p, H p = none → Q (.ref p) (upd H p (.lst (((xs.zip ds).mergeSort (PySem.W.dataLe false Prod.snd)).map (·.1))))
theorem each_rel {xs : List V} {us : List Value} (h : Vals xs us) : ∀ {ds : List D}, ds.length = xs.length → PySem.W.EachIs (fun (v : Value) (b : V × D) => RelV b.1 v) us (xs.zip ds) := by
  induction h with
  | nil => intro ds _; exact .nil
  | cons r t ih =>
    intro ds hl
    cases ds with
    | nil => cases hl
    | cons d ds => exact .cons r (ih (by simpa using hl))
theorem each_reads {h : Heap} : ∀ {us : List Value} {ds : List D} {as : List Addr} {xs : List V}, ReadsAll h us ds as → xs.length = ds.length → PySem.W.EachIs (fun (v : Value) (b : V × D) => ∃ as, Reads h v b.2 as) us (xs.zip ds)
  | _, [], _, xs, r, hl => by
    cases r
    cases xs with
    | nil => exact .nil
    | cons _ _ => cases hl
  | _, d :: ds, _, xs, r, hl => by
    cases r with
    | cons r1 r2 =>
      cases xs with
      | nil => cases hl
      | cons x xs => exact .cons ⟨_, r1⟩ (each_reads r2 (by simpa using hl))
theorem vals_each {us : List Value} {bs : List (V × D)} (h : PySem.W.EachIs (fun (v : Value) (b : V × D) => RelV b.1 v) us bs) : Vals (bs.map (·.1)) us := by
  induction h with
  | nil => exact .nil
  | cons r _ ih => exact .cons r ih
theorem cr_sortD (hu : X.A.units + 65 < cLine) : CallR X (.builtin "sorted") (rSortD X.K) := by
  intro pins s σ H vs us Q I r h
  obtain ⟨a, xs, ds, rfl, hs, hd, hal, hso, hde, q⟩ := h
  obtain ⟨its, rv, hl, hz⟩ := I.list hs
  obtain ⟨u, rfl, ru⟩ := vals1 r
  obtain rfl : u = Value.ref a := ru
  obtain ⟨as, rd⟩ := Dp.readsAll I ds xs its hd rv
  have hlen : ∀ {vs : List V} {ds : List D}, DpAll X.K H vs ds → ds.length = vs.length := fun {vs ds} h => by
    induction vs generalizing ds with
    | nil => cases h; rfl
    | cons v vs ih => cases h with | cons h1 h2 => rw [List.length_cons, List.length_cons, ih h2]
  have hl2 := hlen hd
  have em : (xs.zip ds).map Prod.snd = ds := List.map_snd_zip (by omega)
  refine PySem.W.sorted_data (vs := its) (bs := xs.zip ds) (enc := Prod.snd) (R := fun v b => RelV b.1 v) hl.isList (each_rel rv hl2) (each_reads rd hl2.symm) (by rw [em]; exact hal) (by rw [em]; exact hso) (by rw [List.length_zip]; omega) (fun b hb => ?_) fun out ho eo => ?_
  · have := hde b.2 (by rw [← em]; exact List.mem_map.mpr ⟨b, hb, rfl⟩)
    omega
  · obtain ⟨n, hn⟩ := PyProof.Rows.sortedAll_at s.heap its out.toArray
    refine ⟨.ref (s.heap.objs.size + 1), upd H _ (.lst _), I.laid (t' := s.toks) (fun b o e => PyProof.Rows.sortedAll_old e) (Nat.le_succ _) ⟨?_, out, n, vals_each eo, hn⟩, rfl, q _ (I.hok.fresh (Nat.le_succ _))⟩
    rw [List.length_map, (List.mergeSort_perm _ _).length_eq, List.length_zip]; omega
/-- the premises, as tests -/
def alikeB (ds : List D) : Bool := ds.all fun d => ds.all fun d' => PySem.W.alike d d'
def isTupNe : D → Bool
  | .tuple (_ :: _) => true
  | _ => false
def notTup : D → Bool
  | .tuple _ => false
  | .none => false
  | _ => true
def dSorted : List D → Option (List D)
  | [.list ds] => if alikeB ds = true ∧ ((ds.all isTupNe) = true ∨ (ds.all notTup) = true) ∧ (ds.all fun d => decide (d.depth ≤ 60)) = true then some (ds.mergeSort (PySem.W.dataLe false id)) else none
  | _ => none
theorem alikeB_of {ds : List D} (h : alikeB ds = true) : PySem.W.AllAlike ds := fun d hd d' hd' => List.all_eq_true.mp (List.all_eq_true.mp h d hd) d' hd'
theorem sortable_of {ds : List D} (h : (ds.all isTupNe) = true ∨ (ds.all notTup) = true) : PySem.W.Sortable ds := by
  rcases h with h | h
  · refine .inl fun d hd => ?_
    have := List.all_eq_true.mp h d hd
    cases d with
    | tuple xs =>
      cases xs with
      | nil => cases this
      | cons x r => exact ⟨x, r, rfl⟩
    | _ => cases this
  · refine .inr fun d hd => ?_
    have := List.all_eq_true.mp h d hd
    constructor
    · rintro rfl; cases this
    · rintro xs rfl; cases this
theorem RpA.zip_map {I : Hp} {xs : List V} {ds : List D} (h : RpA K I xs ds) : ∀ b ∈ xs.zip ds, Rp K I b.1 b.2 := by
  induction xs generalizing ds with
  | nil => intro b hb; rw [List.zip_nil_left] at hb; cases hb
  | cons x xs ih =>
    cases h with
    | cons h1 h2 =>
      intro b hb
      rw [List.zip_cons_cons] at hb
      rcases List.mem_cons.mp hb with e | e
      · rw [e]; exact h1
      · exact ih h2 b e
theorem rpa_pairs {I : Hp} : ∀ {bs : List (V × D)}, (∀ b ∈ bs, Rp K I b.1 b.2) → RpA K I (bs.map (·.1)) (bs.map (·.2))
  | [], _ => .nil
  | b :: bs, h => .cons (h b (by simp)) (rpa_pairs fun b' hb => h b' (List.mem_cons_of_mem _ hb))
theorem RpA.dpAll {I : Hp} : ∀ {xs : List V} {ds : List D}, RpA K I xs ds → (∀ d ∈ ds, d.depth ≤ 60) → DpAll K I xs ds
  | _, _, .nil, _ => .nil
  | _, _, .cons a b, h => .cons (a.dp (Nat.le_trans (h _ List.mem_cons_self) (by decide))) (b.dpAll fun d hd => h d (List.mem_cons_of_mem _ hd))
theorem cf_sorted : CallF K (rSortD K) dSorted := by
  intro I H xs ds zs s p hz Q k
  cases p with
  | nil => cases hz
  | cons a b =>
    cases b with
    | cons _ _ => cases a <;> cases hz
    | nil =>
      cases a with
      | lst hp ra hl =>
        rename_i p us es
        have hz : (if _ then _ else none) = some zs := hz
        split at hz
        · rename_i hc
          cases hz
          refine ⟨_, us, es, rfl, SqL.of (s _ _ hp), (ra.mono s).dpAll (fun d hd => of_decide_eq_true (List.all_eq_true.mp hc.2.2 d hd)), alikeB_of hc.1, sortable_of hc.2.1, fun d hd => of_decide_eq_true (List.all_eq_true.mp hc.2.2 d hd), fun p h0 => ?_⟩
          have hlen := ra.len
          have em : (us.zip es).map Prod.snd = es := List.map_snd_zip (by omega)
          have e2 : es.mergeSort (PySem.W.dataLe false id) = ((us.zip es).mergeSort (PySem.W.dataLe false Prod.snd)).map (·.2) := by
            have := List.map_mergeSort (r := PySem.W.dataLe false (Prod.snd : V × D → D)) (s := PySem.W.dataLe false (id : D → D)) (f := Prod.snd) (l := us.zip es) fun _ _ _ _ => rfl
            rw [em] at this
            exact this.symm
          refine k p _ _ h0 (same_new h0) upd_same ?_ ?_
          · rw [e2]
            exact rpa_pairs fun b hb => RpA.zip_map ra b ((List.mergeSort_perm _ _).mem_iff.mp hb)
          · rw [(List.mergeSort_perm _ _).length_eq]; exact hl
        · cases hz
      | _ => cases hz
end
end Pd

/-! Pd: defs that call themselves; slices of tuples; is with truth values; index in a list; draws of the kind C. -/
namespace Pd
open PySem PySem.Spec L2
section
variable {G : Type} {X : Cx} {S : Gs G} {P : Program} {wd : World} {K : PySem.W.Frag} {mg : Str → Option Value} {base : Heap} {a b c e : Expr} {es : List Expr} {pos : Pos} {ma mb me : ME G} {ml : ML G}
variable {w : Wd} {env env' : Env} {g g' g1 g2 g3 : G} {σ : St} {H H' I' : Hp}
/-! ### a def whose promise promises nothing (no fuel is left) -/
theorem def_no {x qual : Str} {st : Stmt} {N ps : List Str} {k : Nat} {sp : Sp} (h : Dfn K mg x qual st ps) (Sc : FnScope N ps (defScope st)) (hn : ∀ vs H Q E, ¬ sp vs H Q E) : Def1 P wd K mg base x ps (k + 1) sp := by
  obtain ⟨f, fd, F, hm, hB⟩ := h.ex
  exact ⟨f, fd, F.ok Sc (fun vs H Q E q => (hn _ _ _ _ q).elim) (fun cdv A outer s H vs Q E hr q => (hn _ _ _ _ q).elim), hm, F.kp, hB⟩
theorem spP_no (vs : List V) (H : Hp) (Q : VK) (E : XK) : ¬ spP K (fun _ => none) vs H Q E := fun ⟨_, _, _, _, _, e, _⟩ => by cases e
theorem spN_no (vs : List V) (H : Hp) (Q : VK) (E : XK) : ¬ spN K (fun _ => none) vs H Q E := fun ⟨_, _, _, _, _, e, _⟩ => by cases e
theorem spG_no (vs : List V) (H : Hp) (Q : VK) (E : XK) : ¬ spG K S (fun _ _ => none) vs H Q E := fun ⟨_, _, _, _, _, _, _, _, _, e, _⟩ => by cases e
/-! ### a tuple's slice -/
def partT {α : Type} (xs : List α) (lo hi : Option Int) : Bool := !(decide (HT.sIx xs.length 0 lo = 0) && decide (HT.sIx xs.length xs.length hi = xs.length))
def mSlT (ma : ME G) (lo hi : MO G) : ME G := fun env g => bD (ma env g) fun x g1 => bD (lo env g1) fun l g2 => bD (hi env g2) fun h g3 => match x with
  | .tuple ds => if partT ds l h = true then some (.tuple (cut ds l h), g3) else none
  | _ => none
theorem de_sliceT {lo hi : Option Expr} {ml mh : MO G} {p2 : Pos} (ha : DE X S a ma) (hl : DO X S lo ml) (hh : DO X S hi mh) : DE X S (.Subscript a (.Slice lo hi none p2) pos) (mSlT ma ml mh) := PE.imp (pe_slice sl_tup ha hl.po hh.po) fun σ H Q q => by
  obtain ⟨w, env, g, d, g', R, e, k⟩ := q
  obtain ⟨x, g1, e1, e⟩ := bD_some e
  obtain ⟨l, g2, e2, e⟩ := bD_some e
  obtain ⟨h, g3, e3, e⟩ := bD_some e
  cases x with
  | tuple ds =>
    have e : (if partT ds l h = true then some (PyData.tuple (cut ds l h), g3) else none) = some (d, g') := e
    split at e
    · rename_i hw
      cases e
      refine ⟨w, env, g, _, g1, R, e1, fun v I1 H1 s1 R1 p1 => ⟨w.im I1, env, g1, l, g2, R1, e2, fun I2 H2 s2 R2 => ⟨w.im I2, env, g2, h, g', R2, e3, fun I3 H3 s3 R3 => ?_⟩⟩⟩
      cases p1 with
      | tup hp ra hz =>
        rename_i ad xs
        refine ⟨_, _, rfl, same_t R3.eI (same_t s3 (same_t s2 hp)), ?_, fun p h0 => ?_⟩
        · rw [ra.len]
          intro z
          unfold partT at hw
          rw [decide_eq_true z.1, decide_eq_true z.2] at hw
          cases hw
        · have n := R3.nob (o := .tup (cutV xs l h)) h0
          have R4 := (R3.alloc (o := .tup (cutV xs l h)) h0).freeze n upd_same
          refine k (.ref p) _ _ (s1.trans (s2.trans (s3.trans (same_new n.i)))) R4 ?_
          exact .tup (SqT.of upd_same) ((cut_rp (ra.mono (s2.trans s3)) l h).mono (same_new n.i)) (Nat.le_trans (cut_le ds l h) hz)
    · cases e
  | _ => cases e
theorem slT_e {lo hi : MO G} {xs : List D} {l h : Option Int} (ha : ma env g = some (.tuple xs, g1)) (hl : lo env g1 = some (l, g2)) (hh : hi env g2 = some (h, g3)) (hp : partT xs l h = true) : mSlT ma lo hi env g = some (.tuple (cut xs l h), g3) := by
  unfold mSlT
  rw [ha]; dsimp only [bD]; rw [hl]; dsimp only [bD]; rw [hh]; dsimp only [bD]; rw [if_pos hp]
/-! ### is True, is False -/
theorem op_isB : OpR X (compareOp .Is) (fun x y H Q => (∃ b, y = .bl b) ∧ Q (.bl (decide (x = y))) H) := by
  intro pins s σ H x y v u Q I rx ry h
  obtain ⟨⟨b, rfl⟩, q⟩ := h
  cases (show u = Value.bool b from ry)
  by_cases e : x = .bl b
  · subst e
    cases (show v = Value.bool b from rx)
    exact wpAny_is_self rfl ⟨.bl true, H, I, rfl, by simpa using q⟩
  · have q : Q (.bl false) H := by simpa [e] using q
    refine wpAny_is_other (a := v) (b := .bool b) ?_ (fun z => ?_) ⟨.bl false, H, I, rfl, q⟩
    · cases x <;> first | (cases rx; rfl) | (obtain ⟨t, rfl⟩ := rx; rfl)
    · subst z
      cases x <;> first | (cases rx; done) | (obtain ⟨t, z⟩ := rx; cases z; done) | skip
      cases (show Value.bool b = Value.bool _ from rx)
      exact e rfl
theorem op_isNB : OpR X (compareOp .IsNot) (fun x y H Q => (∃ b, y = .bl b) ∧ Q (.bl (!decide (x = y))) H) := by
  intro pins s σ H x y v u Q I rx ry h
  obtain ⟨⟨b, rfl⟩, q⟩ := h
  cases (show u = Value.bool b from ry)
  by_cases e : x = .bl b
  · subst e
    cases (show v = Value.bool b from rx)
    exact wpAny_isNot_self rfl ⟨.bl false, H, I, rfl, by simpa using q⟩
  · have q : Q (.bl true) H := by simpa [e] using q
    refine wpAny_isNot_other (a := v) (b := .bool b) ?_ (fun z => ?_) ⟨.bl true, H, I, rfl, q⟩
    · cases x <;> first | (cases rx; rfl) | (obtain ⟨t, rfl⟩ := rx; rfl)
    · subst z
      cases x <;> first | (cases rx; done) | (obtain ⟨t, z⟩ := rx; cases z; done) | skip
      cases (show Value.bool b = Value.bool _ from rx)
      exact e rfl
def isBd (b : Bool) : D → Bool
  | .bool c => c == b
  | _ => false
def dIsB : D → D → Option D
  | x, .bool b => some (.bool (isBd b x))
  | _, _ => none
def dIsNB : D → D → Option D
  | x, .bool b => some (.bool (!isBd b x))
  | _, _ => none
theorem isBd_rp {I : Hp} {v : V} {d : D} {b : Bool} (h : Rp K I v d) : decide (v = .bl b) = isBd b d := by
  cases h with
  | bl c => cases b <;> cases c <;> rfl
  | _ => simp [isBd]
theorem od_isB : OpD K (fun x y H Q => (∃ b, y = .bl b) ∧ Q (.bl (decide (x = y))) H) dIsB := by
  intro I H x y d e z s p q hz Q k
  cases q with
  | bl b => cases hz; exact ⟨⟨b, rfl⟩, by rw [isBd_rp p]; exact k _ I H (Pst.refl s) (.bl _)⟩
  | _ => cases hz
theorem od_isNB : OpD K (fun x y H Q => (∃ b, y = .bl b) ∧ Q (.bl (!decide (x = y))) H) dIsNB := by
  intro I H x y d e z s p q hz Q k
  cases q with
  | bl b => cases hz; exact ⟨⟨b, rfl⟩, by rw [isBd_rp p]; exact k _ I H (Pst.refl s) (.bl _)⟩
  | _ => cases hz
/-! ### xs.index(x), xs a list of data -/
def dIndexL : D → D → Option D
  | .list ds, d => if d.depth ≤ 64 ∧ (PyData.list ds).depth ≤ 64 then (ds.findIdx? fun z => PyData.eqv z d).map fun (j : Nat) => PyData.int (j : Int) else none
  | _, _ => none
theorem find_at {p : D → Bool} : ∀ {ds : List D} {j : Nat}, ds.findIdx? p = some j → (∃ z, ds[j]? = some z ∧ p z = true) ∧ ∀ (m : Nat) (z : D), m < j → ds[m]? = some z → p z = false := by
  intro ds j h
  obtain ⟨hl, hp, hn⟩ := List.findIdx?_eq_some_iff_getElem.mp h
  refine ⟨⟨_, List.getElem?_eq_getElem hl, hp⟩, fun m z hm hz => ?_⟩
  have := hn m hm
  obtain ⟨h1, h2⟩ := List.getElem?_eq_some_iff.mp hz
  rw [h2] at this
  simpa using this
theorem de_indexL {ap : Pos} (hu : X.A.units + 65 < cLine) (ho : DE X S a ma) (he : DE X S e me)
    (hbase : attributeBase a "index" X.env (eval a X.env) = eval a X.env := by rfl)
    (hfew : ((backTo pos (starEach [e] X.env)).all (fun x => !x.1) && (backToKw pos (keywordEach [] X.env)).all (fun x => x.1.isSome)
      && decide ([e].length + ([] : List Keyword).length + (if ([] : List Keyword).isEmpty then 0 else 1) < 30)) = true := by rfl)
    (hline : (ap.endLine == pos.line) = true := by rfl) (hs : starEach [e] X.env = (false, eval e X.env) :: starEach [] X.env := by rfl) (hplain : (backTo pos (starEach [] X.env)).any (·.1) = false := by rfl) :
    DE X S (.Call (.Attribute a "index" ap) [e] [] pos) (mOp dIndexL ma me) :=
  PE.imp (pe_bm PySem.F.plainAttrs_list PySem.F.slot_list_index PySem.F.type_list_index (mt_indexD hu) ho (da_cons (S := S) he da_nil hs) hbase hfew hline hs hplain) fun σ H Q q => by
    obtain ⟨w, env, g, d, g', R, e, k⟩ := q
    obtain ⟨x, g1, e1, e⟩ := bD_some e
    obtain ⟨y, g2, e2, e⟩ := bD_some e
    obtain ⟨e3, rfl⟩ := map_some e
    refine ⟨w, env, g, x, g1, R, e1, fun v I1 H1 s1 R1 p1 => ?_⟩
    cases x with
    | list ds =>
      have e3 : (if y.depth ≤ 64 ∧ (PyData.list ds).depth ≤ 64 then (ds.findIdx? fun z => PyData.eqv z y).map fun (j : Nat) => PyData.int (j : Int) else none) = some d := e3
      split at e3
      · rename_i hc
        obtain ⟨j, ej, rfl⟩ := Option.map_eq_some_iff.mp e3
        obtain ⟨⟨z, hz, hzj⟩, hno⟩ := find_at ej
        cases p1 with
        | lst hp ra hl =>
          refine ⟨.inl ⟨rfl, _, SqL.of (R1.eI _ _ hp)⟩, w.im I1, env, g1, [y], g', R1, ?_, fun us I2 H2 s2 R2 rb => ?_⟩
          · show bD (me env g1) (fun x g1 => bD (mNil env g1) fun xs g2 => some (x :: xs, g2)) = some ([y], g')
            rw [e2]; rfl
          · cases rb with
            | cons r q =>
              cases q
              have pl : Rp X.K I2 _ (PyData.list ds) := .lst (s2 _ _ hp) (ra.mono s2) hl
              exact ⟨_, _, y, ds, j, z, rfl, rfl, (pl.mono R2.eI).dp hc.2, (r.mono R2.eI).dp hc.1, shaped_of pl hc.2, shaped_of r hc.1, hz, hzj, hno, k _ I2 H2 (s1.trans s2) R2 (.int _)⟩
      · cases e3
    | _ => cases e3
end
end Pd

/-! Pd: draws of the kind C: a list of two numbers, the script as it is. -/
namespace Pd
open PySem PySem.Spec L2
structure Dc where
  s : Addr
  c : Addr
  tr : Bool
  a : Int
  b : Int
  ns : List Int
/-- the script stands: known to the heap, or one of the text's own objects -/
def ScrOk (K : PySem.W.Frag) (g : Dc) (H : Hp) : Prop := if g.tr = true then Rd H g.c (.lst (g.ns.map V.int)) else ∀ H' : Hp, SqL K H' g.c (g.ns.map V.int)
def drC (K : PySem.W.Frag) : Gs Dc where
  fp := fun g x => x = g.s ∨ (x = g.c ∧ g.tr = true)
  ok := fun g H => H g.s = some (.lst [.int g.a, .int g.b]) ∧ (g.tr = true → g.s ≠ g.c) ∧ ScrOk K g H
  root := fun g => .ref g.s
  loc := fun {g H H'} h ⟨h1, h2, h3⟩ => ⟨(h _ (.inl rfl)).trans h1, h2, by
    unfold ScrOk at h3 ⊢
    by_cases z : g.tr = true
    · rw [if_pos z] at h3 ⊢
      unfold Rd at h3 ⊢
      rw [h _ (.inr ⟨rfl, z⟩)]
      exact h3
    · rw [if_neg z] at h3 ⊢
      exact h3⟩
  dom := fun {g H x} ⟨h1, h2, h3⟩ hx => by
    rcases hx with rfl | ⟨rfl, z⟩
    · rw [h1]; simp
    · unfold ScrOk at h3
      rw [if_pos z] at h3
      rcases h3 with h | ⟨o, h⟩ <;> rw [h] <;> simp
theorem ScrOk.sq {K : PySem.W.Frag} {g : Dc} {H : Hp} (h : ScrOk K g H) : SqL K H g.c (g.ns.map V.int) := by
  unfold ScrOk at h
  by_cases z : g.tr = true
  · rw [if_pos z] at h; exact .inl h
  · rw [if_neg z] at h; exact h H
section
variable {X : Cx} {P : Program} {wd : World} {K : PySem.W.Frag} {mg : Str → Option Value} {base : Heap} {a b c e : Expr} {es : List Expr} {pos : Pos} {ma mb me mi : ME Dc} {ml : ML Dc}
variable {w : Wd} {env env' : Env} {g g' g1 g2 g3 : Dc} {σ : St} {H H' I' : Hp}
theorem Rel.stA {j : Nat} (R : Rel K (drC K) w env g σ H) (e : env.at j = .st) : σ[j]? = some (some (.ref g.s)) := by
  have q := R.slot j
  rw [e] at q
  have q : σ[j]? = some (some w.rt) := q
  rw [q, ← R.grt]
  rfl
/-- the state behind a write -/
theorem drC_set {xa xb : Int} (R : Rel K (drC K) w env g σ H) : Rel K (drC K) w env { g with a := xa, b := xb } σ (upd H g.s (.lst [.int xa, .int xb])) := by
  have n0 : w.I g.s = none := R.fI g.s ((R.gfp g.s).mp (.inl rfl))
  have nH : w.H0 g.s = none := R.f0 g.s ((R.gfp g.s).mp (.inl rfl))
  obtain ⟨h1, h2, h3⟩ := R.gok
  have ks := R.keepS (w' := w) (H' := upd H g.s (.lst [.int xa, .int xb])) (Same.refl _) rfl fun i a f => by
    obtain ⟨a1, a2, a3, _⟩ := (R.slot i).fr f
    exact ⟨upd_ne fun z => a3 (by rw [z]; exact (R.gfp g.s).mp (.inl rfl)), a1, a2, a3⟩
  exact {
    e0 := fun x o q => by rw [upd_ne fun z => by rw [z, nH] at q; cases q]; exact R.e0 x o q
    eI := fun x o q => by rw [upd_ne fun z => by rw [z, n0] at q; cases q]; exact R.eI x o q
    ag := R.ag
    ge := R.ge
    gfp := R.gfp
    grt := R.grt
    gok := ⟨upd_same, h2, by
      unfold ScrOk at h3 ⊢
      by_cases z : g.tr = true
      · have z' : ({ g with a := xa, b := xb } : Dc).tr = true := z
        rw [if_pos z] at h3
        rw [if_pos z']
        show Rd (upd H g.s _) g.c (.lst (g.ns.map V.int))
        unfold Rd at h3 ⊢
        rw [upd_ne (h2 z).symm]
        exact h3
      · have z' : ¬ ({ g with a := xa, b := xb } : Dc).tr = true := z
        rw [if_neg z] at h3
        rw [if_neg z']
        exact h3⟩
    fI := R.fI
    f0 := R.f0
    len := R.len
    slot := ks.1
    dis := ks.2 }
/-- state[i] -/
def mStIx (j : Nat) (mi : ME Dc) : ME Dc := fun env g => bD (mi env g) fun i g1 => match env.at j, i with
  | .st, .int i => if i = 0 then some (.int g1.a, g1) else if i = 1 then some (.int g1.b, g1) else none
  | _, _ => none
theorem de_stIx (j : Nat) {x : Str} {xp : Pos} {i : Expr} {mi : ME Dc} (hi : DE X (drC X.K) i mi) (hN : X.N[j]? = some x := by rfl) (hv : Vis X.env.scope x := by first | exact Or.inl rfl | exact Or.inr (Or.inl rfl) | exact Or.inr (Or.inr rfl)) (hd : (x == ("__debug__" : Str)) = false := by decide)
    (hcd : (x == ("__classdict__" : Str)) = false := by decide) (hs : PlainIx i := by exact fun _ _ => rfl) : DE X (drC X.K) (.Subscript (.Name x xp) i pos) (mStIx j mi) := PE.imp (pe_ix ix_list (pe_var hN hv hd hcd) hi hs) fun σ H Q ⟨w, env, g, d, g', R, e, k⟩ => by
  obtain ⟨i, g1, e1, e⟩ := bD_some e
  split at e
  · rename_i _ i ej
    have sj := R.stA ej
    refine ⟨_, sj, w, env, g, _, g1, R, e1, fun u I2 H2 s2 R2 p2 => ?_⟩
    cases p2
    have sj2 := R2.stA ej
    rw [sj] at sj2
    have eg : g.s = g1.s := by injection sj2 with z; injection z with z; injection z
    by_cases h0 : i = 0
    · rw [if_pos h0] at e
      cases e
      subst h0
      exact ⟨_, _, 0, _, rfl, rfl, by rw [eg]; exact SqL.of R2.gok.1, rfl, k _ I2 H2 s2 R2 (.int _)⟩
    · rw [if_neg h0] at e
      by_cases h1 : i = 1
      · rw [if_pos h1] at e
        cases e
        subst h1
        exact ⟨_, _, 1, _, rfl, rfl, by rw [eg]; exact SqL.of R2.gok.1, rfl, k _ I2 H2 s2 R2 (.int _)⟩
      · rw [if_neg h1] at e
        cases e
  · cases e
/-- state[i] = e -/
def mStSet (j : Nat) (mi me : ME Dc) : MS Dc := fun env g => bD (me env g) fun d g1 => bD (mi env g1) fun i g2 => match env.at j, i, d with
  | .st, .int i, .int v => if i = 0 then some (.nx, env, { g2 with a := v }) else if i = 1 then some (.nx, env, { g2 with b := v }) else none
  | _, _, _ => none
theorem ts_stSet {j : Nat} {D : Ends} (h : tS K (drC K) (mStSet j mi me) D σ H) : tAsg (tE K (drC K) me) (gSub (tVar j) (tE K (drC K) mi) rSetL) D σ H := by
  obtain ⟨w, env, g, c, env', g', R, e, k⟩ := h
  obtain ⟨d, g1, e1, e⟩ := bD_some e
  obtain ⟨i, g2, e2, e⟩ := bD_some e
  cases ej : env.at j with
  | st =>
    rw [ej] at e
    cases i with
    | int i =>
      cases d with
      | int v =>
        refine ⟨w, env, g, _, g1, R, e1, fun u I1 H1 s1 R1 p1 => ?_⟩
        cases p1
        have sj := R1.stA ej
        refine ⟨_, sj, w.im I1, env, g1, _, g2, R1, e2, fun u I2 H2 s2 R2 p2 => ?_⟩
        cases p2
        have sj2 := R2.stA ej
        rw [sj] at sj2
        have eg : g1.s = g2.s := by injection sj2 with z; injection z with z; injection z
        have e : (if i = 0 then some (Ct.nx, env, { g2 with a := v }) else if i = 1 then some (Ct.nx, env, { g2 with b := v }) else none) = some (c, env', g') := e
        by_cases h0 : i = 0
        · rw [if_pos h0] at e
          cases e
          subst h0
          refine ⟨_, _, 0, 0, rfl, rfl, by rw [eg]; exact R2.gok.1, rfl, ?_⟩
          rw [eg]
          exact k σ I2 _ (s1.trans s2) (drC_set R2)
        · rw [if_neg h0] at e
          by_cases h1 : i = 1
          · rw [if_pos h1] at e
            cases e
            subst h1
            refine ⟨_, _, 1, 1, rfl, rfl, by rw [eg]; exact R2.gok.1, rfl, ?_⟩
            rw [eg]
            exact k σ I2 _ (s1.trans s2) (drC_set R2)
          · rw [if_neg h1] at e
            cases e
      | _ => cases e
    | _ => cases e
  | _ => rw [ej] at e; cases e
theorem ds_stSet (j : Nat) {x : Str} {xp sp : Pos} {i : Expr} {mi : ME Dc} (hi : DE X (drC X.K) i mi) (he : DE X (drC X.K) e me) (hN : X.N[j]? = some x := by rfl) (hv : Vis X.env.scope x := by first | exact Or.inl rfl | exact Or.inr (Or.inl rfl) | exact Or.inr (Or.inr rfl)) (hd : (x == ("__debug__" : Str)) = false := by decide)
    (hcd : (x == ("__classdict__" : Str)) = false := by decide)
    (ha : ∀ v, assign (.Subscript (.Name x xp) i sp) X.env v = (do
      let ov ← holding [v] (eval (.Name x xp) X.env)
      let iv ← holding [v, ov] (eval i X.env)
      standAt sp
      holding [v, ov, iv] (setItem ov iv v)
      release [v, ov, iv] []) := by intro _; rfl)
    (hs : swapsWithSole [.Subscript (.Name x xp) i sp] e pos.line X.env = pure false := by rfl) (hw : swappedStores [.Subscript (.Name x xp) i sp] e X.env = pure none := by rfl)
    (h1 : (assignEach [.Subscript (.Name x xp) i sp] X.env).map (·.2) = [assign (.Subscript (.Name x xp) i sp) X.env] := by rfl) :
    DS X (drC X.K) (.Assign [.Subscript (.Name x xp) i sp] e pos) (mStSet j mi me) := PS.imp (ps_asg he (pg_sub (pe_var hN hv hd hcd) hi set_list ha) hs hw h1) fun _ _ _ h => ts_stSet h
/-- script[i], len(script) -/
def mRawIx (j : Nat) (mi : ME Dc) : ME Dc := fun env g => bD (mi env g) fun i g1 => match env.at j, i with
  | .raw (.ref p), .int i => if p = g1.c then (atI g1.ns i).map fun v => (.int v, g1) else none
  | _, _ => none
theorem Rel.rawA {j : Nat} {v : V} (R : Rel K (drC K) w env g σ H) (e : env.at j = .raw v) : σ[j]? = some (some v) := by
  have q := R.slot j
  rw [e] at q
  exact q
theorem atI_map {ns : List Int} {i v : Int} (h : atI ns i = some v) : atI (ns.map V.int) i = some (.int v) := by
  unfold atI at h ⊢
  rw [List.length_map]
  obtain ⟨j, h1, h2⟩ := Option.bind_eq_some_iff.mp h
  rw [h1]
  show (ns.map V.int)[j]? = _
  rw [List.getElem?_map, h2]
  rfl
theorem de_rawIx (j : Nat) {x : Str} {xp : Pos} {i : Expr} {mi : ME Dc} (hi : DE X (drC X.K) i mi) (hN : X.N[j]? = some x := by rfl) (hv : Vis X.env.scope x := by first | exact Or.inl rfl | exact Or.inr (Or.inl rfl) | exact Or.inr (Or.inr rfl)) (hd : (x == ("__debug__" : Str)) = false := by decide)
    (hcd : (x == ("__classdict__" : Str)) = false := by decide) (hs : PlainIx i := by exact fun _ _ => rfl) : DE X (drC X.K) (.Subscript (.Name x xp) i pos) (mRawIx j mi) := PE.imp (pe_ix ix_list (pe_var hN hv hd hcd) hi hs) fun σ H Q ⟨w, env, g, d, g', R, e, k⟩ => by
  obtain ⟨i, g1, e1, e⟩ := bD_some e
  split at e
  · rename_i _ p i ej
    split at e
    · rename_i hp
      obtain ⟨v, e3, e⟩ := Option.map_eq_some_iff.mp e
      cases e
      refine ⟨_, R.rawA ej, w, env, g, _, g', R, e1, fun u I2 H2 s2 R2 p2 => ?_⟩
      cases p2
      exact ⟨p, _, i, _, rfl, rfl, by rw [hp]; exact ScrOk.sq R2.gok.2.2, atI_map e3, k _ I2 H2 s2 R2 (.int _)⟩
    · cases e
  · cases e
def mRawLen (j : Nat) : ME Dc := fun env g => match env.at j with
  | .raw (.ref p) => if p = g.c then some (.int g.ns.length, g) else none
  | _ => none
theorem de_rawLen (j : Nat) {x : Str} {xp p : Pos} (hg : Gl X "len") (hm : X.mg "len" = none) (hN : X.N[j]? = some x := by rfl) (hv : Vis X.env.scope x := by first | exact Or.inl rfl | exact Or.inr (Or.inl rfl) | exact Or.inr (Or.inr rfl)) (hd : (x == ("__debug__" : Str)) = false := by decide)
    (hcd : (x == ("__classdict__" : Str)) = false := by decide) (hs : starEach [.Name x xp] X.env = (false, eval (.Name x xp) X.env) :: starEach [] X.env := by rfl) (hpl : (backTo pos (starEach [] X.env)).any (·.1) = false := by rfl) :
    DE X (drC X.K) (.Call (.Name "len" p) [.Name x xp] [] pos) (mRawLen j) := PE.imp (pe_callB call_len_seq hg hm PySem.boot_len (pa_cons (pe_var hN hv hd hcd) pa_nil hs)) fun σ H Q ⟨w, env, g, d, g', R, e, k⟩ => by
  unfold mRawLen at e
  split at e
  · rename_i p ej
    split at e
    · rename_i hp
      cases e
      refine ⟨_, R.rawA ej, ?_⟩
      refine ⟨p, _, rfl, .inl (by rw [hp]; exact ScrOk.sq R.gok.2.2), ?_⟩
      rw [List.length_map]
      exact k _ w.I H (Same.refl _) R (.int _)
    · cases e
  · cases e
end
end Pd

/-! Pd: a law whose frame knows that no text is being made of anything (for repr of data). -/
namespace Pd
open PySem PySem.Spec L2
/-- a def's run in one surrounding that is known -/
theorem run_at {CX : CXT} {P : Program} {wd : World} {K : PySem.W.Frag} {mg : Str → Option Value} {base : Heap} {k : Nat} {f : Addr} {nm qual : Str} {pars : Arguments} {bd : List Stmt} {sc : Scope} {dV kV doc pm cdv ct oc : Value} {an od : Option Addr}
    {osl : Array (Option Value)} {N ps : List Str} (lk : K.lookup f = some ⟨oc, od, .func (PySem.W.fnOf nm qual pars bd sc dV kV doc pm an cdv ct), osl⟩) (hc : PySem.W.codeIn K cdv qual = true) (Sc : FnScope N ps sc)
    {A : Around} {fr : List PySem.Env} {s0 : Shared} {H0 : Hp} {args : Args} {us : List Value} {vs : List V} {Q : VK} {E : XK} (hroom : Room (k + 1) A) (e0 : Env0 P wd K mg base A fr s0 H0)
    (bnd : BindsTo s0 (PySem.W.fnOf nm qual pars bd sc dV kV doc pm an cdv ct) args (ps.zip us)) (rv : Vals vs us) (len : vs.length = ps.length)
    (hb : ∃ t, PSs (cxOf CX P wd K mg base N qual sc f cdv A fr s0 H0 E) bd t ∧ t { nx := fun _ H1 => Q .non H1, rt := Q } (start N vs) H0) :
    codeAny (model P wd) A (.call (.ref f) args) (CR CX fr P wd H0 s0 Q E) s0 := by
  have inK : K.In s0.heap := e0.mod.kin.keeps fun x u q => And.left (e0.bs x u q)
  have noL : s0.heap.NoLimit := e0.mod.nolimit.keeps fun x u q => And.left (e0.bs x u q)
  have kinds : ∀ p ∈ ps.zip us, sc.names.lookup p.1 = some .local ∨ (sc.names.lookup p.1 = some .cell ∧ ((cellsFrom (s0.heap.objs.size + 1) sc.names []).lookup p.1).isSome = true) := by
    rintro ⟨n, v⟩ hp
    cases Sc.par n (List.of_mem_zip hp).1 with
    | inl q => exact .inl q
    | inr q => exact .inr ⟨q, PySem.W.cellsFrom_some _ _ _ (.inl q)⟩
  apply codeAny_call_function hroom.depth (inK _ _ lk) rfl Sc.co Sc.gen rfl (PySem.W.codeRec_of inK hc)
  apply bnd
  apply wpAny_newFunctionEnv_cells Sc.kind kinds
  intro env he s1 x
  subst he
  obtain ⟨t, ht, hq⟩ := hb
  have I : Inv (cxOf CX P wd K mg base N qual sc f cdv A fr s0 H0 E) [] (start N vs) H0 s1 := inv_start Sc hroom.hd e0 len rv x
  have done : ∀ {σ1 : St} {H1 : Hp} {v : V} {u : Value} {s2 : Shared}, Inv (cxOf CX P wd K mg base N qual sc f cdv A fr s0 H0 E) [] σ1 H1 s2 → RelV v u → Q v H1 → CE fr P wd H0 s0 Q u s2 := by
    intro σ1 H1 v u s2 J rw_ q
    exact ⟨v, H1, J.os, J.bare, J.base, J.hok, rw_, q⟩
  refine ⟨noL.keeps x.toInCall.keep, codeAny_func (wpAny_mono (ht.run [] s1 (start N vs) H0 _ I hq) ?_ fun _ _ z => z)⟩
  intro fl s2 z
  cases fl with
  | brk => obtain ⟨_, _, _, q⟩ := z; exact q.elim
  | cont => obtain ⟨_, _, _, q⟩ := z; exact q.elim
  | next => obtain ⟨_, _, J, q⟩ := z; exact done (v := V.non) (u := Value.none) J rfl q
  | ret u => obtain ⟨_, _, _, J, r1, q⟩ := z; exact done J r1 q
/-- what a heap must be at the law's call: it knows of the script at most -/
structure Bare1 (P : Program) (wd : World) (K : PySem.W.Frag) (a : Addr) (ns : List Int) (h : Heap) (H : Hp) : Prop where
  one : ∀ x u, H x = some u → x = a ∧ K.lookup a = none ∧ ∃ o xs, u = .frz o (.lst xs)
  scr : SqL K H a (ns.map V.int)
  ok : HOk P wd H h
theorem Bare1.free {P : Program} {wd : World} {K : PySem.W.Frag} {a x : Addr} {ns : List Int} {h : Heap} {H : Hp} (B : Bare1 P wd K a ns h H) (hx : x = a → K.lookup a ≠ none) : H x = none := by
  cases q : H x with
  | none => rfl
  | some u => exact absurd (B.one x u q).2.1 (hx (B.one x u q).1)
/-- the two heaps: the script is an object of the text, or one that the heap knows -/
theorem bare_ex {P : Program} {wd : World} {K : PySem.W.Frag} {a : Addr} {vs : List Value} {ns : List Int} {h : Heap} (KX : K.In h) (ho : h.get? a = some { cls := .type "list", data := .seq vs.toArray }) (hi : PyProof.Rows.IntsAre vs ns) (hl : ns.length ≤ sizeLine) : ∃ H, Bare1 P wd K a ns h H := by
  have ev := vals_ints hi
  have el := hi.length
  cases hk : K.lookup a with
  | some o =>
    have e : h.get? a = some o := KX a o hk
    cases ho.symm.trans e
    refine ⟨fun _ => none, ⟨fun x u z => (nomatch (show (none : Option HO) = some u from z)), .inr ⟨_, vs.toArray, _, hk, rfl, rfl, rfl, ?_, ?_⟩, fun x u z => (nomatch (show (none : Option HO) = some u from z))⟩⟩
    · rw [List.size_toArray]; omega
    · simpa using ev
  | none =>
    refine ⟨fun x => if x = a then some (.frz { cls := .type "list", data := .seq vs.toArray } (.lst (ns.map V.int))) else none, ⟨fun x u z => ?_, .inl (.inr ⟨_, if_pos rfl⟩), fun x u z => ?_⟩⟩
    · split at z
      · rename_i q; cases z; exact ⟨q, hk, _, _, rfl⟩
      · cases z
    · split at z
      · rename_i q
        cases z
        subst q
        exact ⟨ho, by rw [List.length_map]; exact hl, vs, _, ev, ho⟩
      · cases z
theorem law_at {P : Program} {wd : World} {K : PySem.W.Frag} {mg mb : Str → Option Value} {fa a : Addr} {s1 : Shared} {vs : List Value} {ns : List Int}
    (KX : K.In s1.heap) (hns : s1.heap.Ns mainGlobals mg) (hb : s1.heap.Ns builtinsNs mb) (hbb : ∀ x : Str, x ≠ "__name__" → mb x = bootBuiltins x) (hlim : s1.heap.NoLimit) (hg : s1.gens = #[])
    (ho : s1.heap.get? a = some { cls := .type "list", data := .seq vs.toArray }) (hi : PyProof.Rows.IntsAre vs ns) (hl : ns.length ≤ sizeLine)
    (run : ∀ (base : Heap) (H : Hp), SqL K H a (ns.map V.int) → Env0 P wd K mg base callerA [] s1 H → codeAny (model P wd) callerA (.call (.ref fa) ⟨[.ref a], []⟩) (CR CX0 [] P wd H s1 (fun v _ => v = .bl true) fun _ _ _ => False) s1) :
    codeAny (model P wd) callerA (.call (.ref fa) ⟨[.ref a], []⟩) (fun r s' => r = .ok (.ret (.bool true)) ∧ OldK s1.heap s'.heap ∧ s'.os = s1.os ∧ PyProof.Rows.AllBare s'.gens) s1 := by
  obtain ⟨H, B⟩ := bare_ex (P := P) (wd := wd) KX ho hi hl
  have keepD : ∀ {x : Addr} {o : Obj} {es : Array DictEntry} {ep : Nat}, s1.heap.get? x = some o → o.data = .dict es ep → (hidT s1.heap H).get? x = some o := by
    intro x o es ep e d
    refine hidT_get e ?_
    cases q : H x with
    | none => rfl
    | some u =>
      obtain ⟨rfl, _⟩ := B.one x u q
      rw [ho] at e
      cases e
      exact nomatch (show Data.seq vs.toArray _ = Data.dict es ep from d)
  have keepN : ∀ {x : Addr} {m : Str → Option Value}, s1.heap.Ns x m → (hidT s1.heap H).Ns x m := by
    rintro x m ⟨o, es, ep, e, d, r⟩
    exact ⟨o, es, ep, keepD e d, d, r⟩
  have inB : K.In (hidT s1.heap H) := by
    intro x o e
    refine hidT_get (KX x o e) (B.free fun z => ?_)
    subst z
    rw [e]
    exact fun z => nomatch z
  obtain ⟨mc, l1, l2⟩ := hlim
  have M : Mod K mg (hidT s1.heap H) := ⟨inB, keepN hns, ⟨mb, keepN hb, hbb⟩, ⟨mc, keepN l1, l2⟩⟩
  have nil_ : ∀ {x : Addr}, x ∉ ([] : List Addr) := by simp
  have e0 : Env0 P wd K mg (hidT s1.heap H) callerA [] s1 H := {
    frames := rfl
    mod := M
    bs := fun x o e => of_hidT e
    bsz := Nat.le_of_eq (hidT_size _ _)
    funs := trivial
    frf := fun x z => absurd z nil_
    hok := B.ok
    bare := .of_eq hg }
  refine codeAny_mono (run _ H B.scr e0) ?_
  rintro (e | fl) s2 z
  · exact (show False from z).elim
  · cases fl with
    | next => exact z.elim
    | brk => exact z.elim
    | cont => exact z.elim
    | ret u =>
      obtain ⟨v, H2, os, bare, un, ok2, r2, q⟩ := z
      have q : v = V.bl true := q
      subst q
      have eu : u = Value.bool true := r2
      subst eu
      refine ⟨rfl, OldK.of_keep fun x o e => ?_, os, bare⟩
      cases q : H x with
      | none => exact un.keep x o e q (fun z => nil_ z) (by simp)
      | some u =>
        obtain ⟨_, _, ob, xs, rfl⟩ := B.one x u q
        have f2 := un.frzs x ob _ q
        obtain ⟨w1, _⟩ := B.ok x _ q
        obtain ⟨w2, _⟩ := ok2 x _ f2
        rw [w1] at e
        cases e
        exact w2
/-- a row from the law's run where nothing is being shown -/
theorem walk_at {l : PySem.W.OpenLaw} {n : Nat} {q : Program} {loose : List Str} {XP : (Str → Option Value) → Heap → Prop} {YP : World → Heap → Prop} {d : DefRec} {K : Params → PySem.W.Frag}
    (hn : l.most = some n) (hn2 : n ≤ sizeLine) (hdf : d.params.defaults = []) (hY : ∀ (w : World) (h : Heap), YP w h → (K w.params).In h)
    (F : ∀ (w : World) (mg : Str → Option Value) (fa : Addr) (h : Heap), (K w.params).In h → h.Ns mainGlobals mg → mg d.name = some (.ref fa) →
      ∀ (base : Heap) (H : Hp) (s1 : Shared) (a : Addr) (ns : List Int), ns.length ≤ n → SqL (K w.params) H a (ns.map V.int) → Env0 l.prog w (K w.params) mg base callerA [] s1 H →
        codeAny (model l.prog w) callerA (.call (.ref fa) ⟨[.ref a], []⟩) (CR CX0 [] l.prog w H s1 (fun v _ => v = .bl true) fun _ _ _ => False) s1) :
    PySem.W.WalkO q loose XP YP l.row.toRowW d [] (fun f vs => PySem.call f vs) := by
  apply Att.attach_call hn hdf
  intro w s0 s1 mg mb fa o pm cd doc a vs ns G Y _ _ _ hmg hobj hi hlen hg
  have inK := hY w _ Y
  exact law_at inK G.T.g G.T.b G.T.builtins G.T.nolimit hg hobj hi (Nat.le_trans hlen hn2) fun base H hS e0 => F w mg fa _ inK G.T.g hmg base H s1 a ns hlen hS e0
end Pd

/-! Pd: repr of data; the law's start with draws of the kind C. -/
namespace Pd
open PySem PySem.Spec L2
/-! ### the signs of what repr tells -/
def Cps (x : Str) : Prop := ∀ c ∈ x.cps.toList, c < 0x110000
theorem cps_iff {x : Str} : PyData.canLay0 (.str x) = true ↔ Cps x := by
  simp only [PyData.canLay0]
  unfold PyData.strOk Cps
  rw [← Array.all_toList, List.all_eq_true]
  simp only [decide_eq_true_eq]
theorem cps_of (s : String) : Cps (Str.ofString s) := by
  intro c hc
  rw [Str.ofString_eq_toList] at hc
  obtain ⟨k, _, rfl⟩ := List.mem_map.mp (show c ∈ s.toList.map Char.toNat from hc)
  have := k.valid
  rcases this with h | h
  · exact Nat.lt_trans h (by decide)
  · exact h.2
theorem cps_app {x y : Str} (hx : Cps x) (hy : Cps y) : Cps (x ++ y) := by
  intro c hc
  have hc : c ∈ (x.cps ++ y.cps).toList := hc
  rw [Array.toList_append] at hc
  rcases List.mem_append.mp hc with h | h
  · exact hx c h
  · exact hy c h
theorem cps_from : ∀ (ts : List Str) (k : Nat) (acc : Str), Cps acc → (∀ t ∈ ts, Cps t) → Cps (textFrom k acc ts)
  | [], _, _, h, _ => h
  | t :: ts, k, acc, h, ht => cps_from ts (k + 1) _ (cps_app (cps_app h (cps_of _)) (ht t (List.mem_cons_self ..))) fun u hu => ht u (List.mem_cons_of_mem _ hu)
theorem cps_list {ts : List Str} (ht : ∀ t ∈ ts, Cps t) : Cps (listText ts) := cps_app (cps_from ts 0 _ (cps_of _) ht) (cps_of _)
theorem cps_join : ∀ {ts : List Str}, (∀ t ∈ ts, Cps t) → Cps (Str.join ", " ts)
  | [], _ => cps_of ""
  | [x], h => h x (List.mem_singleton_self _)
  | x :: y :: r, h => by
    show Cps (x ++ ", " ++ Str.join ", " (y :: r))
    exact cps_app (cps_app (h x (List.mem_cons_self ..)) (cps_of _)) (cps_join fun t ht => h t (List.mem_cons_of_mem _ ht))
theorem cps_tuple {ts : List Str} (ht : ∀ t ∈ ts, Cps t) : Cps (tupleText ts) := cps_app (cps_app (cps_of _) (cps_join ht)) (cps_of _)
theorem cps_char {q c : Nat} (hq : q < 0x110000) (hc : c < 0x110000) : ∀ z ∈ Builtin.Str.reprChar q c, z < 0x110000 := by
  have hex : ∀ wd z : Nat, z ∈ List.replicate (wd - ((Nat.toDigits 16 c).map Char.toNat).length) 48 ++ (Nat.toDigits 16 c).map Char.toNat → z < 0x110000 := by
    intro wd z hz
    rcases List.mem_append.mp hz with h | h
    · rw [(List.mem_replicate.mp h).2]; decide
    · obtain ⟨k, _, rfl⟩ := List.mem_map.mp h
      rcases k.valid with h | h
      · exact Nat.lt_trans h (by decide)
      · exact h.2
  intro z hz
  unfold Builtin.Str.reprChar at hz
  simp only at hz
  split at hz
  · simp only [List.mem_cons, List.not_mem_nil, or_false] at hz; rcases hz with rfl | rfl <;> omega
  · split at hz
    · simp only [List.mem_cons, List.not_mem_nil, or_false] at hz; omega
    · split at hz
      · simp only [List.mem_cons, List.not_mem_nil, or_false] at hz; omega
      · split at hz
        · simp only [List.mem_cons, List.not_mem_nil, or_false] at hz; omega
        · split at hz
          · simp only [List.mem_cons, List.not_mem_nil, or_false] at hz; omega
          · split at hz
            · rcases List.mem_append.mp hz with h | h
              · simp only [List.mem_cons, List.not_mem_nil, or_false] at h; omega
              · exact hex _ z h
            · split at hz
              · rcases List.mem_append.mp hz with h | h
                · simp only [List.mem_cons, List.not_mem_nil, or_false] at h; omega
                · exact hex _ z h
              · rcases List.mem_append.mp hz with h | h
                · simp only [List.mem_cons, List.not_mem_nil, or_false] at h; omega
                · exact hex _ z h
theorem cps_fold {q : Nat} (hq : q < 0x110000) : ∀ (l : List Nat) (acc : Array Nat), (∀ c ∈ l, c < 0x110000) → (∀ c ∈ acc.toList, c < 0x110000) → ∀ c ∈ (l.foldl (fun out c => out ++ (Builtin.Str.reprChar q c).toArray) acc).toList, c < 0x110000
  | [], _, _, h => h
  | x :: l, acc, hl, h => cps_fold hq l _ (fun c hc => hl c (List.mem_cons_of_mem _ hc)) fun c hc => by
    rw [Array.toList_append] at hc
    rcases List.mem_append.mp hc with z | z
    · exact h c z
    · exact cps_char hq (hl x (List.mem_cons_self ..)) c z
theorem cps_repr {x : Str} (h : Cps x) : Cps (reprText x) := by
  have hq : reprQuote x < 0x110000 := by unfold reprQuote; split <;> decide
  intro c hc
  unfold reprText at hc
  have hc : c ∈ ((x.cps.foldl (fun out c => out ++ (Builtin.Str.reprChar (reprQuote x) c).toArray) #[reprQuote x]).push (reprQuote x)).toList := hc
  rw [Array.toList_push] at hc
  rcases List.mem_append.mp hc with z | z
  · rw [← Array.foldl_toList] at z
    exact cps_fold hq x.cps.toList _ h (fun c hc => by rw [List.mem_singleton.mp hc]; exact hq) c z
  · rw [List.mem_singleton.mp z]; exact hq
mutual
theorem cps_shown : ∀ d : D, d.canLay0 = true → Cps d.shown
  | .none, _ => by simp only [PyData.shown]; exact cps_of _
  | .bool b, _ => by simp only [PyData.shown]; cases b <;> exact cps_of _
  | .int i, _ => by simp only [PyData.shown]; exact cps_of _
  | .str x, h => by simp only [PyData.shown]; exact cps_repr (cps_iff.mp h)
  | .list xs, h => by simp only [PyData.shown]; exact cps_list (cps_shownA xs (by simpa only [PyData.canLay0] using h))
  | .tuple xs, h => by simp only [PyData.shown]; exact cps_tuple (cps_shownA xs (by simpa only [PyData.canLay0] using h))
  | .dict _, h => by simp [PyData.canLay0] at h
theorem cps_shownA : ∀ ds : List D, PyData.canLayAll0 ds = true → ∀ t ∈ PyData.shownAll ds, Cps t
  | [], _, t, ht => by simp only [PyData.shownAll] at ht; exact nomatch ht
  | d :: ds, h, t, ht => by
    simp only [PyData.canLayAll0, Bool.and_eq_true] at h
    simp only [PyData.shownAll] at ht
    rcases List.mem_cons.mp ht with rfl | z
    · exact cps_shown d h.1
    · exact cps_shownA ds h.2 t z
end
/-- what may be shown -/
def showOk (d : D) : Bool := PyData.layable0 d && (PyData.showable d && PyData.intsShort 13 d)
theorem sok_shown {d : D} (h : showOk d = true) : SOk d.shown := by
  unfold showOk at h
  rw [Bool.and_eq_true, Bool.and_eq_true] at h
  refine ⟨PyData.shown_fits_of_layable0 (B := 13) (by decide) (by decide) h.1 h.2.2, cps_iff.mpr (cps_shown d ?_)⟩
  have := h.1
  unfold PyData.layable0 at this
  rw [Bool.and_eq_true, Bool.and_eq_true] at this
  exact this.1.1
section
variable {X : Cx} {K : PySem.W.Frag}
def rRepr (K : PySem.W.Frag) : List V → Hp → VK → Prop := fun vs H Q => ∃ x d, vs = [x] ∧ Dp K H x d ∧ showOk d = true ∧ Q (.str d.shown) H
theorem cr_repr (hG : X.A.guards = some []) (hu : X.A.units + 65 < cLine) : CallR X (.builtin "repr") (rRepr X.K) := by
  intro pins s σ H xs us Q I r h
  obtain ⟨x, d, rfl, hd, hs, q⟩ := h
  obtain ⟨u, rfl, ru⟩ := vals1 r
  obtain ⟨as, rd⟩ := Dp.reads I d x u hd ru
  have hs0 := hs
  unfold showOk at hs
  rw [Bool.and_eq_true, Bool.and_eq_true] at hs
  have hz : d.shown.length ≤ sizeLine := (sok_shown hs0).1
  have hdep : d.depth ≤ 64 := PyData.depth_le_of_layable hs.1
  have leaf : ∀ (tk : Tok), Q (.str d.shown) H → EP X pins σ Q (.str d.shown s.toks) { s with toks := s.toks + 1 } := fun _ q => ⟨.str _, H, I.tok _, ⟨_, rfl⟩, q⟩
  have ref : ∀ a : Addr, u = .ref a → wpAny (model X.prog X.w) X.A (call (.builtin "repr") [u]) (EP X pins σ Q) X.xe s := by
    rintro a rfl
    refine repr_of_reads' rd hs.2.1 (PyData.noDict_hsm (PyData.hasDict_of_canLay d ?_)) hG (by omega) (fun _ _ e => e) (fun h' u' tk k => ?_) hz
    · have := hs.1
      unfold PyData.layable0 at this
      rw [Bool.and_eq_true, Bool.and_eq_true] at this
      exact this.1.1
    · have I2 : Inv X pins σ H { s with heap := h', toks := s.toks } := I.kept fun b o e => k b o e
      exact ⟨.str _, H, I2.tok _, ⟨_, rfl⟩, q⟩
  cases hd with
  | non =>
    cases ru
    have e : (PyData.none).shown = ("None" : Str) := PyData.shown_none
    rw [e] at q
    exact PySem.P.repr_of_none ⟨.str _, H, I.tok _, ⟨_, rfl⟩, q⟩
  | bl b =>
    cases ru
    rw [PyData.shown_bool] at q
    exact PySem.P.repr_of_bool ⟨.str _, H, I.tok _, ⟨_, rfl⟩, q⟩
  | int i =>
    obtain ⟨t, rfl⟩ := ru
    rw [PyData.shown_int] at q
    have hl : i.natAbs.log2 < 1920 := by simpa only [PyData.showable, decide_eq_true_eq] using hs.2.1
    exact PySem.P.repr_of_int hl ⟨.str _, H, I.tok _, ⟨_, rfl⟩, q⟩
  | str y =>
    obtain ⟨t, rfl⟩ := ru
    rw [PyData.shown_str] at q hz
    exact PySem.P.repr_of_str ⟨.str _, H, I.tok _, ⟨_, rfl⟩, q⟩ hz
  | lst _ _ => exact ref _ ru
  | tup _ _ => exact ref _ ru
def dRepr : List D → Option D
  | [d] => if showOk d = true then some (.str d.shown) else none
  | _ => none
theorem cd_repr : CallD K (rRepr K) dRepr := by
  intro I H xs ds zs s p hz Q k
  cases p with
  | nil => cases hz
  | cons a b =>
    cases b with
    | nil =>
      have hz : (if _ then _ else none) = some zs := hz
      split at hz
      · rename_i hc
        cases hz
        exact ⟨_, _, rfl, (a.mono s).dpL (by unfold showOk PyData.layable0 at hc; simp only [Bool.and_eq_true] at hc; exact hc.1.1.1), hc, k _ I H (Pst.refl s) (.str (sok_shown hc))⟩
      · cases hz
    | cons _ _ => cases hz
end
/-! ### the law's start -/
def lawEC (N i : Nat) (c : Addr) : Env := ((List.replicate N SV.un).set 0 (.raw (.ref c))).set i .st
theorem law_startC {K : PySem.W.Frag} {N i : Nat} {m : MS Dc} {σ : St} {H : Hp} {g : Dc} {D : Ends} (hl : σ.length = N) (h0 : σ[0]? = some (some (.ref g.c))) (hi : σ[i]? = some (some (.ref g.s))) (ok : (drC K).ok g H) (hm : ∃ e g', m (lawEC N i g.c) g = some (.re (.bool true), e, g')) (k : ∀ H', D.rt (.bl true) H') :
    tS K (drC K) m D σ H := by
  obtain ⟨e, g', hm⟩ := hm
  refine ⟨⟨fun _ => none, fun _ => none, fun _ => none, (drC K).fp g, .ref g.s⟩, lawEC N i g.c, g, .re (.bool true), e, g', ?_, hm, fun v σ' I' H' s' R' p => by cases p; exact k H'⟩
  have at_ : ∀ k, (lawEC N i g.c).at k = .un ∨ (k = i ∧ (lawEC N i g.c).at k = .st) ∨ (k = 0 ∧ (lawEC N i g.c).at k = .raw (.ref g.c)) := fun k => by
    unfold lawEC
    rw [at_set]
    by_cases z : k = i ∧ i < ((List.replicate N SV.un).set 0 (.raw (.ref g.c))).length
    · rw [if_pos z]; exact .inr (.inl ⟨z.1, rfl⟩)
    · rw [if_neg z, at_set]
      by_cases z0 : k = 0 ∧ 0 < (List.replicate N SV.un).length
      · rw [if_pos z0]; exact .inr (.inr ⟨z0.1, rfl⟩)
      · rw [if_neg z0]
        refine .inl ?_
        show (List.replicate N SV.un).getD k .un = .un
        rw [List.getD_eq_getElem?_getD, List.getElem?_replicate]
        split <;> rfl
  exact {
    e0 := fun _ _ z => nomatch z
    eI := fun _ _ z => nomatch z
    ag := fun _ _ z => nomatch z
    ge := Same.refl _
    gfp := fun _ => Iff.rfl
    grt := rfl
    gok := ok
    fI := fun _ _ => rfl
    f0 := fun _ _ => rfl
    len := by unfold lawEC; rw [List.length_set, List.length_set, List.length_replicate]; exact hl
    slot := fun k => by
      rcases at_ k with e | ⟨rfl, e⟩ | ⟨rfl, e⟩
      · rw [e]; trivial
      · rw [e]; exact hi
      · rw [e]; exact h0
    dis := fun k j a _ e1 => by
      rcases at_ k with e | ⟨_, e⟩ | ⟨_, e⟩ <;> rw [e] at e1 <;> exact e1.elim }
/-- the state at the law's start -/
theorem drC_new {K : PySem.W.Frag} {H : Hp} {a q : Addr} {ns : List Int} (hS : SqL K H a (ns.map V.int)) (hq : H q = none) : ∃ g : Dc, g.s = q ∧ g.c = a ∧ g.ns = ns ∧ (drC K).ok g (upd H q (.lst [.int 0, .int 0])) := by
  rcases hS with h | h
  · have ne : q ≠ a := fun z => by subst z; rcases h with h | ⟨o, h⟩ <;> rw [hq] at h <;> cases h
    refine ⟨⟨q, a, true, 0, 0, ns⟩, rfl, rfl, rfl, upd_same, fun _ => ne, ?_⟩
    unfold ScrOk
    rw [if_pos rfl]
    show Rd (upd H q _) a _
    unfold Rd at h ⊢
    rw [upd_ne ne.symm]
    exact h
  · refine ⟨⟨q, a, false, 0, 0, ns⟩, rfl, rfl, rfl, upd_same, (fun z => nomatch z), ?_⟩
    unfold ScrOk
    rw [if_neg (by simp)]
    exact fun H' => .inr h
end Pd

/-! Pd: sorted(set(..)) of numbers, of tuples of numbers. -/
namespace Pd
open PySem PySem.Spec L2
/-! ### the sorted list without doubles, by a key -/
def insK {α : Type} (key : α → Int) (x : α) : List α → List α
  | [] => [x]
  | y :: ys => if key x < key y then x :: y :: ys else if key x = key y then y :: ys else y :: insK key x ys
def sortK {α : Type} (key : α → Int) : List α → List α
  | [] => []
  | x :: xs => insK key x (sortK key xs)
section
variable {α : Type} {key : α → Int}
theorem insK_mem {x z : α} : ∀ {l : List α}, z ∈ insK key x l → z = x ∨ z ∈ l
  | [], h => .inl (List.mem_singleton.mp h)
  | y :: ys, h => by
    unfold insK at h
    split at h
    · exact List.mem_cons.mp h
    · split at h
      · exact .inr h
      · rcases List.mem_cons.mp h with e | e
        · exact .inr (by rw [e]; exact List.mem_cons_self ..)
        · rcases insK_mem e with e | e
          · exact .inl e
          · exact .inr (List.mem_cons_of_mem _ e)
theorem insK_old {x z : α} : ∀ {l : List α}, z ∈ l → z ∈ insK key x l
  | y :: ys, h => by
    unfold insK
    split
    · exact List.mem_cons_of_mem _ h
    · split
      · exact h
      · rcases List.mem_cons.mp h with e | e
        · rw [e]; exact List.mem_cons_self ..
        · exact List.mem_cons_of_mem _ (insK_old e)
theorem insK_new {x : α} : ∀ {l : List α}, ∃ z ∈ insK key x l, key z = key x
  | [] => ⟨x, List.mem_singleton_self _, rfl⟩
  | y :: ys => by
    unfold insK
    split
    · exact ⟨x, List.mem_cons_self .., rfl⟩
    · split
      · rename_i h; exact ⟨y, List.mem_cons_self .., h.symm⟩
      · obtain ⟨z, h1, h2⟩ := insK_new (x := x) (l := ys)
        exact ⟨z, List.mem_cons_of_mem _ h1, h2⟩
theorem sortK_mem : ∀ {l : List α} {z : α}, z ∈ sortK key l → z ∈ l
  | x :: xs, z, h => by
    rcases insK_mem h with e | e
    · rw [e]; exact List.mem_cons_self ..
    · exact List.mem_cons_of_mem _ (sortK_mem e)
theorem sortK_has : ∀ {l : List α} {z : α}, z ∈ l → ∃ y ∈ sortK key l, key y = key z
  | x :: xs, z, h => by
    rcases List.mem_cons.mp h with e | e
    · rw [e]; exact insK_new
    · obtain ⟨y, h1, h2⟩ := sortK_has e
      exact ⟨y, insK_old h1, h2⟩
theorem insK_srt {x : α} : ∀ {l : List α}, l.Pairwise (fun a b => key a < key b) → (insK key x l).Pairwise fun a b => key a < key b
  | [], _ => List.pairwise_singleton _ _
  | y :: ys, h => by
    have h' := List.pairwise_cons.mp h
    unfold insK
    split
    · rename_i hxy
      refine List.pairwise_cons.mpr ⟨fun z hz => ?_, h⟩
      rcases List.mem_cons.mp hz with e | e
      · rw [e]; exact hxy
      · exact Int.lt_trans hxy (h'.1 z e)
    · split
      · exact h
      · rename_i h1 h2
        refine List.pairwise_cons.mpr ⟨fun z hz => ?_, insK_srt h'.2⟩
        rcases insK_mem hz with e | e
        · rw [e]; omega
        · exact h'.1 z e
theorem sortK_srt : ∀ l : List α, (sortK key l).Pairwise fun a b => key a < key b
  | [] => List.Pairwise.nil
  | x :: xs => insK_srt (sortK_srt xs)
theorem insK_len {x : α} : ∀ {l : List α}, (insK key x l).length ≤ l.length + 1
  | [] => Nat.le_refl _
  | y :: ys => by
    unfold insK
    split
    · exact Nat.le_refl _
    · split
      · exact Nat.le_succ _
      · rw [List.length_cons, List.length_cons]
        exact Nat.succ_le_succ insK_len
theorem sortK_len : ∀ l : List α, (sortK key l).length ≤ l.length
  | [] => Nat.le_refl _
  | x :: xs => Nat.le_trans insK_len (Nat.succ_le_succ (sortK_len xs))
/-- two rising lists of the same members are one -/
theorem rise_ext {P : α → Prop} (inj : ∀ a b, P a → P b → key a = key b → a = b) : ∀ {a b : List α}, (∀ x ∈ a, P x) → (∀ x ∈ b, P x) → a.Pairwise (fun x y => key x < key y) → b.Pairwise (fun x y => key x < key y) → (∀ x, x ∈ a ↔ x ∈ b) → a = b
  | [], [], _, _, _, _, _ => rfl
  | [], y :: _, _, _, _, _, h => nomatch (h y).mpr (List.mem_cons_self ..)
  | x :: _, [], _, _, _, _, h => nomatch (h x).mp (List.mem_cons_self ..)
  | x :: a, y :: b, pa, pb, ha, hb, h => by
    have ha' := List.pairwise_cons.mp ha
    have hb' := List.pairwise_cons.mp hb
    have e : x = y := by
      rcases List.mem_cons.mp ((h x).mp (List.mem_cons_self ..)) with e | e
      · exact e
      · rcases List.mem_cons.mp ((h y).mpr (List.mem_cons_self ..)) with e2 | e2
        · exact e2.symm
        · have h1 := hb'.1 x e
          have h2 := ha'.1 y e2
          omega
    subst e
    rw [rise_ext inj (fun z hz => pa z (List.mem_cons_of_mem _ hz)) (fun z hz => pb z (List.mem_cons_of_mem _ hz)) ha'.2 hb'.2 fun z => ⟨fun hz => ?_, fun hz => ?_⟩]
    · rcases List.mem_cons.mp ((h z).mp (List.mem_cons_of_mem _ hz)) with e | e
      · subst e
        have := ha'.1 z hz
        omega
      · exact e
    · rcases List.mem_cons.mp ((h z).mpr (List.mem_cons_of_mem _ hz)) with e | e
      · subst e
        have := hb'.1 z hz
        omega
      · exact e
end
/-- the data: all numbers, or all tuples of d numbers below 64 -/
def tupI : D → Option (List Int)
  | .tuple ds => intsD ds
  | _ => none
def tupsI : List D → Option (List (List Int))
  | [] => some []
  | d :: ds => match tupI d, tupsI ds with
    | some ns, some r => some (ns :: r)
    | _, _ => none
theorem tupsI_some : ∀ {ds : List D} {ks : List (List Int)}, tupsI ds = some ks → ds = ks.map fun ns => .tuple (ns.map .int)
  | [], ks, h => by cases h; rfl
  | d :: ds, ks, h => by
    unfold tupsI at h
    split at h
    · rename_i ns r e1 e2
      cases h
      rw [List.map_cons, ← tupsI_some e2]
      cases d with
      | tuple es => rw [intsD_some (show intsD es = some ns from e1)]
      | _ => cases e1
    · cases h
theorem tupsI_mm : ∀ ks : List (List Int), tupsI (ks.map fun ns => PyData.tuple (ns.map .int)) = some ks
  | [] => rfl
  | ns :: ks => by
    have e : ∀ l : List Int, intsD (l.map PyData.int) = some l := fun l => by
      induction l with
      | nil => rfl
      | cons x l ih => show (intsD (l.map PyData.int)).map (x :: ·) = _; rw [ih]; rfl
    show (match intsD (ns.map PyData.int), tupsI (ks.map fun ns => PyData.tuple (ns.map .int)) with
      | some ns, some r => some (ns :: r)
      | _, _ => none) = _
    rw [e, tupsI_mm ks]
def fitT (d : Nat) (ks : List (List Int)) : Bool := ks.all fun ns => decide (ns.length = d) && ns.all fun m => decide (0 ≤ m) && decide (m < 64)
def widthT : List (List Int) → Nat
  | [] => 1
  | ns :: _ => ns.length
def dSortedSet : List D → Option (List D)
  | [.list ds] => match intsD ds with
    | some ns => if ns.length < 64 then some ((sortK id ns).map .int) else none
    | none => match tupsI ds with
      | some ks => if ks.length < 64 ∧ 1 ≤ widthT ks ∧ fitT (widthT ks) ks = true then some ((sortK (TS.code 64) ks).map fun ns => .tuple (ns.map .int)) else none
      | none => none
  | _ => none
theorem code_eq {B : Int} : ∀ {a b : List Int}, a.length = b.length → TS.Bd B a → TS.Bd B b → TS.code B a = TS.code B b → a = b
  | [], [], _, _, _, _ => rfl
  | [], _ :: _, h, _, _, _ => nomatch h
  | _ :: _, [], h, _, _, _ => nomatch h
  | x :: a, y :: b, h, ha, hb, e => by
    have hl : a.length = b.length := Nat.succ.inj h
    rcases Int.lt_trichotomy x y with z | z | z
    · have := TS.code_lt hl ha.tail hb.tail z
      omega
    · subst z
      have e2 : TS.code B a = TS.code B b := by
        have e : x * B ^ a.length + TS.code B a = x * B ^ b.length + TS.code B b := e
        rw [hl] at e
        omega
      rw [code_eq hl ha.tail hb.tail e2]
    · have := TS.code_lt hl.symm hb.tail ha.tail z
      omega
theorem fitT_of {d : Nat} {ks : List (List Int)} (h : fitT d ks = true) : ∀ ns ∈ ks, ns.length = d ∧ TS.Bd 64 ns := by
  intro ns hn
  have := List.all_eq_true.mp h ns hn
  rw [Bool.and_eq_true, decide_eq_true_eq, List.all_eq_true] at this
  refine ⟨this.1, fun m hm => ?_⟩
  have := this.2 m hm
  rw [Bool.and_eq_true, decide_eq_true_eq, decide_eq_true_eq] at this
  exact this
/-- the tuples' addresses -/
theorem tups_rp {K : PySem.W.Frag} {I : Hp} : ∀ {ks : List (List Int)} {vs : List V}, RpA K I vs (ks.map fun ns => .tuple (ns.map .int)) → ∃ L : List (Addr × List Int), vs = L.map (fun p => V.ref p.1) ∧ L.map (·.2) = ks ∧ ∀ p ∈ L, SqT K I p.1 (p.2.map V.int)
  | [], _, h => by cases h; exact ⟨[], rfl, rfl, fun _ h => nomatch h⟩
  | ns :: ks, _, h => by
    cases h with
    | cons a b =>
      obtain ⟨L, rfl, e2, h⟩ := tups_rp b
      cases a with
      | tup hp ra hz =>
        rename_i ad xs
        have := ra.ints
        subst this
        exact ⟨(ad, ns) :: L, rfl, by rw [List.map_cons, e2], fun p hp' => by
          rcases List.mem_cons.mp hp' with e | e
          · rw [e]; exact hp
          · exact h p e⟩
theorem tups_of {K : PySem.W.Frag} {I : Hp} : ∀ {L : List (Addr × List Int)}, (∀ p ∈ L, SqT K I p.1 (p.2.map V.int) ∧ p.2.length ≤ sizeLine) → RpA K I (L.map fun p => V.ref p.1) ((L.map (·.2)).map fun ns => .tuple (ns.map .int))
  | [], _ => .nil
  | p :: L, h => .cons (.tup (h p (List.mem_cons_self ..)).1 (RpA.of_ints _) (by rw [List.length_map]; exact (h p (List.mem_cons_self ..)).2)) (tups_of fun q hq => h q (List.mem_cons_of_mem _ hq))
def rSST (K : PySem.W.Frag) (P : Program) (w : World) : List V → Hp → VK → Prop := fun vs H Q => rSetOfT K P w vs H fun v H2 => rSortedT K P w [v] H2 Q
theorem rSST_of {K : PySem.W.Frag} {P : Program} {w : World} {I H : Hp} {xs : List V} {ds zs : List D} {ks : List (List Int)} (s : Same I H) (p : RpA K I xs [.list ds]) (ek : tupsI ds = some ks) (hc : ks.length < 64 ∧ 1 ≤ widthT ks ∧ fitT (widthT ks) ks = true) (ez : zs = (sortK (TS.code 64) ks).map fun ns => .tuple (ns.map .int))
    {Q : VK} (k : ∀ p vs H', H p = none → Same H H' → H' p = some (.lst vs) → RpA K I vs zs → zs.length ≤ sizeLine → Q (.ref p) H') : rSST K P w xs H Q := by
  have ed := tupsI_some ek
  cases p with
  | cons a b =>
    cases b
    cases a with
    | lst hp ra hz =>
      rename_i l vs
      rw [ed] at ra hz
      obtain ⟨L, rfl, e2, hL⟩ := tups_rp ra
      have hlen : L.length = ks.length := by rw [← e2, List.length_map]
      have fit := fitT_of hc.2.2
      refine ⟨l, L, rfl, SqL.of (s _ _ hp), fun p hp' => same_t s (hL p hp'), by rw [hlen]; exact hc.1, fun a2 L2 hn hsub hall => ?_⟩
      have hs2 : Same H (upd H a2 (SetTO P w a2 L2)) := same_new hn
      have mem2 : ∀ p ∈ L2, p.2 ∈ ks := fun p hp' => by rw [← e2]; exact List.mem_map.mpr ⟨p, hsub p hp', rfl⟩
      refine ⟨a2, L2, widthT ks, 64, rfl, upd_same, fun p hp' => same_t hs2 (same_t s (hL p (hsub p hp'))), hc.2.1, fun p hp' => fit _ (mem2 p hp'), fun L3 q pm nd hl3 srt hq => ?_⟩
      have hq0 : H q = none := by
        by_cases z : q = a2
        · rw [z]; exact hn
        · rw [upd_ne z] at hq; exact hq
      have mem3 : ∀ p ∈ L3, p ∈ L := fun p hp' => hsub p (pm.mem_iff.mp hp')
      have em : L3.map (·.2) = sortK (TS.code 64) ks := by
        refine rise_ext (key := TS.code 64) (P := fun ns => ns.length = widthT ks ∧ TS.Bd 64 ns) (fun x y hx hy e => code_eq (by rw [hx.1, hy.1]) hx.2 hy.2 e) (fun x hx => ?_) (fun x hx => fit x (sortK_mem hx)) ?_ (sortK_srt _) fun x => ⟨fun hx => ?_, fun hx => ?_⟩
        · obtain ⟨p, hp', rfl⟩ := List.mem_map.mp hx
          exact fit _ (mem2 p (pm.mem_iff.mp hp'))
        · rw [List.pairwise_map]
          have nd' : L3.Pairwise fun p q => p.2 ≠ q.2 := List.pairwise_map.mp nd
          refine (srt.and nd').imp_of_mem fun {p q} hp' hq' h => ?_
          have fp := fit _ (mem2 p (pm.mem_iff.mp hp'))
          have fq := fit _ (mem2 q (pm.mem_iff.mp hq'))
          rcases Int.lt_or_eq_of_le h.1 with z | z
          · exact z
          · exact absurd (code_eq (by rw [fp.1, fq.1]) fp.2 fq.2 z) h.2
        · obtain ⟨p, hp', rfl⟩ := List.mem_map.mp hx
          obtain ⟨y, h1, h2⟩ := sortK_has (key := TS.code 64) (mem2 p (pm.mem_iff.mp hp'))
          have fp := fit _ (mem2 p (pm.mem_iff.mp hp'))
          have fy := fit _ (sortK_mem h1)
          rw [← code_eq (by rw [fy.1, fp.1]) fy.2 fp.2 h2]
          exact h1
        · have hx' := sortK_mem hx
          rw [← e2] at hx'
          obtain ⟨p, hp', rfl⟩ := List.mem_map.mp hx'
          obtain ⟨p2, h1, h2⟩ := List.mem_map.mp (hall p hp')
          exact List.mem_map.mpr ⟨p2, pm.mem_iff.mpr h1, h2⟩
      have hw : ∀ p ∈ L3, p.2.length ≤ sizeLine := fun p hp' => by
        have hm : PyData.tuple (p.2.map .int) ∈ ks.map fun ns => PyData.tuple (ns.map .int) := List.mem_map.mpr ⟨p.2, mem2 p (pm.mem_iff.mp hp'), rfl⟩
        obtain ⟨i, hi⟩ := List.getElem?_of_mem hm
        obtain ⟨v, _, rv⟩ := ra.get hi
        cases rv with
        | tup _ _ hz => rw [List.length_map] at hz; exact hz
      have r3 : RpA K I (L3.map fun p => V.ref p.1) zs := by
        rw [ez, ← em]
        exact tups_of fun p hp' => ⟨hL p (mem3 p hp'), hw p hp'⟩
      refine k q _ _ hq0 (hs2.trans (same_new hq)) upd_same r3 ?_
      rw [ez, List.length_map]
      have := sortK_len (key := TS.code 64) ks
      have : (64 : Nat) ≤ sizeLine := by decide
      omega
end Pd

/-! Pd: set(xs) of a list of numbers, sorted. -/
namespace Pd
open PySem PySem.Spec L2
/-- a set as it is made -/
abbrev bornSet (w : World) : Obj := { cls := .type "set", dict := none, data := .set #[] 0 (.fresh 0 0 (!w.params.followText "set-order")) }
section
variable {P : Program} {w : World} {A : Around} {E : Value → Shared → Prop} {s : Shared}
/-- what set(xs) leaves: the heap, the tokens, how many -/
def SetMade (w : World) (s : Shared) (ns : List Int) (h2 : Heap) (cnt : Nat) : Prop :=
  SetR w h2 s.heap.objs.size (fun j => decide (j ∈ ns)) cnt ∧ cnt ≤ ns.length ∧ ∀ x o, s.heap.get? x = some o → h2.get? x = some o
set_option maxHeartbeats 8000000 in
theorem setOf_ints {l : Addr} {its : Array Value} (ns : List Int) {Q : Value → Shared → Prop} (hd : A.handled = none) (hl : s.heap.IsList l its) (hi : PyProof.Rows.IntsAre its.toList ns) (hb : ns.length + 1 < scanBound)
    (fin : ∀ (h2 : Heap) (tk cnt : Nat), SetMade w s ns h2 cnt → Q (.ref s.heap.objs.size) { s with heap := h2, toks := tk }) : wpAny (model P w) A (call (.type "set") [.ref l]) Q E s := by
  have en : its.size = ns.length := by have := hi.length; simpa using this
  obtain ⟨_, _, m1⟩ := F.called_set.mro
  have m2 := F.called_set.made
  have m3 := F.called_set.sub
  apply wpAny_call
  apply codeAny_of_tree
  show wpAny _ _ (callAny (.type "set") _) _ _ _
  apply wpAny_pure
  refine ⟨Code.quiet_builtin _ (by decide +kernel), ?_⟩
  apply codeAny_builtin F.entry_type_call
  rw [Around.under_plain (weight_type_call_type "set" [.ref l] []) rfl]
  have m4 := F.called_set.notType
  have m5 := F.called_set.canCreate
  have m6 := F.typeCall_set_1 (.ref l)
  repeat (any_goals (first | assumption | wp_step))
  refine codeAny_mono (code_set_led1 (.ref l) (E := E) (Q₁ := fun ob t => ob = .ref s.heap.objs.size ∧ t = { s with heap := s.heap.push (bornSet w) }) ⟨rfl, rfl⟩) ?_
  rintro (e | fl) t z
  · exact z
  cases fl with
  | ret ob =>
    obtain ⟨rfl, rfl⟩ := z
    have at0 : (s.heap.push (bornSet w)).get? s.heap.objs.size = some (bornSet w) := Heap.get?_push_size _ rfl
    have ty0 : Shared.TypeIs { s with heap := s.heap.push (bornSet w) } (.ref s.heap.objs.size) "set" := ⟨_, at0, rfl⟩
    have i1 := F.called_set.init.lookup
    have i2 := F.called_set.init.bind (.ref s.heap.objs.size)
    repeat (any_goals (first | assumption | wp_step))
    refine codeAny_mono (codeAny_call_builtin (R := wants (fun r t => r = .none ∧ ∃ h2 tk cnt, t = { s with heap := h2, toks := tk } ∧ SetMade w s ns h2 cnt) E) F.called_set.init.plain F.entry_set_init (check_set_init_1 ty0 ?_)) ?_
    · obtain ⟨⟨lc, ld, ldt, lsl⟩, hol, hcl, nl, hdl⟩ := hl
      simp only at hcl hdl
      subst hcl
      subst hdl
      have at1 : (s.heap.push (bornSet w)).get? l = some { cls := .type "list", dict := ld, data := .seq its nl, slots := lsl } := Heap.get?_push_of_some _ hol
      have u1 := F.sub_list_set
      have u2 := F.sub_list_frozenset
      have u3 : (Value.type "list" == Value.type "dict") = false := by decide
      have isl : (s.heap.push (bornSet w)).IsList l its := ⟨_, at1, rfl, nl, rfl⟩
      unfold Builtin.«set.__init__» noKeywords Builtin.Frozenset.updateFrom
      generalize ep : pyIter = PI
      wp_walk
      subst ep
      refine wpAny_pyIter_list isl ?_
      apply wpAny_bind
      apply wpAny_runValue
      have lt : l < s.heap.objs.size := Heap.lt_size hol
      have q3 : A.in1.in1.in1.handled = none := by simp [hd]
      have sz : (s.heap.push (bornSet w)).objs.size = s.heap.objs.size + 1 := Heap.size_push ..
      have n1 : l ≠ (s.heap.push (bornSet w)).objs.size := by rw [sz]; exact Nat.ne_of_lt (Nat.lt_succ_of_lt lt)
      have n2 : s.heap.objs.size ∉ [(s.heap.push (bornSet w)).objs.size, l] := by
        rw [sz]
        simp only [List.mem_cons, List.not_mem_nil, or_false, not_or]
        exact ⟨Nat.ne_of_lt (Nat.lt_succ_self _), Nat.ne_of_gt lt⟩
      have each : ∀ (i : Nat) (v : Value), its[i]? = some v → ∃ k t, ns[i]? = some k ∧ v = .int k t := by
        intro i v hv
        have lt2 : i < ns.length := by rw [← en]; exact (Array.getElem?_eq_some_iff.mp hv).1
        obtain ⟨t, e⟩ := PyProof.Rows.IntsAre.int_at hi i v (by rw [Array.getElem?_toList]; exact hv)
        have eg := List.getElem?_eq_getElem lt2
        rw [List.getD_eq_getElem?_getD, eg] at e
        exact ⟨_, t, eg, e⟩
      refine set_update_ints ((Walks.list q3 _ l n1 its).toS) s.heap.objs.size n2 ns en hb each (its.size - 0) 0 _ (by omega) (Nat.zero_le _)
        ⟨⟨_, Heap.get?_push_size _ rfl, rfl, rfl⟩, (isl.push _)⟩ ⟨0, Nat.le_refl 0, setR_new_at (Heap.get?_push_of_some _ at0)⟩ ?_
      rintro ⟨h2, g2, d2, tk2, os2⟩ cnt mv hc hS
      have x1 : g2 = s.gens := mv.gens
      have x2 : d2 = s.drawn := mv.drawn
      have x3 : os2 = s.os := mv.os
      subst x1
      subst x2
      subst x3
      show wpAny _ _ _ _ _ _
      apply wpAny_pure
      show wpAny _ _ (ret Value.none) _ _ _
      apply wpAny_pure
      refine ⟨rfl, h2, tk2, cnt, rfl, hS, by omega, fun x o e => ?_⟩
      have lt3 : x < s.heap.objs.size := Heap.lt_size e
      refine mv.heap x o ?_ (Heap.get?_push_of_some _ (Heap.get?_push_of_some _ e))
      rw [sz]
      simp only [List.mem_cons, List.not_mem_nil, or_false, not_or]
      exact ⟨Nat.ne_of_lt lt3, Nat.ne_of_lt (Nat.lt_succ_of_lt lt3)⟩
    · rintro (e | f2) t z
      · exact z
      cases f2 with
      | ret r =>
        obtain ⟨rfl, h2, tk, cnt, rfl, made⟩ := z
        repeat (any_goals (first | assumption | wp_step))
        exact fin _ _ _ made
      | _ => exact z.elim
  | _ => exact z.elim
end
section
variable {G : Type} {X : Cx} {S : Gs G} {K : PySem.W.Frag}
def rSetI (K : PySem.W.Frag) (w : World) : List V → Hp → VK → Prop := fun xs H Q => ∃ (l : Addr) (ns : List Int), xs = [V.ref l] ∧ SqL K H l (ns.map V.int) ∧ ns.length < 64 ∧
  ∀ a cnt, H a = none → cnt ≤ ns.length → Q (.ref a) (upd H a (SetO w a (fun j => decide (j ∈ ns)) cnt))
theorem cr_setI (hc : X.calm = true) : CallR X (.type "set") (rSetI X.K X.w) := by
  intro pins s σ H xs us Q I r h
  obtain ⟨l, ns, rfl, hl, h64, q⟩ := h
  rw [Vals.ref1 r]
  obtain ⟨its, rv, pl, hz⟩ := I.list hl
  have hn : H s.heap.objs.size = none := I.hok.fresh (Nat.le_refl _)
  refine setOf_ints (P := X.prog) (w := X.w) ns (I.ok.hd hc) pl.isList (by simpa using rv.ints) (by unfold scanBound; omega) fun h2 tk cnt hm => ?_
  obtain ⟨hS, hcnt, kp⟩ := hm
  exact ⟨.ref s.heap.objs.size, _, I.laid (t' := tk) kp (Nat.le_refl _) (setO_new hS), rfl, q _ cnt hn hcnt⟩
def rSSI (K : PySem.W.Frag) (w : World) : List V → Hp → VK → Prop := fun vs H Q => rSetI K w vs H fun v H2 => rSortedSet w [v] H2 Q
theorem rSSI_of {w : World} {I H : Hp} {xs : List V} {ds zs : List D} {ns : List Int} (s : Same I H) (p : RpA K I xs [.list ds]) (en : intsD ds = some ns) (hc : ns.length < 64) (ez : zs = (sortK id ns).map .int)
    {Q : VK} (k : ∀ p vs H', H p = none → Same H H' → H' p = some (.lst vs) → RpA K I vs zs → zs.length ≤ sizeLine → Q (.ref p) H') : rSSI K w xs H Q := by
  have ed := intsD_some en
  cases p with
  | cons a b =>
    cases b
    cases a with
    | lst hp ra hz =>
      rename_i l vs
      rw [ed] at ra hz
      have := ra.ints
      subst this
      refine ⟨l, ns, rfl, SqL.of (s _ _ hp), hc, fun a2 cnt hn hcnt => ?_⟩
      refine ⟨a2, _, cnt, rfl, upd_same, by omega, fun out q srt mem hl hq => ?_⟩
      have hq0 : H q = none := by
        by_cases z : q = a2
        · rw [z]; exact hn
        · rw [upd_ne z] at hq; exact hq
      have em : out = sortK id ns := by
        refine rise_ext (key := id) (P := fun _ => True) (fun x y _ _ e => e) (fun _ _ => trivial) (fun _ _ => trivial) srt (sortK_srt _) fun x => ⟨fun hx => ?_, fun hx => ?_⟩
        · have hx := (mem x).mp hx
          obtain ⟨y, h1, h2⟩ := sortK_has (key := id) (of_decide_eq_true hx)
          have h2 : y = x := h2
          rw [← h2]
          exact h1
        · exact (mem x).mpr (decide_eq_true (sortK_mem hx))
      refine k q _ _ hq0 ((same_new hn).trans (same_new hq)) upd_same (by rw [ez, em]; exact RpA.of_ints _) ?_
      rw [ez, List.length_map]
      have := sortK_len (key := id) ns
      have : (64 : Nat) ≤ sizeLine := by decide
      omega
/-- sorted(set(e)) -/
theorem df_sortedSet {e : Expr} {ml : ML G} {p q q2 pos : Pos} (hc : X.calm = true) (hu : X.A.units + 65 < cLine) (hg : Gl X "sorted") (hm : X.mg "sorted" = none) (hg2 : Gl X "set") (hm2 : X.mg "set" = none) (ha : DA X S [e] ml)
    (he : starEach [e] X.env = (false, eval e X.env) :: starEach [] X.env := by rfl) (hpl : (backTo q2 (starEach [] X.env)).any (·.1) = false := by rfl)
    (he2 : starEach [.Call (.Name "set" q) [e] [] q2] X.env = (false, eval (.Call (.Name "set" q) [e] [] q2) X.env) :: starEach [] X.env := by rfl) (hpl2 : (backTo pos (starEach [] X.env)).any (·.1) = false := by rfl) :
    DF X S (.Call (.Name "sorted" p) [.Call (.Name "set" q) [e] [] q2] [] pos) (mCallF dSortedSet ml) := by
  have h1 := pe_callB (pos := pos) (p := p) (cr_sortedSet hc) hg hm (by decide +kernel) (pa_cons (pe_callTy (pos := q2) (p := q) (cr_setI hc) hg2 hm2 (by decide +kernel) ha (by decide) (by decide) he hpl) pa_nil he2) (by decide) (by decide) he2 hpl2
  have h2 := pe_callB (pos := pos) (p := p) (cr_sortedT hc) hg hm (by decide +kernel) (pa_cons (pe_callTy (pos := q2) (p := q) (cr_setOfT hc (by omega)) hg2 hm2 (by decide +kernel) ha (by decide) (by decide) he hpl) pa_nil he2) (by decide) (by decide) he2 hpl2
  refine ⟨fun pins s σ H Q I hq => ?_⟩
  obtain ⟨w, env, g, d, g', R, e0, k⟩ := hq
  obtain ⟨xs, g1, e1, e3⟩ := bD_some e0
  obtain ⟨e3, rfl⟩ := map_some e3
  unfold dSortedSet at e3
  split at e3
  · rename_i ds
    split at e3
    · rename_i ns en
      split at e3
      · rename_i hc64
        cases e3
        exact h1.run pins s σ H Q I ⟨w, env, g, _, g', R, e1, fun vs I1 H1 s1 R1 p1 => rSSI_of R1.eI p1 en hc64 rfl fun p us H3 h0 sm hp ra z => k p us I1 H3 s1 (Rel.fresh (p := p) R1 sm) (R1.nobS h0 sm) hp ra z⟩
      · cases e3
    · split at e3
      · rename_i ks ek
        split at e3
        · rename_i hcc
          cases e3
          exact h2.run pins s σ H Q I ⟨w, env, g, _, g', R, e1, fun vs I1 H1 s1 R1 p1 => rSST_of R1.eI p1 ek hcc rfl fun p us H3 h0 sm hp ra z => k p us I1 H3 s1 (Rel.fresh (p := p) R1 sm) (R1.nobS h0 sm) hp ra z⟩
        · cases e3
      · cases e3
  · cases e3
end
end Pd

/-! Pd: in, of data; dicts of texts that stand; a module's tuples. -/
namespace Pd
open PySem PySem.Spec L2
section
variable {G : Type} {X : Cx} {S : Gs G} {K : PySem.W.Frag} {a b e : Expr} {es : List Expr} {pos : Pos} {ma mb me : ME G} {ml : ML G} {mg : Str → Option Value}
variable {w : Wd} {env env' : Env} {g g' g1 g2 g3 : G} {σ : St} {H H' I' : Hp}
/-! ### in, deep -/
def rInDD (K : PySem.W.Frag) (neg : Bool) : R2 := fun x y H Q => ∃ d ds, Dp K H x d ∧ (Dp K H y (.list ds) ∨ (neg = false ∧ Dp K H y (.tuple ds))) ∧ SeqAt.shaped d = true ∧ SeqAt.shaped (.list ds) = true ∧ Q (.bl (if neg then !ds.any (fun z => PyData.eqv z d) else ds.any fun z => PyData.eqv z d)) H
theorem op_inDD (hu : X.A.units + 65 < cLine) : OpR X (compareOp .In) (rInDD X.K false) := by
  intro pins s σ H x y v u Q I rx ry h
  obtain ⟨d, ds, hd, he, sd, se, q⟩ := h
  obtain ⟨as, r1⟩ := Dp.reads I d x v hd rx
  rcases he with he | ⟨_, he⟩
  · obtain ⟨bs, r2⟩ := Dp.reads I (.list ds) y u he ry
    exact SeqAt.in_list_reads r2 r1 (SeqAt.canLay_of_shaped se) (SeqAt.canLay_of_shaped sd) (PyProof.Rows.room_in_shaped sd hu) ⟨.bl _, H, I, rfl, q⟩
  · obtain ⟨bs, r2⟩ := Dp.reads I (.tuple ds) y u he ry
    exact SeqAt.in_tuple_reads r2 r1 (SeqAt.canLay_of_shaped se) (SeqAt.canLay_of_shaped sd) (PyProof.Rows.room_in_shaped sd hu) ⟨.bl _, H, I, rfl, q⟩
theorem op_notInDD (hu : X.A.units + 65 < cLine) : OpR X (compareOp .NotIn) (rInDD X.K true) := by
  intro pins s σ H x y v u Q I rx ry h
  obtain ⟨d, ds, hd, he, sd, se, q⟩ := h
  obtain ⟨as, r1⟩ := Dp.reads I d x v hd rx
  rcases he with he | ⟨z, _⟩
  · obtain ⟨bs, r2⟩ := Dp.reads I (.list ds) y u he ry
    exact SeqAt.notIn_list_reads r2 r1 (SeqAt.canLay_of_shaped se) (SeqAt.canLay_of_shaped sd) (PyProof.Rows.room_in_shaped sd hu) ⟨.bl _, H, I, rfl, q⟩
  · cases z
def dInD (neg : Bool) : D → D → Option D
  | x, .list ds => if x.depth ≤ 64 ∧ (PyData.list ds).depth ≤ 64 then some (.bool (if neg then !ds.any (fun z => PyData.eqv z x) else ds.any fun z => PyData.eqv z x)) else none
  | x, .tuple ds => if neg = false ∧ x.depth ≤ 64 ∧ (PyData.list ds).depth ≤ 64 then some (.bool (if neg then !ds.any (fun z => PyData.eqv z x) else ds.any fun z => PyData.eqv z x)) else none
  | _, _ => none
theorem shaped_list {I : Hp} {vs : List V} {ds : List D} (ra : RpA K I vs ds) (hd : (PyData.list ds).depth ≤ 64) : SeqAt.shaped (.list ds) = true := by
  unfold SeqAt.shaped
  rw [Bool.and_eq_true]
  refine ⟨?_, by simpa using hd⟩
  simp only [PyData.canLay0]
  exact ra.lay (by simp only [PyData.depth] at hd; omega)
theorem od_inD (neg : Bool) : OpD K (rInDD K neg) (dInD neg) := by
  intro I H x y d e z s p q hz Q k
  cases q with
  | lst hq ra hl =>
    have hz : (if _ then _ else none) = some z := hz
    split at hz
    · rename_i hc
      cases hz
      exact ⟨d, _, (p.mono s).dp hc.1, .inl ((Rp.mono s (.lst hq ra hl)).dp hc.2), shaped_of p hc.1, shaped_list ra hc.2, k _ I H (Pst.refl s) (.bl _)⟩
    · cases hz
  | tup hq ra hl =>
    have hz : (if _ then _ else none) = some z := hz
    split at hz
    · rename_i hc
      cases hz
      exact ⟨d, _, (p.mono s).dp hc.2.1, .inr ⟨hc.1, (Rp.mono s (.tup hq ra hl)).dp hc.2.2⟩, shaped_of p hc.2.1, shaped_list ra hc.2.2, k _ I H (Pst.refl s) (.bl _)⟩
    · cases hz
  | _ => cases hz
/-! ### a dict of texts -/
theorem Rel.putKd {i : Nat} {v : V} {kvs : List (Str × D)} (R : Rel K S w env g σ H) (r : KdOk K w.I v kvs) : Rel K S w (env.set i (.kd kvs)) g (σ.set i (some v)) H :=
  R.put (fun k e _ => ⟨v, e, r⟩) fun a z => z.elim
def tKd {G : Type} (K : PySem.W.Frag) (S : Gs G) (ks : List Str) (ml : ML G) : St → Hp → (List (V × V) → Hp → Prop) → Prop := fun σ H Q => ∃ w env g ds g', Rel K S w env g σ H ∧ ml env g = some (ds, g') ∧ ds.length = ks.length ∧
  ∀ vs I' H', Same w.I I' → Rel K S (w.im I') env g' σ H' → RpA K I' vs ds → Q ((ks.zip vs).map fun p => (V.str p.1, p.2)) H'
structure DPs {G : Type} (X : Cx) (S : Gs G) (pos : Pos) (keys : List (Option Expr)) (values : List Expr) (ks : List Str) (ml : ML G) : Prop where
  pp : ∃ trs, PPs X pos keys values trs ∧ ∀ σ H Q, tKd X.K S ks ml σ H Q → tPairs trs σ H Q
theorem dps_nil : DPs X S pos [] [] [] mNil := ⟨[], pps_nil, fun σ H Q ⟨w, env, g, ds, g', R, e, _, k⟩ => by
  cases e
  exact k [] w.I H (Same.refl _) R .nil⟩
theorem dps_cons {k : Str} {j : Nat} {kp : Pos} {keys : List (Option Expr)} {v : Expr} {values : List Expr} {ks : List Str} {mv : ME G} (hv : DE X S v mv) (hr : DPs X S pos keys values ks ml) : DPs X S pos (some (.Constant (.str k) j kp) :: keys) (v :: values) (k :: ks) (mCons mv ml) := by
  obtain ⟨trs, hp, ht⟩ := hr.pp
  refine ⟨_, pps_cons pe_str hv hp, fun σ H Q ⟨w, env, g, ds, g', R, e, hl, kk⟩ => ?_⟩
  obtain ⟨x, g1, e1, e⟩ := bD_some e
  obtain ⟨xs, g2, e2, e⟩ := bD_some e
  cases e
  refine ⟨w, env, g, x, g1, R, e1, fun u I1 H1 s1 R1 p1 => ht _ _ _ ⟨w.im I1, env, g1, xs, g', R1, e2, Nat.succ.inj hl, fun vs I2 H2 s2 R2 ra => kk (u :: vs) I2 H2 (s1.trans s2) R2 (.cons (p1.mono s2) ra)⟩⟩
theorem merge_nd : ∀ (more acc : List (Key × V)), ((acc ++ more).map (·.1)).Nodup → mergeK acc more = acc ++ more
  | [], acc, _ => by rw [List.append_nil]; rfl
  | p :: more, acc, h => by
    have h2 : putK acc p.1 p.2 = acc ++ [p] := by
      unfold putK
      rw [if_neg]
      intro z
      obtain ⟨q, hq, e⟩ := List.any_eq_true.mp z
      have e := of_decide_eq_true e
      rw [List.map_append, List.nodup_append] at h
      exact h.2.2 q.1 (List.mem_map.mpr ⟨q, hq, rfl⟩) p.1 (List.mem_map.mpr ⟨p, List.mem_cons_self .., rfl⟩) e
    show mergeK (putK acc p.1 p.2) more = _
    rw [h2, merge_nd more (acc ++ [p]) (by rw [List.append_assoc]; exact h), List.append_assoc]
    rfl
def mSetKd (i : Nat) (ks : List Str) (ml : ML G) : MS G := fun env g => bD (ml env g) fun ds g1 => if ds.length = ks.length then some (.nx, env.set i (.kd (ks.zip ds)), g1) else none
theorem zip_fst {α β : Type} : ∀ {l : List α} {m : List β}, l.length = m.length → (l.zip m).map (·.1) = l
  | [], _, _ => rfl
  | _ :: _, [], h => nomatch h
  | x :: l, y :: m, h => by rw [List.zip_cons_cons, List.map_cons, zip_fst (Nat.succ.inj h)]
theorem zip_snd {α β : Type} : ∀ {l : List α} {m : List β}, l.length = m.length → (l.zip m).map (·.2) = m
  | [], [], _ => rfl
  | [], _ :: _, h => nomatch h
  | _ :: _, [], h => nomatch h
  | x :: l, y :: m, h => by rw [List.zip_cons_cons, List.map_cons, zip_snd (Nat.succ.inj h)]
theorem ds_setKd {i : Nat} {x : Str} {pos' dp : Pos} {keys : List (Option Expr)} {values : List Expr} {ks : List Str} (hN : X.N.Nodup) (hi : X.N[i]? = some x) (hx : Loc X.env.scope x) (hd : DPs X S dp keys values ks ml)
    (hks : ks.Nodup ∧ ks.length ≤ 15) (hall : keys.all (·.isSome) = true := by rfl) (hl : keys.length = values.length := by rfl) (h0 : keys ≠ [] := by simp) (h15 : keys.length ≤ 15 := by decide)
    (hs : swapsWith (.Dict keys values dp) (some (.Name x pos')) pos.line X.env = pure false := by rfl) (hf : X.fn x = true ∨ X.env.scope.names.lookup x = some .local := by first | exact .inl rfl | exact .inr rfl | assumption) :
    DS X S (.Assign [.Name x pos'] (.Dict keys values dp) pos) (mSetKd i ks ml) := by
  obtain ⟨trs, hp, ht⟩ := hd.pp
  refine PS.imp (ps_set hN hi hx (pe_disp hp hall hl h0 h15) hs hf) fun D σ H h => ?_
  obtain ⟨w, env, g, c, env', g', R, e, k⟩ := h
  obtain ⟨ds, g1, e1, e⟩ := bD_some e
  split at e
  · rename_i hlen
    cases e
    intro p h0
    have n := R.nob (o := .dK []) h0
    have R1 := (R.alloc (o := .dK []) h0).hold n upd_same
    refine ht _ _ _ ⟨w.hold p (.dK []), env, g, ds, g', R1, e1, hlen, fun vs I1 H1 s1 R2 ra => ?_⟩
    have hvl : ks.length = vs.length := by rw [ra.len, hlen]
    let kvs : List (Key × V) := (ks.zip vs).map fun q => (Sum.inr q.1, q.2)
    have hk1 : kvs.map (·.1) = ks.map Sum.inr := by
      show ((ks.zip vs).map fun q => ((Sum.inr q.1 : Key), q.2)).map (·.1) = _
      rw [List.map_map]
      have : ((·.1) ∘ fun q : Str × V => ((Sum.inr q.1 : Key), q.2)) = (Sum.inr ∘ (·.1)) := rfl
      rw [this, ← List.map_map, zip_fst hvl]
    have hk2 : kvs.map (·.2) = vs := by
      show ((ks.zip vs).map fun q => ((Sum.inr q.1 : Key), q.2)).map (·.2) = _
      rw [List.map_map]
      exact zip_snd hvl
    have hm : mergeK [] kvs = kvs := merge_nd kvs [] (by
      rw [List.nil_append, hk1]
      exact List.pairwise_map.mpr (hks.1.imp fun h e => h (Sum.inr.inj e)))
    have R2' : Rel X.K S ((w.im I1).hold p (.dK [])) env g' σ H1 := R2
    obtain ⟨R3, n3, hp1⟩ := R2'.unhold (u := .dK (mergeK [] kvs)) n.h0 (R.ge.free n.i)
    refine ⟨hp1, kvs, ?_, ?_, ?_⟩
    · show (ks.zip vs).map (fun q => (V.str q.1, q.2)) = ((ks.zip vs).map fun q => ((Sum.inr q.1 : Key), q.2)).map fun kv => (kV kv.1, kv.2)
      rw [List.map_map]
      rfl
    · show ((ks.zip vs).map _).length ≤ 15
      rw [List.length_map, List.length_zip]
      have := hks.2
      omega
    · have R4 := R3.freeze n3 upd_same
      have s2 : Same w.I (upd I1 p (.dK (mergeK [] kvs))) := Same.trans s1 (same_new n3.i)
      refine k _ _ _ s2 (R4.putKd ⟨p, kvs, rfl, ?_, ?_, ?_⟩)
      · show upd I1 p _ p = _
        rw [upd_same, hm]
      · rw [hk1]
        rw [show (ks.zip ds).map (fun q => (Sum.inr q.1 : Key)) = ((ks.zip ds).map (·.1)).map Sum.inr by rw [List.map_map]; rfl, zip_fst hlen.symm]
      · rw [hk2, zip_snd hlen.symm]
        exact ra.mono (same_new n3.i)
  · cases e
def mKdIx (j : Nat) (mi : ME G) : ME G := fun env g => bD (mi env g) fun i g1 => match env.at j, i with
  | .kd kvs, .str s => (kvs.find? fun p => decide (p.1 = s)).map fun p => (p.2, g1)
  | _, _ => none
theorem kd_find : ∀ {kvs : List (Str × D)} {vs : List (Key × V)} {s : Str} {q : Str × D} {I : Hp}, vs.map (·.1) = kvs.map (fun p => Sum.inr p.1) → RpA K I (vs.map (·.2)) (kvs.map (·.2)) → kvs.find? (fun p => decide (p.1 = s)) = some q → ∃ v, valV vs (Sum.inr s) = some v ∧ Rp K I v q.2
  | p :: kvs, [], s, q, I, h, _, _ => nomatch h
  | p :: kvs, u :: vs, s, q, I, h, r, hf => by
    rw [List.map_cons, List.map_cons] at h r
    obtain ⟨h1, h2⟩ := List.cons.inj h
    cases r with
    | cons r1 r2 =>
      by_cases e : p.1 = s
      · rw [List.find?_cons_of_pos (by simpa using e)] at hf
        cases hf
        exact ⟨u.2, valV_pos (by rw [h1, e]), r1⟩
      · rw [List.find?_cons_of_neg (by simpa using e)] at hf
        obtain ⟨v, e1, e2⟩ := kd_find h2 r2 hf
        exact ⟨v, (valV_neg (by rw [h1]; exact fun z => e (Sum.inr.inj z))).trans e1, e2⟩
theorem de_kdIx (j : Nat) {x : Str} {xp : Pos} {i : Expr} {mi : ME G} (hu : X.A.units + 65 < cLine) (hi : DE X S i mi) (hN : X.N[j]? = some x := by rfl) (hv : Vis X.env.scope x := by first | exact Or.inl rfl | exact Or.inr (Or.inl rfl) | exact Or.inr (Or.inr rfl)) (hd : (x == ("__debug__" : Str)) = false := by decide)
    (hcd : (x == ("__classdict__" : Str)) = false := by decide) (hs : NoSl i := by exact fun _ _ => rfl) : DE X S (.Subscript (.Name x xp) i pos) (mKdIx j mi) := PE.imp (pe_dget (by omega) (pe_var hN hv hd hcd) hi hs) fun σ H Q ⟨w, env, g, d, g', R, e, k⟩ => by
  obtain ⟨i, g1, e1, e⟩ := bD_some e
  split at e
  · rename_i kvs s ej
    obtain ⟨q, hq, e⟩ := Option.map_eq_some_iff.mp e
    cases e
    have sl := R.slot j
    rw [ej] at sl
    obtain ⟨v, sj, _⟩ := sl
    refine ⟨_, sj, w, env, g, _, g', R, e1, fun u I2 H2 s2 R2 p2 => ?_⟩
    cases p2 with
    | str hs =>
      have sl2 := R2.slot j
      rw [ej] at sl2
      obtain ⟨v2, sj2, a, vs, e3, e4, e5, r⟩ := sl2
      rw [sj] at sj2
      cases sj2
      obtain ⟨v', h1, h2⟩ := kd_find e5 r hq
      refine ⟨a, v', e3, ?_, k v' I2 H2 s2 R2 h2⟩
      rw [← h1]
      exact DGet.k (k := Sum.inr s) (R2.eI _ _ e4)
  · cases e
/-! ### a module's tuple -/
theorem Cst.tup {x : Str} {a : Addr} {od : Option Addr} {sl : Array (Option Value)} {n : Nat} {its : Array Value} {vs : List V} {ds : List D} (h : mg x = some (.ref a)) (lk : K.lookup a = some ⟨.type "tuple", od, .seq its n, sl⟩) (hv : Vals vs its.toList) (hd : ∀ H, RpA K H vs ds)
    (hl : its.size ≤ sizeLine := by exact Nat.le_of_ble_eq_true rfl) (hl2 : ds.length ≤ sizeLine := by exact Nat.le_of_ble_eq_true rfl) : Cst K mg x (.tuple ds) := ⟨_, .ref a, h, rfl, fun H => .tup (.inr ⟨_, its, n, lk, rfl, rfl, hl, hv⟩) (hd H) hl2⟩
end
end Pd

/-! Pd: > of scalars. -/
namespace Pd
open PySem PySem.Spec L2
section
variable {X : Cx} {K : PySem.W.Frag}
theorem op_gt_bl : OpR X (compareOp .Gt) (fun x y H Q => ∃ p q, x = .bl p ∧ y = .bl q ∧ Q (.bl (p && !q)) H) := by
  intro pins s σ H x y v u Q I rx ry h
  obtain ⟨p, q, rfl, rfl, k⟩ := h
  cases (show v = Value.bool p from rx)
  cases (show u = Value.bool q from ry)
  refine PyProof.Rows.gt_bool ⟨.bl (p && !q), H, I, ?_, k⟩
  cases p <;> cases q <;> rfl
abbrev rGtS : R2 := fun x y H Q => rI0 (fun i j => .bl (decide (j < i))) x y H Q ∨ ((∃ i j, x = .str i ∧ y = .str j ∧ Q (.bl (decide (j.cps.toList < i.cps.toList))) H) ∨ ∃ p q, x = .bl p ∧ y = .bl q ∧ Q (.bl (p && !q)) H)
theorem op_gtS : OpR X (compareOp .Gt) rGtS := op_gt.or (op_gt_str.or op_gt_bl)
def dGtS : D → D → Option D
  | .int i, .int j => some (.bool (decide (j < i)))
  | .str i, .str j => some (.bool (decide (j.cps.toList < i.cps.toList)))
  | .bool p, .bool q => some (.bool (p && !q))
  | _, _ => none
theorem od_gtS : OpD K rGtS dGtS := by
  intro I H x y d e z s p q hz Q k
  cases p with
  | int i =>
    cases q with
    | int j => cases hz; exact .inl ⟨i, j, rfl, rfl, k _ I H (Pst.refl s) (.bl _)⟩
    | _ => cases hz
  | str h =>
    cases q with
    | str h' => cases hz; exact .inr (.inl ⟨_, _, rfl, rfl, k _ I H (Pst.refl s) (.bl _)⟩)
    | _ => cases hz
  | bl a =>
    cases q with
    | bl b => cases hz; exact .inr (.inr ⟨a, b, rfl, rfl, k _ I H (Pst.refl s) (.bl _)⟩)
    | _ => cases hz
  | _ => cases hz
end
end Pd

/-! Pd: dicts of one's own: locked for one look. -/
namespace Pd
open PySem PySem.Spec L2
/-! ### I without a place -/
def drp (I : Hp) (a : Addr) : Hp := fun b => if b = a then none else I b
theorem drp_ne {I : Hp} {a b : Addr} (h : b ≠ a) : drp I a b = I b := if_neg h
theorem drp_eq {I : Hp} {a : Addr} : drp I a a = none := if_pos rfl
theorem drp_sub {I : Hp} {a : Addr} : Same (drp I a) I := fun b u q => by
  by_cases z : b = a
  · rw [z, drp_eq] at q; cases q
  · rw [drp_ne z] at q; exact q
section
variable {K : PySem.W.Frag} {I : Hp} {a : Addr} {od : Obj} {ks : List (Key × V)}
mutual
theorem Rp.shr (h : I a = some (.frz od (.dK ks))) : ∀ {d : D} {v : V}, Rp K I v d → Rp K (drp I a) v d
  | .none, _, r => by cases r; exact .non
  | .bool _, _, r => by cases r; exact .bl _
  | .int _, _, r => by cases r; exact .int _
  | .str _, _, r => by cases r with | str z => exact .str z
  | .list ds, _, r => by
    cases r with
    | lst x y z =>
      exact .lst ((drp_ne fun e => by rw [e, h] at x; cases x).trans x) (RpA.shr h y) z
  | .tuple ds, _, r => by
    cases r with
    | @tup b xs _ x y z =>
      refine .tup ?_ (RpA.shr h y) z
      rcases x with (x | ⟨o, x⟩) | x
      · exact .inl (.inl ((drp_ne fun e => by rw [e, h] at x; cases x).trans x))
      · exact .inl (.inr ⟨o, (drp_ne fun e => by rw [e, h] at x; cases x).trans x⟩)
      · exact .inr x
  | .dict _, _, r => by cases r with | emp x => exact .emp ((drp_ne fun e => by rw [e, h] at x; cases x).trans x)
theorem RpA.shr (h : I a = some (.frz od (.dK ks))) : ∀ {ds : List D} {vs : List V}, RpA K I vs ds → RpA K (drp I a) vs ds
  | [], _, r => by cases r; exact .nil
  | _ :: _, _, r => by cases r with | cons x y => exact .cons (Rp.shr h x) (RpA.shr h y)
end
theorem T1Ok.shr {H : Hp} {v : V} {t : T1} (h : I a = some (.frz od (.dK ks))) (r : T1Ok K I H v t) : T1Ok K (drp I a) H v t := by
  cases t with
  | lf d => exact Rp.shr h r
  | ls xs => obtain ⟨p, vs, e, hp, r, z⟩ := r; exact ⟨p, vs, e, hp, r.shr h, z⟩
  | dc kvs => obtain ⟨p, vs, e, hp, hs, r, z⟩ := r; exact ⟨p, vs, e, hp, hs, r.shr h, z⟩
  | lk kvs => obtain ⟨p, vs, o, e, hp, hs, r, z⟩ := r; exact ⟨p, vs, o, e, hp, hs, r.shr h, z⟩
theorem T2Ok.shr {H : Hp} {v : V} {t : T2} (h : I a = some (.frz od (.dK ks))) (r : T2Ok K I H v t) : T2Ok K (drp I a) H v t := by
  cases t with
  | one t => exact T1Ok.shr h r
  | ls ts =>
    obtain ⟨p, vs, e, hp, hl, hz, h1, h2⟩ := r
    exact ⟨p, vs, e, hp, hl, hz, fun k u t hu ht => ⟨(h1 k u t hu ht).1.shr h, (h1 k u t hu ht).2⟩, h2⟩
  | rc p k ts =>
    obtain ⟨vs, e, hp, hl, hz, hn, h1, h2⟩ := r
    exact ⟨vs, e, hp, hl, hz, hn, fun k u t hu ht => ⟨(h1 k u t hu ht).1.shr h, (h1 k u t hu ht).2⟩, h2⟩
end
section
variable {G : Type} {X : Cx} {S : Gs G} {a b c e : Expr} {es : List Expr} {pos : Pos} {ma mb me : ME G} {mt mu : MT G} {ml : ML G}
variable {K : PySem.W.Frag} {w : Wd} {env env' : Env} {g g' : G} {σ : St} {H H' I' : Hp}
/-- the dict of a slot is locked -/
theorem Rel.lockD {j : Nat} {kvs : List (Key × D)} (R : Rel K S w env g σ H) (ej : env.at j = .tr (.one (.dc kvs))) : ∃ a vs, σ[j]? = some (some (.ref a)) ∧ H a = some (.dK vs) ∧ w.I a = none ∧ w.H0 a = none ∧ ¬ w.fp a ∧ vs.map (·.1) = kvs.map (·.1) ∧ RpA K w.I (vs.map (·.2)) (kvs.map (·.2)) ∧ kvs.length ≤ sizeLine ∧
    ∀ od, Rel K S (w.im (upd w.I a (.frz od (.dK vs)))) (env.set j (.fz kvs)) g σ (upd H a (.frz od (.dK vs))) := by
  have q := R.slot j
  rw [ej] at q
  obtain ⟨v, sj, ⟨a, vs, rfl, ha, hk, ra, hz⟩, own⟩ := q
  obtain ⟨hi, h0, hf⟩ := own a ⟨rfl, rfl⟩
  refine ⟨a, vs, sj, ha, hi, h0, hf, hk, ra, hz, fun od => ?_⟩
  have hj := slot_lt R sj
  have fo : fpt H σ j (env.at j) a := by rw [ej]; exact ⟨_, sj, rfl, rfl⟩
  have R1 : Rel K S w (env.set j .un) g σ (upd H a (.frz od (.dK vs))) := R.write hj (fun b z => by
    by_cases h : b = a
    · exact .inr (h ▸ fo)
    · exact absurd (upd_ne h) z) (fun b o q z => by
    by_cases h : b = a
    · rw [h, upd_same] at z; cases z
    · rw [upd_ne h, q] at z; cases z) trivial (fun b f => f.elim)
  have n1 : Nob w (env.set j .un) σ (upd H a (.frz od (.dK vs))) a := ⟨hi, h0, hf, fun i f => by
    rw [at_set] at f
    by_cases h : i = j ∧ j < env.length
    · rw [if_pos h] at f; exact f
    · rw [if_neg h] at f
      have hij : i ≠ j := fun z => h ⟨z, hj⟩
      have kp := (R.slot i).keep (σ' := σ) (w' := w) (H' := upd H a (.frz od (.dK vs))) rfl (Same.refl _) rfl fun b fb => by
        obtain ⟨a1, a2, a3, _⟩ := (R.slot i).fr fb
        exact ⟨upd_ne fun z => R.dis i j b hij fb (z ▸ fo), a1, a2, a3⟩
      exact R.dis i j a hij ((kp.2 a).mp f) fo⟩
  have R2 := (R1.freeze n1 upd_same).know (j := j) (sv := .fz kvs) sj ⟨.ref a, sj, a, vs, od, rfl, upd_same, hk, ra.mono (same_new hi), hz⟩ fun b f => f
  rw [List.set_set] at R2
  exact R2
/-- .. and unlocked -/
theorem Rel.unlockD {j : Nat} {kvs : List (Key × D)} {p : Addr} {vs : List (Key × V)} {od : Obj} {I2 : Hp} (R : Rel K S w env g σ H) (ej : env.at j = .tr (.one (.dc kvs))) (sj : σ[j]? = some (some (.ref p))) (hp : H p = some (.dK vs)) (hi : w.I p = none) (h0 : w.H0 p = none) (hf : ¬ w.fp p)
    (hk : vs.map (·.1) = kvs.map (·.1)) (ra : RpA K w.I (vs.map (·.2)) (kvs.map (·.2))) (hz : kvs.length ≤ sizeLine) (R2 : Rel K S (w.im I2) (env.set j (.fz kvs)) g' σ H') (s : Same (upd w.I p (.frz od (.dK vs))) I2) :
    Rel K S (w.im (drp I2 p)) env g' σ (upd H' p (.dK vs)) ∧ Same w.I (drp I2 p) ∧ I2 p = some (.frz od (.dK vs)) := by
  have hI2 : I2 p = some (.frz od (.dK vs)) := s _ _ upd_same
  have sw : Same w.I (drp I2 p) := fun b u q => by
    have ne : b ≠ p := fun z => by rw [z, hi] at q; cases q
    rw [drp_ne ne]
    exact s b u ((upd_ne ne).trans q)
  have hj := slot_lt R sj
  have at2 : ∀ k, k ≠ j → Env.at (env.set j (.fz kvs)) k = env.at k := fun k hk => by rw [at_set, if_neg fun z => hk z.1]
  have kp : ∀ k, k ≠ j → SlotOk K (w.im (drp I2 p)) σ (upd H' p (.dK vs)) k (env.at k) ∧ (∀ b, fpt (upd H' p (.dK vs)) σ k (env.at k) b ↔ fpt H' σ k (env.at k) b) ∧ ∀ b, fpt H' σ k (env.at k) b → b ≠ p := fun k hk => by
    have q2 := R2.slot k
    rw [at2 k hk] at q2
    have nb : ∀ b, fpt H' σ k (env.at k) b → b ≠ p := fun b f z => by
      have := (q2.fr f).1
      have this : I2 b = none := this
      rw [z, hI2] at this; cases this
    -- in the smaller I
    have q3 : SlotOk K (w.im (drp I2 p)) σ H' k (env.at k) := by
      have q := R.slot k
      cases ek : env.at k with
      | un => trivial
      | sh d => rw [ek] at q; obtain ⟨v, e1, r⟩ := q; exact ⟨v, e1, r.mono sw⟩
      | kd d => rw [ek] at q; obtain ⟨v, e1, r⟩ := q; exact ⟨v, e1, r.mono sw⟩
      | fz d => rw [ek] at q; obtain ⟨v, e1, r⟩ := q; exact ⟨v, e1, r.mono sw⟩
      | fl d => rw [ek] at q; obtain ⟨v, e1, r⟩ := q; exact ⟨v, e1, r.mono sw⟩
      | rz k ts => rw [ek] at q; obtain ⟨v, e1, r⟩ := q; exact ⟨v, e1, r.mono sw⟩
      | st => rw [ek] at q; exact q
      | raw v => rw [ek] at q; exact q
      | ow ds =>
        rw [ek] at q2
        obtain ⟨b, us, e1, hb, bi, b0, bf, r, z⟩ := q2
        exact ⟨b, us, e1, hb, (drp_ne fun z => by have bi : I2 b = none := bi; rw [z, hI2] at bi; cases bi).trans bi, b0, bf, r.shr hI2, z⟩
      | tr t =>
        rw [ek] at q2
        obtain ⟨v, e1, ok, k2⟩ := q2
        refine ⟨v, e1, ok.shr hI2, fun b f => ?_⟩
        obtain ⟨b1, b2, b3⟩ := k2 b f
        exact ⟨(drp_ne fun z => by have b1 : I2 b = none := b1; rw [z, hI2] at b1; cases b1).trans b1, b2, b3⟩
    obtain ⟨k1, k2⟩ := q3.keep (σ' := σ) (w' := w.im (drp I2 p)) (H' := upd H' p (.dK vs)) rfl (Same.refl _) rfl fun b f => by
      obtain ⟨a1, a2, a3, _⟩ := q3.fr f
      exact ⟨upd_ne (nb b f), a1, a2, a3⟩
    exact ⟨k1, k2, nb⟩
  have own : ∀ b, fpt (upd H' p (.dK vs)) σ j (env.at j) b → b = p := fun b f => by
    rw [ej] at f
    obtain ⟨v, e1, f1, f2⟩ := f
    rw [sj] at e1; cases e1
    cases f2; rfl
  refine ⟨?_, sw, hI2⟩
  exact {
    e0 := fun b o q => by
      have ne : b ≠ p := fun z => by have q : w.H0 b = some o := q; rw [z, h0] at q; cases q
      rw [upd_ne ne]; exact R2.e0 b o q
    eI := fun b o q => by
      have ne : b ≠ p := fun z => by have q : drp I2 p b = some o := q; rw [z, drp_eq] at q; cases q
      rw [upd_ne ne]; exact R2.eI b o ((drp_ne ne).symm.trans q)
    ag := fun b o q => by
      have ne : b ≠ p := fun z => by have q : w.H0 b = some o := q; rw [z, h0] at q; cases q
      exact (drp_ne ne).trans (R2.ag b o q)
    ge := R.ge.trans sw
    gfp := R2.gfp
    grt := R2.grt
    gok := S.loc (fun b hb => upd_ne fun z => hf (z ▸ (R2.gfp b).mp hb)) R2.gok
    fI := fun b hb => by
      by_cases z : b = p
      · rw [z]; exact drp_eq
      · exact (drp_ne z).trans (R2.fI b hb)
    f0 := R.f0
    len := R.len
    slot := fun k => by
      by_cases h : k = j
      · rw [h, ej]
        refine ⟨.ref p, sj, ⟨p, vs, rfl, upd_same, hk, ra.mono sw, hz⟩, fun b f => ?_⟩
        obtain ⟨_, e⟩ := f
        cases e
        exact ⟨drp_eq, h0, hf⟩
      · exact (kp k h).1
    dis := fun i k b n f1 f2 => by
      by_cases hi' : i = j
      · have hk' : k ≠ j := fun z => n (hi'.trans z.symm)
        rw [hi'] at f1
        have := own b f1
        exact (kp k hk').2.2 b (((kp k hk').2.1 b).mp f2) this
      · have f1' := ((kp i hi').2.1 b).mp f1
        by_cases hk' : k = j
        · rw [hk'] at f2
          exact (kp i hi').2.2 b f1' (own b f2)
        · have f2' := ((kp k hk').2.1 b).mp f2
          exact R2.dis i k b n (by rw [at2 i hi']; exact f1') (by rw [at2 k hk']; exact f2') }
theorem pt_lock {t : TT} (h : PT X e t) : PT X e (fun σ H Q => ∃ d u, H d = some u ∧ Mut (some u) ∧ ∀ od, t σ (upd H d (.frz od u)) fun v H' => H' d = some (.frz od u) ∧ Q v (upd H' d u)) := by
  refine ⟨fun pins s σ H Q I hw => ?_⟩
  obtain ⟨d, u, hd, mu, hw⟩ := hw
  obtain ⟨od, I1⟩ := I.lock hd mu
  refine thn (h.run pins s σ _ _ I1 (hw od)) fun v s1 ⟨H1, I2, e2, q⟩ => ?_
  exact ⟨_, I2.unlock e2 (I.nofrz hd mu), q⟩
/-- one look at a dict of one's own -/
def mLk {α : Type} (j : Nat) (m : Env → G → Option (α × G)) : Env → G → Option (α × G) := fun env g => match env.at j with
  | .tr (.one (.dc kvs)) => m (env.set j (.fz kvs)) g
  | _ => none
theorem de_lk (j : Nat) (h : DE X S e ma) : DE X S e (mLk j ma) := PE.imp (pe_lock h) fun σ H Q ⟨w, env, g, d, g', R, e, k⟩ => by
  unfold mLk at e
  split at e
  case h_2 => cases e
  rename_i kvs ej
  obtain ⟨a, vs, sj, ha, hi, h0, hf, hk, ra, hz, RL⟩ := R.lockD ej
  refine ⟨a, _, ha, trivial, fun od => ⟨_, _, g, d, g', RL od, e, fun v I2 H' s R2 p => ?_⟩⟩
  obtain ⟨R3, sw, hI⟩ := R.unlockD ej sj ha hi h0 hf hk ra hz R2 s
  exact ⟨R2.eI _ _ hI, k v _ _ sw R3 (Rp.shr hI p)⟩
theorem dt_lk (j : Nat) (h : DT X S e mt) : DT X S e (mLk j mt) := PT.imp (pt_lock h) fun σ H Q ⟨w, env, g, d, g', R, e, k⟩ => by
  unfold mLk at e
  split at e
  case h_2 => cases e
  rename_i kvs ej
  obtain ⟨a, vs, sj, ha, hi, h0, hf, hk, ra, hz, RL⟩ := R.lockD ej
  refine ⟨a, _, ha, trivial, fun od => ⟨_, _, g, d, g', RL od, e, fun I2 H' s R2 => ?_⟩⟩
  obtain ⟨R3, sw, hI⟩ := R.unlockD ej sj ha hi h0 hf hk ra hz R2 s
  exact ⟨R2.eI _ _ hI, k _ _ sw R3⟩
end
end Pd

/-! Pd: what a locked dict is asked. -/
namespace Pd
open PySem PySem.Spec L2
def keyD : D → Option Key
  | .int i => some (.inl i)
  | .str s => some (.inr s)
  | _ => none
def dKey : Key → D
  | .inl i => .int i
  | .inr s => .str s
def findK (kvs : List (Key × D)) (k : Key) : Option D := (kvs.find? fun p => decide (p.1 = k)).map (·.2)
def hasK (kvs : List (Key × D)) (k : Key) : Bool := kvs.any fun p => decide (p.1 = k)
section
variable {K : PySem.W.Frag} {I : Hp}
theorem keyD_rp {v : V} {d : D} {k : Key} (r : Rp K I v d) (h : keyD d = some k) : v = kV k := by
  cases r with
  | int i => cases h; rfl
  | str s => cases h; rfl
  | _ => cases h
theorem find_rp {k : Key} : ∀ {kvs : List (Key × D)} {vs : List (Key × V)} {d : D}, vs.map (·.1) = kvs.map (·.1) → RpA K I (vs.map (·.2)) (kvs.map (·.2)) → findK kvs k = some d → ∃ v, valV vs k = some v ∧ Rp K I v d
  | [], vs, d, _, _, h => nomatch h
  | p :: kvs, [], d, h, _, _ => nomatch h
  | p :: kvs, u :: vs, d, h, r, hf => by
    rw [List.map_cons, List.map_cons] at h r
    obtain ⟨h1, h2⟩ := List.cons.inj h
    cases r with
    | cons r1 r2 =>
      unfold findK at hf
      by_cases e : p.1 = k
      · rw [List.find?_cons_of_pos (by simpa using e)] at hf
        cases hf
        exact ⟨u.2, valV_pos (by rw [h1, e]), r1⟩
      · rw [List.find?_cons_of_neg (by simpa using e)] at hf
        obtain ⟨v, e1, e2⟩ := find_rp h2 r2 hf
        exact ⟨v, (valV_neg (by rw [h1]; exact e)).trans e1, e2⟩
theorem has_eq {k : Key} : ∀ {kvs : List (Key × D)} {vs : List (Key × V)}, vs.map (·.1) = kvs.map (·.1) → (valV vs k).isSome = hasK kvs k := by
  intro kvs vs h
  rw [← valV_any]
  have : ∀ {α β : Type} (l : List (Key × α)), (l.any fun p => decide (p.1 = k)) = (l.map (·.1)).any fun q => decide (q = k) := fun {α β} l => by rw [List.any_map]; rfl
  rw [this (β := Unit) vs, h, ← this (β := Unit) kvs]
  rfl
end
section
variable {G : Type} {X : Cx} {S : Gs G} {a b c e : Expr} {es : List Expr} {pos : Pos} {ma mb me : ME G} {mt mu : MT G} {ml : ML G}
variable {K : PySem.W.Frag} {w : Wd} {env env' : Env} {g g' : G} {σ : St} {H H' I' : Hp}
theorem Rel.fzA {j : Nat} {kvs : List (Key × D)} (R : Rel K S w env g σ H) (ej : env.at j = .fz kvs) : ∃ a vs o, σ[j]? = some (some (.ref a)) ∧ w.I a = some (.frz o (.dK vs)) ∧ H a = some (.frz o (.dK vs)) ∧ vs.map (·.1) = kvs.map (·.1) ∧ RpA K w.I (vs.map (·.2)) (kvs.map (·.2)) ∧ kvs.length ≤ sizeLine := by
  have q := R.slot j
  rw [ej] at q
  obtain ⟨v, sj, a, vs, o, rfl, hi, hk, ra, hz⟩ := q
  exact ⟨a, vs, o, sj, hi, R.eI _ _ hi, hk, ra, hz⟩
/-! ### in -/
def mInFz (neg : Bool) (j : Nat) (me : ME G) : ME G := fun env g => bD (me env g) fun d g1 => match env.at j, keyD d with
  | .fz kvs, some k => some (.bool (if neg then !hasK kvs k else hasK kvs k), g1)
  | _, _ => none
def mInFzT (neg : Bool) (j : Nat) (me : ME G) : MT G := fun env g => bD (me env g) fun d g1 => match env.at j, keyD d with
  | .fz kvs, some k => some (if neg then !hasK kvs k else hasK kvs k, g1)
  | _, _ => none
theorem te_inFz {j : Nat} {Q : VK} (h : tE K S (mInFz false j me) σ H Q) : tDIn (tE K S me) (tVar j) σ H Q := by
  obtain ⟨w, env, g, d, g', R, e, k⟩ := h
  obtain ⟨x, g1, e1, e⟩ := bD_some e
  split at e
  · rename_i kvs ky ej ek
    cases e
    refine ⟨w, env, g, x, g', R, e1, fun v I1 H1 s1 R1 p1 => ?_⟩
    obtain ⟨a, vs, o, sj, hi, ha, hk, ra, hz⟩ := R1.fzA ej
    refine ⟨_, sj, a, valV vs ky, rfl, .inl ⟨vs, ky, .inr ⟨o, ha⟩, keyD_rp p1 ek, rfl⟩, ?_⟩
    rw [has_eq hk]
    exact k _ I1 H1 s1 R1 (.bl _)
  · cases e
theorem te_ninFz {j : Nat} {Q : VK} (h : tE K S (mInFz true j me) σ H Q) : tDNotIn (tE K S me) (tVar j) σ H Q := by
  obtain ⟨w, env, g, d, g', R, e, k⟩ := h
  obtain ⟨x, g1, e1, e⟩ := bD_some e
  split at e
  · rename_i kvs ky ej ek
    cases e
    refine ⟨w, env, g, x, g', R, e1, fun v I1 H1 s1 R1 p1 => ?_⟩
    obtain ⟨a, vs, o, sj, hi, ha, hk, ra, hz⟩ := R1.fzA ej
    refine ⟨_, sj, a, valV vs ky, rfl, .inl ⟨vs, ky, .inr ⟨o, ha⟩, keyD_rp p1 ek, rfl⟩, ?_⟩
    rw [has_eq hk]
    exact k _ I1 H1 s1 R1 (.bl _)
  · cases e
theorem tt_of {t : TE} {neg : Bool} {j : Nat} (h : ∀ {σ H} {Q : VK}, tE K S (mInFz neg j me) σ H Q → t σ H Q) {Q : Bool → Hp → Prop} (q : tT K S (mInFzT neg j me) σ H Q) : tB t σ H Q := by
  obtain ⟨w, env, g, d, g', R, e, k⟩ := q
  refine h ⟨w, env, g, .bool d, g', R, ?_, fun v I' H' s R' p => by cases p; exact ⟨d, rfl, k I' H' s R'⟩⟩
  unfold mInFzT at e
  unfold mInFz
  obtain ⟨x, g1, e1, e⟩ := bD_some e
  rw [e1]
  dsimp only [bD]
  split at e
  · cases e
    rfl
  · cases e
theorem de_inFz (j : Nat) {x : Str} {xp : Pos} (hu : X.A.units + 65 < cLine) (he : DE X S e me) (hN : X.N[j]? = some x := by rfl) (hv : Vis X.env.scope x := by first | exact Or.inl rfl | exact Or.inr (Or.inl rfl) | exact Or.inr (Or.inr rfl)) (hd : (x == ("__debug__" : Str)) = false := by decide)
    (hcd : (x == ("__classdict__" : Str)) = false := by decide) : DE X S (.Compare e [.In] [.Name x xp] pos) (mInFz false j me) := PE.imp (pe_cmp (pc_din (by omega) he (pe_var hN hv hd hcd)) rfl) fun _ _ _ h => te_inFz h
theorem dt_inFz (j : Nat) {x : Str} {xp : Pos} (hu : X.A.units + 65 < cLine) (he : DE X S e me) (hN : X.N[j]? = some x := by rfl) (hv : Vis X.env.scope x := by first | exact Or.inl rfl | exact Or.inr (Or.inl rfl) | exact Or.inr (Or.inr rfl)) (hd : (x == ("__debug__" : Str)) = false := by decide)
    (hcd : (x == ("__classdict__" : Str)) = false := by decide) : DT X S (.Compare e [.In] [.Name x xp] pos) (mInFzT false j me) := PT.imp (pt_cmp (pc_din (by omega) he (pe_var hN hv hd hcd)) rfl) fun _ _ _ h => tt_of te_inFz h
theorem dt_ninFz (j : Nat) {x : Str} {xp : Pos} (hu : X.A.units + 65 < cLine) (he : DE X S e me) (hN : X.N[j]? = some x := by rfl) (hv : Vis X.env.scope x := by first | exact Or.inl rfl | exact Or.inr (Or.inl rfl) | exact Or.inr (Or.inr rfl)) (hd : (x == ("__debug__" : Str)) = false := by decide)
    (hcd : (x == ("__classdict__" : Str)) = false := by decide) : DT X S (.Compare e [.NotIn] [.Name x xp] pos) (mInFzT true j me) := PT.imp (pt_cmp (pc_dnotin (by omega) he (pe_var hN hv hd hcd)) rfl) fun _ _ _ h => tt_of te_ninFz h
/-! ### d[k] -/
def mFzIx (j : Nat) (mi : ME G) : ME G := fun env g => bD (mi env g) fun i g1 => match env.at j, keyD i with
  | .fz kvs, some k => (findK kvs k).map (·, g1)
  | _, _ => none
theorem de_fzIx (j : Nat) {x : Str} {xp : Pos} {i : Expr} {mi : ME G} (hu : X.A.units + 65 < cLine) (hi : DE X S i mi) (hN : X.N[j]? = some x := by rfl) (hv : Vis X.env.scope x := by first | exact Or.inl rfl | exact Or.inr (Or.inl rfl) | exact Or.inr (Or.inr rfl)) (hd : (x == ("__debug__" : Str)) = false := by decide)
    (hcd : (x == ("__classdict__" : Str)) = false := by decide) (hs : NoSl i := by exact fun _ _ => rfl) : DE X S (.Subscript (.Name x xp) i pos) (mFzIx j mi) := PE.imp (pe_dget (by omega) (pe_var hN hv hd hcd) hi hs) fun σ H Q ⟨w, env, g, d, g', R, e, k⟩ => by
  obtain ⟨i, g1, e1, e⟩ := bD_some e
  split at e
  · rename_i kvs ky ej ek
    obtain ⟨e3, rfl⟩ := map_some e
    obtain ⟨a, vs, o, sj, _⟩ := R.fzA ej
    refine ⟨_, sj, w, env, g, i, g', R, e1, fun u I1 H1 s1 R1 p1 => ?_⟩
    obtain ⟨a', vs', o', sj', hi, ha, hk, ra, hz⟩ := R1.fzA ej
    rw [sj] at sj'
    cases sj'
    obtain ⟨v, e4, rv⟩ := find_rp hk ra e3
    exact ⟨a, v, rfl, .inl ⟨vs', ky, .inr ⟨o', ha⟩, keyD_rp p1 ek, e4.symm⟩, k v I1 H1 s1 R1 rv⟩
  · cases e
/-! ### the keys, one by one -/
def mItFz (j : Nat) : ML G := fun env g => match env.at j with
  | .fz kvs => if kvs.all (fun p => decide (keyD (dKey p.1) = some p.1)) = true ∧ (kvs.all fun p => match p.1 with | .inl _ => true | .inr _ => false) = true then some (kvs.map fun p => dKey p.1, g) else none
  | _ => none
theorem itk_ok {I : Hp} {a : Addr} {o : Obj} {vs : List (Key × V)} {kvs : List (Key × D)} (hi : I a = some (.frz o (.dK vs))) (hk : vs.map (·.1) = kvs.map (·.1)) (hint : ∀ p ∈ kvs, ∃ i, p.1 = Sum.inl i) : ItOk K (Itk a o vs) I (kvs.map fun p => dKey p.1) where
  go := fun i I' H' h s1 s2 => ⟨s2 _ _ (s1 _ _ hi), by
    have := congrArg List.length hk
    rw [List.length_map, List.length_map] at this
    rw [List.length_map] at h
    omega⟩
  yl := fun i I' H' x H'' d hd s1 s2 y => by
    obtain ⟨rfl, k, v, e, rfl⟩ := y
    refine ⟨I', Pst.refl s2, ?_⟩
    have e1 : (vs.map (·.1))[i]? = some k := by rw [List.getElem?_map, e]; rfl
    rw [hk, List.getElem?_map] at e1
    rw [List.getElem?_map] at hd
    cases e2 : kvs[i]? with
    | none => rw [e2] at hd; cases hd
    | some p =>
      rw [e2] at hd e1
      cases hd; cases e1
      obtain ⟨z, hz⟩ := hint p (List.mem_of_getElem? e2)
      show Rp K I' (kV p.1) (dKey p.1)
      rw [hz]
      exact .int z
  st := fun i I' H' h s1 s2 => ⟨s2 _ _ (s1 _ _ hi), by
    have := congrArg List.length hk
    rw [List.length_map, List.length_map] at this
    rw [List.length_map] at h
    omega⟩
theorem di_fz (j : Nat) {tg : Expr} {x : Str} {xp : Pos} (hN : X.N[j]? = some x := by rfl) (hv : Vis X.env.scope x := by first | exact Or.inl rfl | exact Or.inr (Or.inl rfl) | exact Or.inr (Or.inr rfl)) (hd : (x == ("__debug__" : Str)) = false := by decide)
    (hcd : (x == ("__classdict__" : Str)) = false := by decide) : DI X S tg (.Name x xp) (mItFz j) := PI.imp (pi_keys (pe_var hN hv hd hcd)) fun σ H R ⟨w, env, g, ds, g', Re, e, k⟩ => by
  unfold mItFz at e
  split at e
  · rename_i kvs ej
    split at e
    · rename_i hc
      cases e
      obtain ⟨a, vs, o, sj, hi, ha, hk, ra, hz⟩ := Re.fzA ej
      have hint : ∀ p ∈ kvs, ∃ i, p.1 = Sum.inl i := fun p hp => by
        have := List.all_eq_true.mp hc.2 p hp
        cases e : p.1 with
        | inl i => exact ⟨i, rfl⟩
        | inr s => rw [e] at this; cases this
      exact ⟨_, sj, a, o, rfl, .inl ⟨vs, ha, k _ w.I H (Same.refl _) Re (itk_ok hi hk hint) (by rw [List.length_map]; exact hz)⟩⟩
    · cases e
  · cases e
/-! ### calls with the dict alone -/
def FzD (K : PySem.W.Frag) (r : List V → Hp → VK → Prop) (f : List (Key × D) → Option D) : Prop := ∀ {I H : Hp} {v : V} {kvs : List (Key × D)} {z : D}, Same I H → FzOk K I v kvs → f kvs = some z → ∀ {Q : VK}, (∀ u I' H', Pst I H I' H' → Rp K I' u z → Q u H') → r [v] H Q
def FzF (K : PySem.W.Frag) (r : List V → Hp → VK → Prop) (f : List (Key × D) → Option (List D)) : Prop := ∀ {I H : Hp} {v : V} {kvs : List (Key × D)} {zs : List D}, Same I H → FzOk K I v kvs → f kvs = some zs →
  ∀ {Q : VK}, (∀ p vs H', H p = none → Same H H' → H' p = some (.lst vs) → RpA K I vs zs → zs.length ≤ sizeLine → Q (.ref p) H') → r [v] H Q
def mFz (f : List (Key × D) → Option D) (j : Nat) : ME G := fun env g => match env.at j with
  | .fz kvs => (f kvs).map (·, g)
  | _ => none
def mFzF (f : List (Key × D) → Option (List D)) (j : Nat) : ML G := fun env g => match env.at j with
  | .fz kvs => (f kvs).map (·, g)
  | _ => none
theorem Rel.fzV {j : Nat} {kvs : List (Key × D)} (R : Rel K S w env g σ H) (ej : env.at j = .fz kvs) : ∃ v, σ[j]? = some (some v) ∧ FzOk K w.I v kvs := by
  have q := R.slot j
  rw [ej] at q
  exact q
theorem de_fzB {x y : Str} {id : String} {r : List V → Hp → VK → Prop} {f : List (Key × D) → Option D} {p yp : Pos} (j : Nat) (hc : CallR X (.builtin id) r) (hf : FzD X.K r f) (hg : Gl X x) (hm : X.mg x = none) (hv : bootBuiltins x = some (.builtin id))
    (hN : X.N[j]? = some y := by rfl) (hvy : Vis X.env.scope y := by first | exact Or.inl rfl | exact Or.inr (Or.inl rfl) | exact Or.inr (Or.inr rfl)) (hd : (y == ("__debug__" : Str)) = false := by decide) (hcd : (y == ("__classdict__" : Str)) = false := by decide)
    (hn : x ≠ "__name__" := by decide) (hdb : (x == ("__debug__" : Str)) = false := by decide)
    (he : starEach [.Name y yp] X.env = (false, eval (.Name y yp) X.env) :: starEach [] X.env := by rfl) (hpl : (backTo pos (starEach [] X.env)).any (·.1) = false := by rfl) : DE X S (.Call (.Name x p) [.Name y yp] [] pos) (mFz f j) :=
  PE.imp (pe_callB hc hg hm hv (pa_cons (pe_var hN hvy hd hcd) pa_nil he) hn hdb he hpl) fun σ H Q ⟨w, env, g, d, g', R, e, k⟩ => by
    unfold mFz at e
    split at e
    · rename_i kvs ej
      obtain ⟨e3, rfl⟩ := map_some e
      obtain ⟨v, sj, ok⟩ := R.fzV ej
      exact ⟨v, sj, hf R.eI ok e3 fun u I' H' ps p => k u I' H' ps.eI (R.pst ps) p⟩
    · cases e
theorem df_fzB {x y : Str} {id : String} {r : List V → Hp → VK → Prop} {f : List (Key × D) → Option (List D)} {p yp : Pos} (j : Nat) (hc : CallR X (.builtin id) r) (hf : FzF X.K r f) (hg : Gl X x) (hm : X.mg x = none) (hv : bootBuiltins x = some (.builtin id))
    (hN : X.N[j]? = some y := by rfl) (hvy : Vis X.env.scope y := by first | exact Or.inl rfl | exact Or.inr (Or.inl rfl) | exact Or.inr (Or.inr rfl)) (hd : (y == ("__debug__" : Str)) = false := by decide) (hcd : (y == ("__classdict__" : Str)) = false := by decide)
    (hn : x ≠ "__name__" := by decide) (hdb : (x == ("__debug__" : Str)) = false := by decide)
    (he : starEach [.Name y yp] X.env = (false, eval (.Name y yp) X.env) :: starEach [] X.env := by rfl) (hpl : (backTo pos (starEach [] X.env)).any (·.1) = false := by rfl) : DF X S (.Call (.Name x p) [.Name y yp] [] pos) (mFzF f j) :=
  PE.imp (pe_callB hc hg hm hv (pa_cons (pe_var hN hvy hd hcd) pa_nil he) hn hdb he hpl) fun σ H Q ⟨w, env, g, d, g', R, e, k⟩ => by
    unfold mFzF at e
    split at e
    · rename_i kvs ej
      obtain ⟨e3, rfl⟩ := map_some e
      obtain ⟨v, sj, ok⟩ := R.fzV ej
      exact ⟨v, sj, hf R.eI ok e3 fun p vs H' h0 sm hp ra z => k p vs w.I H' (Same.refl _) (Rel.fresh (p := p) R sm) (R.nobS h0 sm) hp ra z⟩
    · cases e
theorem df_fzTy {x y : Str} {T : String} {r : List V → Hp → VK → Prop} {f : List (Key × D) → Option (List D)} {p yp : Pos} (j : Nat) (hc : CallR X (.type T) r) (hf : FzF X.K r f) (hg : Gl X x) (hm : X.mg x = none) (hv : bootBuiltins x = some (.type T))
    (hN : X.N[j]? = some y := by rfl) (hvy : Vis X.env.scope y := by first | exact Or.inl rfl | exact Or.inr (Or.inl rfl) | exact Or.inr (Or.inr rfl)) (hd : (y == ("__debug__" : Str)) = false := by decide) (hcd : (y == ("__classdict__" : Str)) = false := by decide)
    (hn : x ≠ "__name__" := by decide) (hdb : (x == ("__debug__" : Str)) = false := by decide)
    (he : starEach [.Name y yp] X.env = (false, eval (.Name y yp) X.env) :: starEach [] X.env := by rfl) (hpl : (backTo pos (starEach [] X.env)).any (·.1) = false := by rfl) : DF X S (.Call (.Name x p) [.Name y yp] [] pos) (mFzF f j) :=
  PE.imp (pe_callTy hc hg hm hv (pa_cons (pe_var hN hvy hd hcd) pa_nil he) hn hdb he hpl) fun σ H Q ⟨w, env, g, d, g', R, e, k⟩ => by
    unfold mFzF at e
    split at e
    · rename_i kvs ej
      obtain ⟨e3, rfl⟩ := map_some e
      obtain ⟨v, sj, ok⟩ := R.fzV ej
      exact ⟨v, sj, hf R.eI ok e3 fun p vs H' h0 sm hp ra z => k p vs w.I H' (Same.refl _) (Rel.fresh (p := p) R sm) (R.nobS h0 sm) hp ra z⟩
    · cases e
/-- len(d) -/
def rLenK : List V → Hp → VK → Prop := fun vs H Q => ∃ a kvs, vs = [V.ref a] ∧ Rd H a (.dK kvs) ∧ Q (.int kvs.length) H
theorem cr_lenK : CallR X (.builtin "len") rLenK := by
  intro pins s σ H vs us Q I r h
  obtain ⟨a, kvs, rfl, ha, q⟩ := h
  rw [Vals.ref1 r]
  exact d_len I ha fun t s' I' => ⟨.int _, H, I', ⟨t, rfl⟩, q⟩
def dLenK (kvs : List (Key × D)) : Option D := some (.int kvs.length)
theorem fz_len : FzD K rLenK dLenK := by
  intro I H v kvs z s ok e Q k
  obtain ⟨a, vs, o, rfl, hi, hk, ra, hz⟩ := ok
  cases e
  have hl : vs.length = kvs.length := by have := congrArg List.length hk; rwa [List.length_map, List.length_map] at this
  refine ⟨a, vs, rfl, .inr ⟨o, s _ _ hi⟩, ?_⟩
  rw [hl]
  exact k _ I H (Pst.refl s) (.int _)
/-- the keys, all numbers -/
def intK : List (Key × D) → Option (List Int)
  | [] => some []
  | (.inl i, _) :: r => (intK r).map (i :: ·)
  | (.inr _, _) :: _ => none
theorem intK_map : ∀ {kvs : List (Key × D)} {is : List Int}, intK kvs = some is → kvs.map (·.1) = is.map Sum.inl
  | [], is, h => by cases h; rfl
  | (.inl i, d) :: r, is, h => by
    obtain ⟨js, h1, rfl⟩ := Option.map_eq_some_iff.mp h
    rw [List.map_cons, List.map_cons, intK_map h1]
  | (.inr _, _) :: _, is, h => nomatch h
def maxI : List Int → Int
  | [] => 0
  | [i] => i
  | i :: r => max i (maxI r)
theorem maxI_mem : ∀ {is : List Int}, is ≠ [] → maxI is ∈ is ∧ ∀ j ∈ is, j ≤ maxI is
  | [i], _ => ⟨by simp [maxI], fun j hj => by rw [List.mem_singleton.mp hj]; exact Int.le_refl _⟩
  | i :: k :: r, _ => by
    obtain ⟨h1, h2⟩ := maxI_mem (is := k :: r) (by simp)
    show max i (maxI (k :: r)) ∈ _ ∧ ∀ j ∈ _, j ≤ max i (maxI (k :: r))
    refine ⟨?_, fun j hj => ?_⟩
    · rcases Int.le_total i (maxI (k :: r)) with h | h
      · rw [Int.max_eq_right h]; exact List.mem_cons_of_mem _ h1
      · rw [Int.max_eq_left h]; exact List.mem_cons_self ..
    · rcases List.mem_cons.mp hj with rfl | hj
      · exact Int.le_max_left _ _
      · exact Int.le_trans (h2 j hj) (Int.le_max_right _ _)
theorem maxI_uni {is : List Int} {m : Int} (hm : m ∈ is) (h : ∀ j ∈ is, j ≤ m) : m = maxI is := by
  obtain ⟨h1, h2⟩ := maxI_mem (is := is) (fun z => by rw [z] at hm; cases hm)
  exact Int.le_antisymm (h2 m hm) (h _ h1)
/-- max(d), the keys numbers -/
def rMaxK : List V → Hp → VK → Prop := fun vs H Q => ∃ (a : Addr) (kvs : List (Key × V)) (is : List Int), vs = [V.ref a] ∧ Rd H a (.dK kvs) ∧ kvs.map (·.1) = is.map Sum.inl ∧ is ≠ [] ∧ Q (.int (maxI is)) H
theorem cr_maxK (hc : X.calm = true) : CallR X (.builtin "max") rMaxK := by
  intro pins s σ H vs us Q I r h
  obtain ⟨a, kvs, is, rfl, ha, hv, hne, q⟩ := h
  rw [Vals.ref1 r]
  obtain ⟨_, hsys, vs, rel, dof⟩ := dk_rd I.hok ha
  obtain ⟨ep, dat⟩ := dof.dictAt
  obtain ⟨ob, es, ho, hex, hdat, hko, hpr, hnd⟩ := id dat
  have hlt : a < s.heap.objs.size := Heap.lt_size ho
  have hkeys : vs.map (·.1) = is.map Sum.inl := (KV.keys rel).symm.trans hv
  have hlv : vs.length = is.length := by
    have e1 := congrArg List.length hkeys
    rw [List.length_map, List.length_map] at e1
    exact e1
  have hlen : 0 < vs.length := by
    rw [hlv]
    exact List.length_pos_iff.mpr hne
  have hval : ∀ (i : Nat) (v : Value), (∃ k x, vs[i]? = some (k, x) ∧ (mixKind X.prog X.w).is k v = true) → ∃ t, v = Value.int (is.getD i 0) t := fun i v ⟨k, x, hk, hkey⟩ => by
    have e1 : (vs.map (·.1))[i]? = some k := by rw [List.getElem?_map, hk] <;> rfl
    rw [hkeys, List.getElem?_map] at e1
    obtain ⟨j, hj, e2⟩ := Option.map_eq_some_iff.mp e1
    subst e2
    have hi : Value.isInt j v = true := hkey
    obtain ⟨t, e3⟩ := Value.isInt_shape (k := j) (v := v) hi
    refine ⟨t, ?_⟩
    rw [e3, List.getD_eq_getElem?_getD, hj] <;> rfl
  refine call_max_walk (wpAny_pyIter_dict (knd := mixKind X.prog X.w) hsys dat ?_)
  refine ⟨_, _, _, _, _, _, _, rfl, Walks.dictKeys (knd := mixKind X.prog X.w) (A := X.A.in1) (I.ok.hd hc) s.heap.objs.size a (Nat.ne_of_lt hlt) vs ep,
    ⟨⟨_, Heap.get?_push_size _ rfl, rfl, rfl⟩, dat.keep fun b u e => Heap.get?_push_of_some _ e⟩, fun b hb => ?_, hlen, CmpOf.ints_gt (fun i => is.getD i 0) hval, fun v h' tk hP hk => ?_⟩
  · show b < (s.heap.push _).objs.size
    rw [Heap.size_push]
    rcases List.mem_cons.mp hb with e | hb
    · rw [e]
      exact Nat.lt_succ_self _
    · rw [List.mem_singleton.mp hb]
      exact Nat.lt_succ_of_lt hlt
  · obtain ⟨t, rfl⟩ := hval _ v hP
    obtain ⟨b1, b2⟩ := argBest_gt (fun i => is.getD i 0) (vs.length - 1)
    have hb : argBest (fun i j => decide (is.getD i 0 > is.getD j 0)) (vs.length - 1) < is.length := by omega
    have hm : is.getD (argBest (fun i j => decide (is.getD i 0 > is.getD j 0)) (vs.length - 1)) 0 = maxI is := maxI_uni (by
      rw [List.getD_eq_getElem?_getD, List.getElem?_eq_getElem hb]
      exact List.getElem_mem hb) fun j hj => by
      obtain ⟨i, hi, e⟩ := List.mem_iff_getElem.mp hj
      have e2 : is.getD i 0 = j := by rw [List.getD_eq_getElem?_getD, List.getElem?_eq_getElem hi, ← e] <;> rfl
      rw [← e2]
      exact b2 i (by omega)
    refine ⟨.int _, H, I.kept (t' := tk) fun b u e => hk b u (fun hmem => ?_) (Heap.get?_push_of_some _ e), ⟨t, rfl⟩, by rw [hm]; exact q⟩
    have e1 : b = s.heap.objs.size := List.mem_singleton.mp hmem
    have e2 := Heap.lt_size e
    rw [e1] at e2
    exact absurd e2 (Nat.lt_irrefl _)
def dMaxK (kvs : List (Key × D)) : Option D := match intK kvs with
  | some (i :: r) => some (.int (maxI (i :: r)))
  | _ => none
theorem fz_max : FzD K rMaxK dMaxK := by
  intro I H v kvs z s ok e Q k
  obtain ⟨a, vs, o, rfl, hi, hk, ra, hz⟩ := ok
  unfold dMaxK at e
  split at e
  · rename_i i r ei
    cases e
    exact ⟨a, vs, i :: r, rfl, .inr ⟨o, s _ _ hi⟩, hk.trans (intK_map ei), by simp, k _ I H (Pst.refl s) (.int _)⟩
  · cases e
/-- list(d) -/
def rListK : List V → Hp → VK → Prop := fun xs H Q => ∃ (a : Addr) (kvs : List (Key × V)), xs = [.ref a] ∧ Rd H a (.dK kvs) ∧ ∀ p, H p = none → Q (.ref p) (upd H p (.lst (kvs.map fun kv => kV kv.1)))
def dListK (kvs : List (Key × D)) : Option (List D) := (intK kvs).map fun is => is.map .int
theorem fz_list : FzF K rListK dListK := by
  intro I H v kvs zs s ok e Q k
  obtain ⟨a, vs, o, rfl, hi, hk, ra, hz⟩ := ok
  obtain ⟨is, ei, rfl⟩ := Option.map_eq_some_iff.mp e
  have hl : kvs.length = is.length := by have := congrArg List.length (intK_map ei); rwa [List.length_map, List.length_map] at this
  refine ⟨a, vs, rfl, .inr ⟨o, s _ _ hi⟩, fun p h0 => k p _ _ h0 (same_new h0) upd_same ?_ (by rw [List.length_map]; omega)⟩
  have e2 : (vs.map fun kv => kV kv.1) = is.map V.int := by
    have : (vs.map fun kv => kV kv.1) = (vs.map (·.1)).map kV := by rw [List.map_map]; rfl
    rw [this, hk, intK_map ei, List.map_map]
    rfl
  rw [e2]
  exact RpA.of_ints is
/-- max(xs), numbers -/
def dMaxL : List D → Option D
  | [.list ds] => match intsD ds with
    | some (i :: r) => some (.int (maxI (i :: r)))
    | _ => none
  | _ => none
theorem intsD_of : ∀ {ds : List D} {is : List Int}, intsD ds = some is → ds = is.map .int
  | [], is, h => by cases h; rfl
  | d :: ds, is, h => by
    cases d with
    | int i =>
      obtain ⟨js, h1, rfl⟩ := Option.map_eq_some_iff.mp (show (intsD ds).map (i :: ·) = some is from h)
      rw [List.map_cons, intsD_of h1]
    | _ => cases h
theorem cd_maxL : CallD K (rMax K) dMaxL := by
  intro I H xs ds z s p hz Q k
  cases p with
  | nil => cases hz
  | cons a b =>
    cases b with
    | cons _ _ => cases a <;> cases hz
    | nil =>
      cases a with
      | lst hp ra hl =>
        rename_i p us es
        have hz : (match intsD es with | some (i :: r) => some (PyData.int (maxI (i :: r))) | _ => none) = some z := hz
        split at hz
        · rename_i i r ei
          cases hz
          rw [intsD_of ei] at ra
          have := ra.ints
          refine ⟨p, i :: r, rfl, SqL.of (this ▸ s _ _ hp), by simp, fun m hm hle => ?_⟩
          rw [maxI_uni hm hle]
          exact k _ I H (Pst.refl s) (.int _)
        · cases hz
      | _ => cases hz
/-! ### arguments -/
def gConsF (i : Nat) (ml : MG G) : MG G := fun env g => match env.at i with
  | .fz kvs => bD (ml env g) fun xs g2 => some (.fz kvs :: xs, g2)
  | _ => none
theorem dg_fz {mg : MG G} {i : Nat} {x : Str} {pos' : Pos} (hr : DG X S es mg) (hN : X.N[i]? = some x := by rfl) (hv : Vis X.env.scope x := by first | exact Or.inl rfl | exact Or.inr (Or.inl rfl) | exact Or.inr (Or.inr rfl)) (hd : (x == ("__debug__" : Str)) = false := by decide)
    (hcd : (x == ("__classdict__" : Str)) = false := by decide) (hs : starEach (.Name x pos' :: es) X.env = (false, eval (.Name x pos') X.env) :: starEach es X.env := by rfl) : DG X S (.Name x pos' :: es) (gConsF i mg) := PA.imp (pa_cons (pe_var hN hv hd hcd) hr hs) fun σ H Q h => by
  obtain ⟨w, env, g, d, g', R, e, k⟩ := h
  unfold gConsF at e
  split at e
  · rename_i kvs ej
    obtain ⟨y, g2, e2, e⟩ := bD_some e
    cases e
    obtain ⟨v, sj, ok⟩ := R.fzV ej
    exact ⟨_, sj, w, env, g, y, g', R, e2, fun vs I2 H2 s2 R2 p2 => k _ I2 H2 s2 R2 (.cons (ok.mono s2) p2)⟩
  · cases e
end
end Pd

/-! Pe: new dicts, stores to a dict of one's own. -/
namespace Pd
open PySem PySem.Spec L2
/-- in its place, or at the end -/
def putKD (kvs : List (Key × D)) (k : Key) (d : D) : List (Key × D) := if hasK kvs k = true then kvs.map (fun p => if p.1 = k then (p.1, d) else p) else kvs ++ [(k, d)]
section
variable {K : PySem.W.Frag} {I : Hp}
theorem putK_rp {k : Key} {v : V} {d : D} (r : Rp K I v d) {kvs : List (Key × D)} {vs : List (Key × V)} (h : vs.map (·.1) = kvs.map (·.1)) (ra : RpA K I (vs.map (·.2)) (kvs.map (·.2))) :
    (putK vs k v).map (·.1) = (putKD kvs k d).map (·.1) ∧ RpA K I ((putK vs k v).map (·.2)) ((putKD kvs k d).map (·.2)) := by
  have ha : (vs.any fun kv => decide (kv.1 = k)) = hasK kvs k := by rw [valV_any]; exact has_eq h
  unfold putK putKD
  rw [ha]
  cases hasK kvs k with
  | true =>
    rw [if_pos rfl, if_pos rfl]
    have key : ∀ {kvs : List (Key × D)} {vs : List (Key × V)}, vs.map (·.1) = kvs.map (·.1) → RpA K I (vs.map (·.2)) (kvs.map (·.2)) →
        (vs.map fun kv => if kv.1 = k then (kv.1, v) else kv).map (·.1) = (kvs.map fun p => if p.1 = k then (p.1, d) else p).map (·.1) ∧ RpA K I ((vs.map fun kv => if kv.1 = k then (kv.1, v) else kv).map (·.2)) ((kvs.map fun p => if p.1 = k then (p.1, d) else p).map (·.2)) := by
      intro kvs
      induction kvs with
      | nil =>
        intro vs h ra
        cases vs with
        | nil => exact ⟨rfl, .nil⟩
        | cons _ _ => cases h
      | cons p kvs ih =>
        intro vs h ra
        cases vs with
        | nil => cases h
        | cons u vs =>
          obtain ⟨h1, h2⟩ := List.cons.inj h
          cases ra with
          | cons r1 r2 =>
            obtain ⟨i1, i2⟩ := ih h2 r2
            have h1 : u.1 = p.1 := h1
            rw [List.map_cons, List.map_cons, List.map_cons, List.map_cons, List.map_cons, List.map_cons, i1]
            by_cases e : p.1 = k
            · rw [if_pos e, if_pos (h1.trans e)]
              exact ⟨by rw [h1], .cons r i2⟩
            · rw [if_neg e, if_neg (fun z => e (h1.symm.trans z))]
              exact ⟨by rw [h1], .cons r1 i2⟩
    exact key h ra
  | false =>
    rw [if_neg (by simp), if_neg (by simp), List.map_append, List.map_append, List.map_append, List.map_append, h]
    exact ⟨rfl, ra.append (.cons r .nil)⟩
theorem putKD_len (kvs : List (Key × D)) (k : Key) (d : D) : (putKD kvs k d).length ≤ kvs.length + 1 := by
  unfold putKD
  split
  · rw [List.length_map]; omega
  · rw [List.length_append]; exact Nat.le_refl _
end
section
variable {G : Type} {X : Cx} {S : Gs G} {a b c e : Expr} {es : List Expr} {pos : Pos} {ma mb me : ME G} {mt mu : MT G} {ml : ML G}
variable {K : PySem.W.Frag} {w : Wd} {env env' : Env} {g g' : G} {σ : St} {H H' I' : Hp}
/-! ### a new dict -/
abbrev MK (G : Type) := Env → G → Option (List (Key × D) × G)
def tK {G : Type} (K : PySem.W.Frag) (S : Gs G) (m : MK G) : TE := fun σ H Q => ∃ w env g kvs g', Rel K S w env g σ H ∧ m env g = some (kvs, g') ∧
  ∀ p vs I' H', Same w.I I' → Rel K S (w.im I') env g' σ H' → Nob (w.im I') env σ H' p → H' p = some (.dK vs) → vs.map (·.1) = kvs.map (·.1) → RpA K I' (vs.map (·.2)) (kvs.map (·.2)) → kvs.length ≤ sizeLine → Q (.ref p) H'
abbrev DK {G : Type} (X : Cx) (S : Gs G) (e : Expr) (m : MK G) : Prop := PE X e (tK X.K S m)
def mNewK : MK G := fun _ g => some ([], g)
theorem dk_new : DK X S (.Dict [] [] pos) mNewK := PE.imp pe_dnewK fun σ H Q ⟨w, env, g, d, g', R, e, k⟩ => by
  cases e
  exact fun p h0 => k p [] w.I _ (Same.refl _) (R.alloc h0) (R.nob h0) upd_same rfl .nil (Nat.zero_le _)
/-- pairs, as a dict: no key twice -/
def pairsK : List D → Option (List (Key × D))
  | [] => some []
  | .tuple [k, d] :: r => match keyD k with
    | some k => (pairsK r).map ((k, d) :: ·)
    | none => none
  | _ :: _ => none
def ndK (kvs : List (Key × D)) : Bool := decide ((kvs.map (·.1)).Nodup)
def mDictOf (ma : ME G) : MK G := fun env g => bD (ma env g) fun x g1 => match x with
  | .list ds => match pairsK ds with
    | some kvs => if ndK kvs = true then some (kvs, g1) else none
    | none => none
  | _ => none
theorem pairs_rp {I : Hp} : ∀ {ds : List D} {vs : List V} {kvs : List (Key × D)}, RpA K I vs ds → pairsK ds = some kvs → ∃ (ps : List Addr) (us : List (Key × V)), vs = ps.map V.ref ∧ Paired (fun p kv => SqT K I p [kV kv.1, kv.2]) ps us ∧ us.map (·.1) = kvs.map (·.1) ∧ RpA K I (us.map (·.2)) (kvs.map (·.2)) ∧ kvs.length = ds.length
  | [], _, kvs, r, h => by
    cases r; cases h
    exact ⟨[], [], rfl, .nil, rfl, .nil, rfl⟩
  | d :: ds, _, kvs, r, h => by
    cases r with
    | @cons v vs _ _ r1 r2 =>
      unfold pairsK at h
      split at h
      · rename_i heq
        cases heq
      · rename_i k d' r heq
        cases heq
        split at h
        · rename_i ky ek
          obtain ⟨kvs', h1, rfl⟩ := Option.map_eq_some_iff.mp h
          obtain ⟨ps, us, rfl, hp, hk, ra, hl⟩ := pairs_rp r2 h1
          cases r1 with
          | @tup q xs _ hq rb _ =>
            cases rb with
            | cons k1 rb =>
              cases rb with
              | cons d1 rb =>
                cases rb
                rw [keyD_rp k1 ek] at hq
                refine ⟨q :: ps, (ky, _) :: us, rfl, .cons hq hp, ?_, .cons d1 ra, ?_⟩
                · rw [List.map_cons, List.map_cons, hk]
                · rw [List.length_cons, List.length_cons, hl]
        · cases h
      · cases h
theorem pair_mono {I I' : Hp} (e : Same I I') : ∀ {ps : List Addr} {us : List (Key × V)}, Paired (fun p kv => SqT K I p [kV kv.1, kv.2]) ps us → Paired (fun p kv => SqT K I' p [kV kv.1, kv.2]) ps us
  | _, _, .nil => .nil
  | _, _, .cons a b => .cons (same_t e a) (pair_mono e b)
theorem dk_dict {x : Str} {p : Pos} (hc : X.calm = true) (hg : Gl X x) (hm : X.mg x = none) (hv : bootBuiltins x = some (.type "dict")) (ha : DE X S e ma) (hn : x ≠ "__name__" := by decide) (hdb : (x == ("__debug__" : Str)) = false := by decide)
    (he : starEach [e] X.env = (false, eval e X.env) :: starEach [] X.env := by rfl) (hpl : (backTo pos (starEach [] X.env)).any (·.1) = false := by rfl) : DK X S (.Call (.Name x p) [e] [] pos) (mDictOf ma) :=
  PE.imp (pe_callTy (call_dictP hc) hg hm hv (pa_cons ha pa_nil he) hn hdb he hpl) fun σ H Q ⟨w, env, g, d, g', R, e, k⟩ => by
    obtain ⟨x, g1, e1, e⟩ := bD_some e
    split at e
    case h_2 => cases e
    rename_i ds
    split at e
    case h_2 => cases e
    rename_i kvs ek
    split at e
    case isFalse => cases e
    rename_i hnd
    cases e
    refine ⟨w, env, g, _, g', R, e1, fun v I' H' s R' p => ?_⟩
    cases p with
    | @lst a xs _ hp ra hl =>
      obtain ⟨ps, us, rfl, hpr, hk, rb, hlen⟩ := pairs_rp ra ek
      have hnd2 : (us.map (·.1)).Nodup := by rw [hk]; exact of_decide_eq_true hnd
      refine ⟨a, ps, us, rfl, SqL.of (R'.eI _ _ hp), pair_mono R'.eI hpr, fun q h0 => ?_⟩
      rw [merge_nd us [] hnd2, List.nil_append]
      exact k q us I' _ s (R'.alloc h0) (R'.nob h0) upd_same hk rb (by rw [hlen]; exact hl)
theorem Rel.putT {i : Nat} {v : V} {t : T2} (R : Rel K S w env g σ H) (ok : T2Ok K w.I H v t) (fr : ∀ a, t.fp H v a → Nob w env σ H a) : Rel K S w (env.set i (.tr t)) g (σ.set i (some v)) H :=
  R.put (fun k e _ => ⟨v, e, ok, fun a f => ⟨(fr a f).i, (fr a f).h0, (fr a f).f⟩⟩) fun a f j => by
    obtain ⟨u, e1, f⟩ := f
    rw [get_set] at e1
    split at e1
    · cases e1; exact (fr a f).o j
    · rename_i hi
      have : i < σ.length := Nat.lt_of_not_le fun hle => by rw [List.getElem?_eq_none hle] at e1; cases e1
      exact absurd ⟨rfl, this⟩ hi
def mSetK (i : Nat) (mk : MK G) : MS G := fun env g => bD (mk env g) fun kvs g1 => some (.nx, env.set i (.tr (.one (.dc kvs))), g1)
theorem ds_setK {i : Nat} {x : Str} {pos' : Pos} {mk : MK G} (hN : X.N.Nodup) (hi : X.N[i]? = some x) (hx : Loc X.env.scope x) (he : DK X S e mk) (hs : swapsWith e (some (.Name x pos')) pos.line X.env = pure false := by rfl)
    (hf : X.fn x = true ∨ X.env.scope.names.lookup x = some .local := by first | exact .inl rfl | exact .inr rfl | assumption) : DS X S (.Assign [.Name x pos'] e pos) (mSetK i mk) := PS.imp (ps_set hN hi hx he hs hf) fun D σ H ⟨w, env, g, c, env', g', R, e, k⟩ => by
  obtain ⟨kvs, g1, e1, e⟩ := bD_some e
  cases e
  exact ⟨w, env, g, kvs, g', R, e1, fun p vs I' H' s' R' n hp hk ra hz => k _ I' H' s' (R'.putT (w := w.im I') ⟨p, vs, rfl, hp, hk, ra, hz⟩ fun a ⟨_, f⟩ => by cases f; exact n)⟩
/-- a, b = e, {} -/
def mParK (i j : Nat) (ma : ME G) : MS G := fun env g => bD (ma env g) fun d g1 => some (.nx, (env.set i (.sh d)).set j (.tr (.one (.dc []))), g1)
theorem ds_parK {i j : Nat} {x y : Str} {px py pt p2 : Pos} {kt k2 pt2} (hc : X.calm = true) (hN : X.N.Nodup) (hi : X.N[i]? = some x) (hj : X.N[j]? = some y) (hij : i ≠ j)
    (hx : X.env.scope.names.lookup x = some .local) (hy : X.env.scope.names.lookup y = some .local) (ha : DE X S a ma)
    (hw : swappedStores [.Tuple [.Name x px, .Name y py] kt pt] (.Tuple [a, .Dict [] [] p2] k2 pt2) X.env = pure (some [x, y]))
    (hs : swapsWithSole [.Tuple [.Name x px, .Name y py] kt pt] (.Tuple [a, .Dict [] [] p2] k2 pt2) pos.line X.env = pure false := by rfl)
    (h1 : starEach [a, .Dict [] [] p2] X.env = (false, eval a X.env) :: starEach [.Dict [] [] p2] X.env := by rfl) (h2 : starEach [.Dict [] [] p2] X.env = (false, eval (.Dict [] [] p2) X.env) :: starEach [] X.env := by rfl) :
    DS X S (.Assign [.Tuple [.Name x px, .Name y py] kt pt] (.Tuple [a, .Dict [] [] p2] k2 pt2) pos) (mParK i j ma) := PS.imp (ps_par hc hN hi hj hij hx hy (pa_cons ha (pa_cons pe_dnewK pa_nil h2) h1) hw hs) fun D σ H ⟨w, env, g, c, env', g', R, e, k⟩ => by
  obtain ⟨d, g1, e1, e⟩ := bD_some e
  cases e
  refine ⟨w, env, g, d, g', R, e1, fun v I' H' s' R' r p h0 => ?_⟩
  have R1 := R'.alloc (o := .dK []) h0
  have n1 := R'.nob (o := .dK []) h0
  have R2 := R1.putD (i := i) r
  refine ⟨_, _, rfl, k _ I' _ s' (R2.putT (w := w.im I') (i := j) (v := .ref p) (t := .one (.dc [])) ⟨p, [], rfl, upd_same, rfl, .nil, Nat.zero_le _⟩ fun b ⟨_, f⟩ => ?_)⟩
  cases f
  refine ⟨n1.i, n1.h0, n1.f, fun q fq => ?_⟩
  rw [at_set] at fq
  by_cases hq : q = i ∧ i < env.length
  · rw [if_pos hq] at fq; exact fq
  · rw [if_neg hq] at fq
    exact n1.o q (fpt_eq (i := q) (by rw [get_set, if_neg (by rw [R'.len]; exact hq)]) fq)
/-- under a lock -/
theorem dk_lk (j : Nat) {mk : MK G} (h : DK X S e mk) : DK X S e (mLk j mk) := PE.imp (pe_lock h) fun σ H Q ⟨w, env, g, kvs2, g', R, e, k⟩ => by
  unfold mLk at e
  split at e
  case h_2 => cases e
  rename_i kvs ej
  obtain ⟨a, vs, sj, ha, hi, h0, hf, hk, ra, hz, RL⟩ := R.lockD ej
  refine ⟨a, _, ha, trivial, fun od => ⟨_, _, g, kvs2, g', RL od, e, fun p us I2 H' s R2 n hp hk2 ra2 hz2 => ?_⟩⟩
  obtain ⟨R3, sw, hI⟩ := R.unlockD ej sj ha hi h0 hf hk ra hz R2 s
  have ne : p ≠ a := fun z => by
    have := n.i
    have this : I2 p = none := this
    rw [z, hI] at this; cases this
  have hj := slot_lt R sj
  refine ⟨R2.eI _ _ hI, k p us _ _ sw R3 ⟨(drp_ne ne).trans n.i, n.h0, n.f, fun i f => ?_⟩ ((upd_ne ne).trans hp) hk2 (ra2.shr hI) hz2⟩
  by_cases h : i = j
  · rw [h, ej] at f
    obtain ⟨v, e1, f1, f2⟩ := f
    rw [sj] at e1; cases e1
    cases f2
    exact ne rfl
  · have e2 : Env.at (env.set j (.fz kvs)) i = env.at i := by rw [at_set, if_neg fun z => h z.1]
    have q2 := R2.slot i
    rw [e2] at q2
    have kp := q2.keep (σ' := σ) (w' := w.im I2) (H' := upd H' a (.dK vs)) rfl (Same.refl _) rfl fun b fb => by
      obtain ⟨a1, a2, a3, _⟩ := q2.fr fb
      exact ⟨upd_ne (fun z => by have a1 : I2 b = none := a1; rw [z, hI] at a1; cases a1), a1, a2, a3⟩
    exact n.o i (by rw [e2]; exact (kp.2 p).mp f)
/-! ### d[k] = e -/
def mPutD (j : Nat) (mi me : ME G) : MS G := fun env g => bD (me env g) fun d g1 => bD (mi env g1) fun i g2 => match env.at j, keyD i with
  | .tr (.one (.dc kvs)), some k => if kvs.length < sizeLine then some (.nx, env.set j (.tr (.one (.dc (putKD kvs k d)))), g2) else none
  | _, _ => none
theorem ds_putD (j : Nat) {x : Str} {xp sp : Pos} {i : Expr} {mi : ME G} (hu : X.A.units + 65 < cLine) (hi : DE X S i mi) (he : DE X S e me) (hN : X.N[j]? = some x := by rfl) (hv : Vis X.env.scope x := by first | exact Or.inl rfl | exact Or.inr (Or.inl rfl) | exact Or.inr (Or.inr rfl)) (hd : (x == ("__debug__" : Str)) = false := by decide)
    (hcd : (x == ("__classdict__" : Str)) = false := by decide) (hs : swapsWith e (some (.Subscript (.Name x xp) i sp)) pos.line X.env = pure false := by rfl) :
    DS X S (.Assign [.Subscript (.Name x xp) i sp] e pos) (mPutD j mi me) := PS.imp (ps_dput (by omega) (pe_var hN hv hd hcd) hi he hs) fun D σ H ⟨w, env, g, c, env', g', R, e, k⟩ => by
  obtain ⟨d, g1, e1, e⟩ := bD_some e
  obtain ⟨i, g2, e2, e⟩ := bD_some e
  split at e
  case h_2 => cases e
  rename_i kvs ky ej ek
  split at e
  case isFalse => cases e
  rename_i hlt
  cases e
  refine ⟨w, env, g, d, g1, R, e1, fun v I1 H1 s1 R1 p1 => ?_⟩
  have q1 := R1.slot j
  rw [ej] at q1
  obtain ⟨u, sj, ⟨a, vs, rfl, ha, hk, ra, hz⟩, own⟩ := q1
  refine ⟨_, sj, w.im I1, env, g1, i, g', R1, e2, fun y I2 H2 s2 R2 p2 => ?_⟩
  have q2 := R2.slot j
  rw [ej] at q2
  obtain ⟨u2, sj2, ⟨a2, vs2, rfl, ha2, hk2, ra2, hz2⟩, own2⟩ := q2
  rw [sj] at sj2
  cases sj2
  have hl2 : vs2.length = kvs.length := by have := congrArg List.length hk2; rwa [List.length_map, List.length_map] at this
  obtain ⟨r1, r2⟩ := putK_rp (k := ky) (p1.mono s2) hk2 ra2
  rw [keyD_rp p2 ek]
  refine ⟨_, _, rfl, DPut.k ha2 (by omega), k σ I2 _ (Same.trans s1 s2) ?_⟩
  have fo : fpt H2 σ j (env.at j) a := by rw [ej]; exact ⟨_, sj, rfl, rfl⟩
  refine R2.write (slot_lt R2 sj) (fun b z => ?_) (fun b o q z => ?_) ⟨_, sj, ⟨a, _, rfl, upd_same, r1, r2, Nat.le_trans (putKD_len _ _ _) (by omega)⟩, fun b ⟨_, f⟩ => by cases f; exact own2 a ⟨rfl, rfl⟩⟩ fun b f => ?_
  · by_cases h : b = a
    · exact .inr (h ▸ fo)
    · exact absurd (upd_ne h) z
  · by_cases h : b = a
    · rw [h, upd_same] at z; cases z
    · rw [upd_ne h, q] at z; cases z
  · obtain ⟨u, e3, _, f⟩ := f
    rw [sj] at e3; cases e3
    cases f
    exact .inr fo
end
end Pd

/-! Pe: sorted(d.items()). -/
namespace Pd
open PySem PySem.Spec PyProof.Rows L2
def tupD (p : Key × D) : D := .tuple [dKey p.1, p.2]
section
variable {X : Cx}
/-- d.items(), a view -/
def rItemsK : V → List V → Hp → VK → Prop := fun x xs H Q => ∃ (a : Addr) (kvs : List (Key × V)), x = .ref a ∧ xs = [] ∧ Rd H a (.dK kvs) ∧ ∀ p, H p = none → Q (.ref p) (upd H p (DX.itemsO p a))
theorem mt_itemsK : MtR X "dict.items" rItemsK := by
  intro pins s σ H x xs v us Q I rx rxs h
  obtain ⟨a, kvs, rfl, rfl, ha, q⟩ := h
  cases rx
  cases rxs
  obtain ⟨z, hd, vs, rel, dof⟩ := dk_rd I.hok ha
  obtain ⟨ep, dat⟩ := dof.dictAt
  obtain ⟨o, es, ho, hx, hdat, _⟩ := dat
  refine DT.callItems (es := es) (ep := ep) hd ⟨o, ho, hx, hdat⟩ ?_
  have hf : H s.heap.objs.size = none := I.hok.fresh (Nat.le_refl _)
  exact ⟨.ref s.heap.objs.size, upd H s.heap.objs.size (DX.itemsO s.heap.objs.size a), I.laid (t' := s.toks) (fun b u e => Heap.get?_push_of_some _ e) (Nat.le_refl _) (DX.itemsO_ok (Heap.get?_push_size _ rfl)), rfl, q _ hf⟩
def rSortK (K : PySem.W.Frag) : List V → Hp → VK → Prop := fun vs H Q => ∃ (p a : Addr) (kvs : List (Key × V)) (xs : List (Key × D)), vs = [.ref p] ∧ H p = some (DX.itemsO p a) ∧ Rd H a (.dK kvs) ∧ kvs.map (·.1) = xs.map (·.1) ∧ DpAll K H (kvs.map (·.2)) (xs.map (·.2)) ∧
  PySem.W.AllAlike (xs.map tupD) ∧ PySem.W.Sortable (xs.map tupD) ∧ (∀ x ∈ xs, (tupD x).depth ≤ 60) ∧
  ∀ (H' : Hp) (l : Addr) (zs : List (Addr × Nat)), (∀ b o, H b = some o → H' b = some o) → H l = none → (∀ z ∈ zs, H z.1 = none ∧ z.1 ≠ l) → H' l = some (.lst (zs.map fun z => V.ref z.1)) →
    (∀ z ∈ zs, ∃ e x, kvs[z.2]? = some e ∧ xs[z.2]? = some x ∧ H' z.1 = some (.tup [kV e.1, e.2])) → (zs.map fun z => tupD (xs.getD z.2 (.inl 0, .none))) = (xs.map tupD).mergeSort (PySem.W.dataLe false id) → Q (.ref l) H'
theorem reads_key {h : Heap} {P : Program} {w : World} {k : Key} {u : Value} (e : (mixKind P w).is k u = true) : Reads h u (dKey k) [] := by
  rcases keyIs_shape (show keyIs k u = true from e) with ⟨i, t, rfl, rfl⟩ | ⟨x, t, rfl, rfl⟩
  · exact Reads.int i t
  · exact Reads.str x t
theorem cr_sortK (hc : X.calm = true) (hu : X.A.units + 65 < cLine) : CallR X (.builtin "sorted") (rSortK X.K) := by
  intro pins s σ H ys us Q I r h
  obtain ⟨p, a, kvs, xs, rfl, hp, ha, hk, hd, hal, hso, hdep, q⟩ := h
  obtain rfl := Vals.ref1 r
  have view : s.heap.IsItemsView p a := (show ObjOk X.prog X.w H s.heap p (DX.itemsO p a) from I.hok p _ hp).1
  obtain ⟨hz, hsys, vs, rel, dof⟩ := dk_rd I.hok ha
  obtain ⟨ep, dat⟩ := dof.dictAt
  obtain ⟨ob, es, ho, hex, hdat, hko, hpr, hnd⟩ := id dat
  have l0 : kvs.length = xs.length := by have := congrArg List.length hk; rwa [List.length_map, List.length_map] at this
  have l1 : kvs.length = vs.length := KV.length rel
  have l2 : es.size = vs.length := by rw [← Array.length_toList]; exact hpr.length
  have hh : X.A.handled = none := I.ok.hd hc
  refine DT.sortedI (es := es) (ep := ep) hh view ⟨ob, ho, hex, hdat⟩ (by omega) fun h' tk as hkp hlt hl hG => ?_
  have lak : as.length = xs.length := by omega
  have nd : as.Nodup := List.Pairwise.imp (fun h => Nat.ne_of_lt h) hG.rise
  -- the pairs that were made
  have pr : ∀ (j : Nat) (b : Addr), as[j]? = some b → ∃ (e : Key × V) (x : Key × D) (key v : Value), kvs[j]? = some e ∧ xs[j]? = some x ∧ e.1 = x.1 ∧ Dp X.K H e.2 x.2 ∧ (mixKind X.prog X.w).is e.1 key = true ∧ RelV e.2 v ∧ h'.get? b = some { cls := .type "tuple", data := .seq #[key, v] } := by
    intro j b hj
    obtain ⟨en, he, hg⟩ := hG.pairs j b hj
    have hjl : j < as.length := (List.getElem?_eq_some_iff.mp hj).1
    have hjv : j < vs.length := by omega
    have hjk : j < kvs.length := by omega
    have hjx : j < xs.length := by omega
    obtain ⟨h1, h2⟩ := Pairs.get? hpr (i := j) (e := en) (k := vs[j].1) (v := vs[j].2) (by rw [Array.getElem?_toList]; exact he) (List.getElem?_eq_getElem hjv)
    obtain ⟨y, g1, g2⟩ := kv_get rel (i := j) (k := kvs[j].1) (v := kvs[j].2) (List.getElem?_eq_getElem hjk)
    rw [List.getElem?_eq_getElem hjv] at g1
    have g1 : vs[j] = (kvs[j].1, y) := Option.some.inj g1
    rw [g1] at h1 h2
    have ek : kvs[j].1 = xs[j].1 := by
      have e1 : (kvs.map (·.1))[j]? = (xs.map (·.1))[j]? := by rw [hk]
      rw [List.getElem?_map, List.getElem?_map, List.getElem?_eq_getElem hjk, List.getElem?_eq_getElem hjx] at e1
      exact Option.some.inj e1
    have dp : ∀ {l : List V} {m : List D} {j : Nat} {v : V} {d : D}, DpAll X.K H l m → l[j]? = some v → m[j]? = some d → Dp X.K H v d := fun {l m j v d} hh => by
      induction l generalizing m j with
      | nil => intro h; simp at h
      | cons u l ih =>
        intro h1 h2
        cases hh with
        | cons a b =>
          cases j with
          | zero => simp at h1 h2; subst h1; subst h2; exact a
          | succ j => exact ih b (by simpa using h1) (by simpa using h2)
    refine ⟨kvs[j], xs[j], en.key, en.val, List.getElem?_eq_getElem hjk, List.getElem?_eq_getElem hjx, ek, dp hd (j := j) (by rw [List.getElem?_map, List.getElem?_eq_getElem hjk]; rfl) (by rw [List.getElem?_map, List.getElem?_eq_getElem hjx]; rfl), h1, ?_, hg⟩
    rw [h2]
    exact g2
  -- the heap of the sort
  have hob : (h'.push { cls := .type "list", data := .seq (as.map Value.ref).toArray }).get? h'.objs.size = some (seqObj "list" (as.map Value.ref).toArray 0) := Heap.get?_push_size _ rfl
  have kb : ∀ b o, s.heap.get? b = some o → (h'.push { cls := .type "list", data := .seq (as.map Value.ref).toArray }).get? b = some o := fun b o e => Heap.get?_push_of_some _ (hkp b o e)
  have ne0 : ∀ b o, h'.get? b = some o → b ≠ h'.objs.size := fun b o e => Nat.ne_of_lt (Heap.lt_size e)
  have ka : ∀ b o, h'.get? b = some o → (h'.push { cls := .type "list", data := .seq (as.map Value.ref).toArray }).get? b = some o := fun b o e => Heap.get?_push_of_some _ e
  generalize hh2 : h'.push { cls := .type "list", data := .seq (as.map Value.ref).toArray } = h2 at hob kb ka ⊢
  let bs : List (Addr × Nat) := as.zip (List.range as.length)
  have ml : (List.range as.length).length = as.length := List.length_range
  have m1 : bs.map (·.1) = as := List.map_fst_zip (by omega)
  let enc : Addr × Nat → D := fun z => tupD (xs.getD z.2 (.inl 0, .none))
  have idx : ∀ z ∈ bs, as[z.2]? = some z.1 := fun z hz' => by
    obtain ⟨j, hj⟩ := List.mem_iff_getElem?.mp hz'
    obtain ⟨j1, j2⟩ := List.getElem?_zip_eq_some.mp hj
    have : z.2 = j := by
      have hjl : j < as.length := (List.getElem?_eq_some_iff.mp j1).1
      rw [List.getElem?_range hjl] at j2
      exact (Option.some.inj j2).symm
    rw [this]; exact j1
  have encs : bs.map enc = xs.map tupD := by
    apply List.ext_getElem?
    intro j
    rw [List.getElem?_map, List.getElem?_map]
    by_cases hj : j < as.length
    · have e1 : bs[j]? = some (as[j], j) := List.getElem?_zip_eq_some.mpr ⟨List.getElem?_eq_getElem hj, List.getElem?_range hj⟩
      have hjx : j < xs.length := by omega
      rw [e1, List.getElem?_eq_getElem hjx]
      show some (tupD (xs.getD j _)) = some (tupD xs[j])
      rw [List.getD_eq_getElem?_getD, List.getElem?_eq_getElem hjx]; rfl
    · rw [List.getElem?_eq_none (by rw [List.length_zip, ml]; omega), List.getElem?_eq_none (by omega)]
      rfl
  have rds : ∀ z ∈ bs, ∃ as', Reads h2 (.ref z.1) (enc z) as' ∧ h'.objs.size ∉ as' := fun z hz' => by
    obtain ⟨e, x, key, v, q1, q2, q3, q4, q5, q6, q7⟩ := pr z.2 z.1 (idx z hz')
    obtain ⟨rs, rd⟩ := Dp.reads I x.2 e.2 v q4 q6
    have ee : enc z = .tuple [dKey x.1, x.2] := by
      show tupD (xs.getD z.2 _) = _
      rw [List.getD_eq_getElem?_getD, q2]; rfl
    rw [ee]
    rw [q3] at q5
    refine ⟨[] ++ (rs ++ []), Reads.tuple (ka _ _ q7) rfl rfl (.cons (reads_key q5) (.cons (PyProof.Rows.Reads.keeps kb rd) .nil)), fun hm => ?_⟩
    rw [List.nil_append, List.append_nil] at hm
    obtain ⟨o, ho'⟩ := PyProof.On.reads_mem_get rd _ hm
    exact Nat.lt_irrefl _ (Nat.lt_trans (Nat.lt_of_lt_of_le (Heap.lt_size ho') (Nat.le_refl _)) hlt)
  have eachR : PySem.W.EachIs (fun (v : Value) (b : Addr × Nat) => v = .ref b.1) (as.map Value.ref) bs := by
    have : ∀ (l : List (Addr × Nat)), PySem.W.EachIs (fun (v : Value) (b : Addr × Nat) => v = .ref b.1) ((l.map (·.1)).map Value.ref) l := fun l => by
      induction l with
      | nil => exact .nil
      | cons z l ih => exact .cons rfl ih
    have := this bs
    rw [m1] at this
    exact this
  have eachD : PySem.W.EachIs (fun (v : Value) (b : Addr × Nat) => ∃ as', Reads h2 v (enc b) as' ∧ h'.objs.size ∉ as') (as.map Value.ref) bs := by
    have key : ∀ {l : List (Addr × Nat)} {vs : List Value}, PySem.W.EachIs (fun (v : Value) (b : Addr × Nat) => v = .ref b.1) vs l → (∀ z ∈ l, ∃ as', Reads h2 (.ref z.1) (enc z) as' ∧ h'.objs.size ∉ as') → PySem.W.EachIs (fun (v : Value) (b : Addr × Nat) => ∃ as', Reads h2 v (enc b) as' ∧ h'.objs.size ∉ as') vs l := fun {l vs} h => by
      induction h with
      | nil => exact fun _ => .nil
      | cons r _ ih => intro hz'; exact .cons (by rw [r]; exact hz' _ (List.mem_cons_self ..)) (ih fun z hm => hz' z (List.mem_cons_of_mem _ hm))
    exact key eachR rds
  have hbl : bs.length = as.length := by rw [← m1, List.length_map]
  refine PySem.W.list_sort_data (s := { s with heap := h2, toks := tk }) (a := h'.objs.size) (vs := as.map Value.ref) (bs := bs) (enc := enc) (R := fun v b => v = .ref b.1) hob eachR eachD (by rw [encs]; exact hal) (by rw [encs]; exact hso) (by omega) (fun b hb => ?_) fun out ho' eo => ?_
  · have : (enc b).depth ≤ 60 := by
      have : enc b ∈ xs.map tupD := by rw [← encs]; exact List.mem_map.mpr ⟨b, hb, rfl⟩
      obtain ⟨x, hx, e⟩ := List.mem_map.mp this
      rw [← e]; exact hdep x hx
    show X.A.units + 1 + 1 + _ < _
    omega
  · let zs := bs.mergeSort (PySem.W.dataLe false enc)
    have hpz : zs.Perm bs := List.mergeSort_perm _ _
    have hout : out = zs.map fun z => Value.ref z.1 := by
      have : ∀ {l : List (Addr × Nat)} {vs : List Value}, PySem.W.EachIs (fun (v : Value) (b : Addr × Nat) => v = .ref b.1) vs l → vs = l.map fun z => Value.ref z.1 := fun {l vs} h => by
        induction h with
        | nil => rfl
        | cons r _ ih => rw [r, ih]; rfl
      exact this eo
    have hlz : zs.length = as.length := by rw [hpz.length_eq, hbl]
    have kF : ∀ b o, b ≠ h'.objs.size → h2.get? b = some o → (sortedHeap h2 h'.objs.size (as.map Value.ref) (List.toArray out)).get? b = some o := fun b o hb e => (PyProof.Rows.sortedHeap_old hb (Heap.lt_size e)).trans e
    have kS : ∀ b o, s.heap.get? b = some o → (sortedHeap h2 h'.objs.size (as.map Value.ref) (List.toArray out)).get? b = some o := fun b o e => kF b o (ne0 _ _ (hkp b o e)) (kb b o e)
    obtain ⟨eF, heF⟩ := PyProof.Rows.sortedHeap_at (vs := as.map Value.ref) (out := List.toArray out) hob
    show EP X pins σ Q (.ref h'.objs.size) { s with heap := sortedHeap h2 h'.objs.size (as.map Value.ref) (List.toArray out), toks := tk }
    have I1 : Inv X pins σ H { s with heap := sortedHeap h2 h'.objs.size (as.map Value.ref) (List.toArray out), toks := tk } := I.kept (t' := tk) kS
    have hn0 : H h'.objs.size = none := I.hok.fresh (Nat.le_of_lt hlt)
    have hlen : (zs.map fun z => V.ref z.1).length ≤ sizeLine := by rw [List.length_map]; omega
    have rv : Vals (zs.map fun z => V.ref z.1) (List.toArray out).toList := by
      rw [hout]
      have : ∀ l : List (Addr × Nat), Vals (l.map fun z => V.ref z.1) (l.map fun z => Value.ref z.1) := fun l => by
        induction l with
        | nil => exact .nil
        | cons z l ih => exact .cons rfl ih
      exact this zs
    have I2 : Inv X pins σ (upd H h'.objs.size (.lst (zs.map fun z => V.ref z.1))) { s with heap := sortedHeap h2 h'.objs.size (as.map Value.ref) (List.toArray out), toks := tk } :=
      I1.take (h' := sortedHeap h2 h'.objs.size (as.map Value.ref) (List.toArray out)) (t' := tk) (fun b ob _ e => e) (I.fpOk (Nat.le_of_lt hlt) hn0) ⟨hlen, (List.toArray out).toList, eF, rv, heF⟩
    obtain ⟨H2, I3, g, qt⟩ := DX.takeT (P := fun b ws => ∃ (j : Nat) (e : Key × V) (x : Key × D), as[j]? = some b ∧ kvs[j]? = some e ∧ xs[j]? = some x ∧ ws = [kV e.1, e.2]) I as _ I2 nd fun b hb => by
      obtain ⟨j, hj⟩ := List.mem_iff_getElem?.mp hb
      obtain ⟨e, x, key, v, q1, q2, q3, q4, q5, q6, q7⟩ := pr j b hj
      have hbl : s.heap.objs.size ≤ b := Nat.le_of_lt (hG.above b hb)
      refine ⟨hbl, ?_, [kV e.1, e.2], ⟨j, e, x, hj, q1, q2, rfl⟩, fun H3 => ⟨(by show 2 ≤ sizeLine; decide), [key, v], .cons (relV_key (show keyIs e.1 key = true from q5)) (.cons q6 .nil), ⟨_, kF _ _ (ne0 _ _ q7) (ka _ _ q7), rfl, 0, rfl⟩⟩⟩
      rw [upd_ne (ne0 _ _ q7)]
      exact I.hok.fresh hbl
    have gr : ∀ b o, H b = some o → H2 b = some o := fun b o e => g b o (by rw [upd_ne (ne_of_none e hn0)]; exact e)
    have zin : ∀ z ∈ zs, as[z.2]? = some z.1 := fun z hz' => idx z (hpz.mem_iff.mp hz')
    refine ⟨.ref h'.objs.size, H2, I3, rfl, q H2 h'.objs.size zs gr hn0 (fun z hz' => ?_) (g _ _ upd_same) (fun z hz' => ?_) ?_⟩
    · have hb := List.mem_of_getElem? (zin z hz')
      obtain ⟨e, x, key, v, q1, q2, q3, q4, q5, q6, q7⟩ := pr z.2 z.1 (zin z hz')
      exact ⟨I.hok.fresh (Nat.le_of_lt (hG.above z.1 hb)), ne0 _ _ q7⟩
    · obtain ⟨ws, ⟨j, e, x, j1, j2, j3, ev⟩, hH⟩ := qt z.1 (List.mem_of_getElem? (zin z hz'))
      have eij : z.2 = j := (List.getElem?_inj (List.getElem?_eq_some_iff.mp (zin z hz')).1 nd).mp ((zin z hz').trans j1.symm)
      rw [eij, j2, j3]
      exact ⟨e, x, rfl, rfl, by rw [hH, ev]⟩
    · have := List.map_mergeSort (r := PySem.W.dataLe false enc) (s := PySem.W.dataLe false (id : D → D)) (f := enc) (l := bs) fun _ _ _ _ => rfl
      rw [encs] at this
      exact this
end
end Pd

/-! Pe: sorted(d.items()) of a locked dict; lists of dicts of one's own. -/
namespace Pd
open PySem PySem.Spec L2
section
variable {G : Type} {X : Cx} {S : Gs G} {a b c e : Expr} {es : List Expr} {pos : Pos} {ma mb me : ME G} {mt mu : MT G} {ml : ML G} {tg iter : Expr} {st : Stmt}
variable {K : PySem.W.Frag} {w : Wd} {env env' : Env} {g g' : G} {σ : St} {H H' I' : Hp}
/-! ### sorted(d.items()) -/
theorem pe_itemsK {te : TE} {apos cpos : Pos} (he : PE X e te) (hbase : attributeBase e "items" X.env (eval e X.env) = eval e X.env := by rfl) (hline : (apos.endLine == cpos.line) = true := by rfl) :
    PE X (.Call (.Attribute e "items" apos) [] [] cpos) (fun σ H Q => te σ H fun x H1 => rItemsK x [] H1 Q) := by
  refine ⟨fun pins s σ H Q I hq => ?_⟩
  refine wpAny_Call_method (T := "dict") (id := "dict.items") hbase rfl hline F.plainAttrs_dict F.slot_dict_items F.type_dict_items (thn (he.run pins s σ H _ I hq) fun u s1 ⟨x, H1, I1, rx, d, kvs, ex, _, hd, q⟩ => ?_)
  subst ex
  obtain rfl : u = Value.ref d := rx
  obtain ⟨hz, hs0, vs, kv, hdo⟩ := dk_rd I1.hok hd
  obtain ⟨ep, hat⟩ := hdo.dictAt
  refine ⟨hdo.typeIs, hdo.mapOf.noDict, ?_⟩
  show wpAny _ _ (callWith cpos (.builtin "dict.items") [.ref d] [] []) _ X.xe s1
  refine method_meetsIn F.slot_dict_items F.entry_dict_items rfl (PySem.evalArgs_none ⟨rfl, hdo.typeIs, F.args_dict_items_1 _, _, meets_dict_items (mixKind X.prog X.w) d hs0, ⟨vs, hdo⟩, ?_⟩)
  exact ⟨.ref s1.heap.objs.size, upd H1 s1.heap.objs.size (DX.itemsO s1.heap.objs.size d), I1.laid (t' := s1.toks) (fun b u e => Heap.get?_push_of_some _ e) (Nat.le_refl _) (DX.itemsO_ok (Heap.get?_push_size _ rfl)), rfl, q _ (I1.hok.fresh (Nat.le_refl _))⟩
def dSortItems (kvs : List (Key × D)) : Option (List D) := if alikeB (kvs.map tupD) = true ∧ (((kvs.map tupD).all isTupNe) = true ∨ ((kvs.map tupD).all notTup) = true) ∧ ((kvs.map tupD).all fun d => decide (d.depth ≤ 60)) = true ∧ (intK kvs).isSome = true then some ((kvs.map tupD).mergeSort (PySem.W.dataLe false id)) else none
def ptI (I H' : Hp) (L : List Addr) : Hp := fun b => if b ∈ L then H' b else I b
theorem df_sortItems {x y : Str} {p yp apos cpos : Pos} (j : Nat) (hc : X.calm = true) (hu : X.A.units + 65 < cLine) (hg : Gl X x) (hm : X.mg x = none) (hv : bootBuiltins x = some (.builtin "sorted"))
    (hN : X.N[j]? = some y := by rfl) (hvy : Vis X.env.scope y := by first | exact Or.inl rfl | exact Or.inr (Or.inl rfl) | exact Or.inr (Or.inr rfl)) (hd : (y == ("__debug__" : Str)) = false := by decide) (hcd : (y == ("__classdict__" : Str)) = false := by decide)
    (hbase : attributeBase (.Name y yp) "items" X.env (eval (.Name y yp) X.env) = eval (.Name y yp) X.env := by rfl) (hline : (apos.endLine == cpos.line) = true := by rfl)
    (hn : x ≠ "__name__" := by decide) (hdb : (x == ("__debug__" : Str)) = false := by decide)
    (he : starEach [.Call (.Attribute (.Name y yp) "items" apos) [] [] cpos] X.env = (false, eval (.Call (.Attribute (.Name y yp) "items" apos) [] [] cpos) X.env) :: starEach [] X.env := by rfl) (hpl : (backTo pos (starEach [] X.env)).any (·.1) = false := by rfl) :
    DF X S (.Call (.Name x p) [.Call (.Attribute (.Name y yp) "items" apos) [] [] cpos] [] pos) (mFzF dSortItems j) :=
  PE.imp (pe_callB (cr_sortK hc hu) hg hm hv (pa_cons (pe_itemsK (pe_var hN hvy hd hcd) hbase hline) pa_nil he) hn hdb he hpl) fun σ H Q ⟨w, env, g, d, g', R, e, k⟩ => by
    unfold mFzF at e
    split at e
    case h_2 => cases e
    rename_i kvs ej
    obtain ⟨e3, rfl⟩ := map_some e
    unfold dSortItems at e3
    split at e3
    case isFalse => cases e3
    rename_i hcnd
    cases e3
    obtain ⟨a, vs, o, sj, hi, ha, hk, ra, hz⟩ := R.fzA ej
    refine ⟨_, sj, a, vs, rfl, rfl, .inr ⟨o, ha⟩, fun q h0 => ?_⟩
    have nq : ∀ b, H b ≠ none → upd H q (DX.itemsO q a) b = H b := fun b hb => upd_ne fun z => hb (z ▸ h0)
    have sq : Same H (upd H q (DX.itemsO q a)) := same_new h0
    have hl : vs.length = kvs.length := by have := congrArg List.length hk; rwa [List.length_map, List.length_map] at this
    refine ⟨q, a, vs, kvs, rfl, upd_same, .inr ⟨o, sq _ _ ha⟩, hk, ((ra.mono R.eI).mono sq).dpAll (fun d hd => by
      obtain ⟨x, hx, rfl⟩ := List.mem_map.mp hd
      have q := of_decide_eq_true (List.all_eq_true.mp hcnd.2.2.1 (tupD x) (List.mem_map.mpr ⟨x, hx, rfl⟩))
      simp only [tupD, PyData.depth, PyData.depthAll] at q
      omega), alikeB_of hcnd.1, sortable_of hcnd.2.1, fun x hx => of_decide_eq_true (List.all_eq_true.mp hcnd.2.2.1 (tupD x) (List.mem_map.mpr ⟨x, hx, rfl⟩)), fun H' l zs hext hl0 hnew hlst htup hord => ?_⟩
    have sH : Same H H' := sq.trans hext
    have hnH : ∀ z ∈ zs, H z.1 = none := fun z hz' => by
      have := (hnew z hz').1
      cases e : H z.1 with
      | none => rfl
      | some u => rw [sq _ _ e] at this; cases this
    have nI : ∀ b ∈ zs.map (·.1), w.I b = none := fun b hb => by
      obtain ⟨z, hz', rfl⟩ := List.mem_map.mp hb
      exact R.eI.free (hnH z hz')
    let I2 := ptI w.I H' (zs.map (·.1))
    have sI : Same w.I I2 := fun b u q => by
      show (if b ∈ zs.map (·.1) then H' b else w.I b) = some u
      rw [if_neg fun z => by rw [nI b z] at q; cases q]; exact q
    have ps : Pst w.I H I2 H' := ⟨sI, sH, fun b u q => by
      have q : (if b ∈ zs.map (·.1) then H' b else w.I b) = some u := q
      split at q
      · exact q
      · exact sH _ _ (R.eI _ _ q), fun b hb => by
      show (if b ∈ zs.map (·.1) then H' b else w.I b) = w.I b
      rw [if_neg fun z => by
        obtain ⟨y, hy, rfl⟩ := List.mem_map.mp z
        exact hb (hnH y hy)]⟩
    have hlH : H l = none := by
      cases e : H l with
      | none => rfl
      | some u => rw [sq _ _ e] at hl0; cases hl0
    have hlI : I2 l = none := by
      show (if l ∈ zs.map (·.1) then H' l else w.I l) = none
      rw [if_neg fun z => by
        obtain ⟨y, hy, e⟩ := List.mem_map.mp z
        exact (hnew y hy).2 e]
      exact R.eI.free hlH
    have hints := hcnd.2.2.2
    have items : RpA X.K I2 (zs.map fun z => V.ref z.1) (zs.map fun z => tupD (kvs.getD z.2 (.inl 0, .none))) := by
      have key : ∀ l : List (Addr × Nat), (∀ z ∈ l, z ∈ zs) → RpA X.K I2 (l.map fun z => V.ref z.1) (l.map fun z => tupD (kvs.getD z.2 (.inl 0, .none))) := fun l => by
        induction l with
        | nil => exact fun _ => .nil
        | cons z l ih =>
          intro hsub
          refine .cons ?_ (ih fun y hy => hsub y (List.mem_cons_of_mem _ hy))
          have hz' := hsub z (List.mem_cons_self ..)
          obtain ⟨e, x, e1, e2, e3⟩ := htup z hz'
          have gd : kvs.getD z.2 (.inl 0, .none) = x := by rw [List.getD_eq_getElem?_getD, e2]; rfl
          show Rp X.K I2 (V.ref z.1) (tupD (kvs.getD z.2 (.inl 0, .none)))
          rw [gd]
          have hx : e.1 = x.1 := by
            have : (vs.map (·.1))[z.2]? = (kvs.map (·.1))[z.2]? := by rw [hk]
            rw [List.getElem?_map, List.getElem?_map, e1, e2] at this
            exact Option.some.inj this
          obtain ⟨v, e4, rv⟩ := ra.get (i := z.2) (d := x.2) (by rw [List.getElem?_map, e2]; rfl)
          have ev : v = e.2 := by
            rw [List.getElem?_map, e1] at e4
            exact (Option.some.inj e4).symm
          rw [ev] at rv
          have hti : I2 z.1 = some (.tup [kV e.1, e.2]) := by
            show (if z.1 ∈ zs.map (·.1) then H' z.1 else w.I z.1) = _
            rw [if_pos (List.mem_map.mpr ⟨z, hz', rfl⟩)]
            exact e3
          have kx : Rp X.K I2 (kV e.1) (dKey x.1) := by
            rw [hx]
            obtain ⟨is, hs⟩ := Option.isSome_iff_exists.mp hints
            have hm := intK_map hs
            have hmem : x.1 ∈ kvs.map (·.1) := List.mem_map.mpr ⟨x, List.mem_of_getElem? e2, rfl⟩
            rw [hm] at hmem
            obtain ⟨i, _, e5⟩ := List.mem_map.mp hmem
            rw [← e5]
            exact .int i
          exact .tup (.inl (.inl hti)) (.cons kx (.cons (rv.mono sI) .nil)) (by show 2 ≤ sizeLine; decide)
      exact key zs fun _ h => h
    rw [hord] at items
    have hlen : ((kvs.map tupD).mergeSort (PySem.W.dataLe false id)).length ≤ sizeLine := by rw [(List.mergeSort_perm _ _).length_eq, List.length_map]; exact hz
    exact k l _ I2 H' sI (R.pst ps) (R.nobP hlH ps hlI) hlst items hlen

/-! ### lists of dicts of one's own -/
abbrev LKs := List (Addr × List (Key × V))
def lockH : Hp → LKs → List Obj → Hp
  | H, q :: L, o :: ods => lockH (upd H q.1 (.frz o (.dK q.2))) L ods
  | H, _, _ => H
def rstH : Hp → LKs → Hp
  | H, [] => H
  | H, q :: L => upd (rstH H L) q.1 (.dK q.2)
theorem mem1 {α : Type} {L : List (Addr × α)} {r : Addr × α} {a : Addr} (h : r ∈ L) (e : r.1 = a) : a ∈ L.map (·.1) := e ▸ List.mem_map.mpr ⟨r, h, rfl⟩
theorem lockH_out {b : Addr} : ∀ {L : LKs} {ods : List Obj} {H : Hp}, b ∉ L.map (·.1) → lockH H L ods b = H b
  | [], _, _, _ => by cases ‹List Obj› <;> rfl
  | q :: L, [], _, _ => rfl
  | q :: L, o :: ods, H, h => by
    show lockH (upd H q.1 _) L ods b = H b
    rw [lockH_out fun z => h (List.mem_cons_of_mem _ z), upd_ne fun z => h (by rw [z]; exact List.mem_cons_self ..)]
theorem lockH_in : ∀ {L : LKs} {ods : List Obj} {H : Hp} {k : Nat} {q : Addr × List (Key × V)} {o : Obj}, (L.map (·.1)).Nodup → L[k]? = some q → ods[k]? = some o → lockH H L ods q.1 = some (.frz o (.dK q.2))
  | [], _, _, k, _, _, _, h, _ => by simp at h
  | q :: L, [], _, k, _, _, _, _, h => by simp at h
  | q :: L, o :: ods, H, 0, _, _, n, h1, h2 => by
    simp at h1 h2; subst h1; subst h2
    show lockH (upd H q.1 _) L ods q.1 = _
    rw [lockH_out (List.nodup_cons.mp n).1, upd_same]
  | q :: L, o :: ods, H, k + 1, _, _, n, h1, h2 => by
    rename_i r p
    show lockH (upd H q.1 (.frz o (.dK q.2))) L ods r.1 = _
    exact lockH_in (L := L) (ods := ods) (k := k) (q := r) (o := p) (List.nodup_cons.mp n).2 (by simpa using h1) (by simpa using h2)
theorem rstH_out {b : Addr} : ∀ {L : LKs} {H : Hp}, b ∉ L.map (·.1) → rstH H L b = H b
  | [], _, _ => rfl
  | q :: L, H, h => by
    show upd (rstH H L) q.1 _ b = H b
    rw [upd_ne fun z => h (by rw [z]; exact List.mem_cons_self ..), rstH_out fun z => h (List.mem_cons_of_mem _ z)]
theorem rstH_in : ∀ {L : LKs} {H : Hp} {q : Addr × List (Key × V)}, (L.map (·.1)).Nodup → q ∈ L → rstH H L q.1 = some (.dK q.2)
  | q :: L, H, r, n, h => by
    rcases List.mem_cons.mp h with rfl | h
    · exact upd_same
    · show upd (rstH H L) q.1 _ r.1 = _
      have ne : r.1 ≠ q.1 := fun z => (List.nodup_cons.mp n).1 (mem1 h z)
      rw [upd_ne ne]
      exact rstH_in (List.nodup_cons.mp n).2 h
/-- several dicts locked, one behind the other -/
def tLkN {α : Type} : LKs → (St → Hp → (α → Hp → Prop) → Prop) → St → Hp → (α → Hp → Prop) → Prop
  | [], t => t
  | q :: L, t => fun σ H Q => H q.1 = some (.dK q.2) ∧ ∀ od, tLkN L t σ (upd H q.1 (.frz od (.dK q.2))) fun v H' => H' q.1 = some (.frz od (.dK q.2)) ∧ Q v (upd H' q.1 (.dK q.2))
theorem pe_lkN {t : TE} (h : PE X e t) : ∀ L : LKs, PE X e (tLkN L t)
  | [] => h
  | q :: L => PE.imp (pe_lock (pe_lkN h L)) fun σ H Q ⟨h1, h2⟩ => ⟨q.1, .dK q.2, h1, trivial, h2⟩
theorem pt_lkN {t : TT} (h : PT X e t) : ∀ L : LKs, PT X e (tLkN L t)
  | [] => h
  | q :: L => PT.imp (pt_lock (pt_lkN h L)) fun σ H Q ⟨h1, h2⟩ => ⟨q.1, .dK q.2, h1, trivial, h2⟩
theorem tLkN_of {α : Type} {t : St → Hp → (α → Hp → Prop) → Prop} (mono : ∀ (σ : St) (H : Hp) (Q Q' : α → Hp → Prop), (∀ v H, Q v H → Q' v H) → t σ H Q → t σ H Q') : ∀ {L : LKs} {H : Hp} {Q : α → Hp → Prop}, (L.map (·.1)).Nodup → (∀ q ∈ L, H q.1 = some (.dK q.2)) →
    (∀ ods : List Obj, ods.length = L.length → t σ (lockH H L ods) fun v H' => (∀ (k : Nat) (q : Addr × List (Key × V)) (o : Obj), L[k]? = some q → ods[k]? = some o → H' q.1 = some (.frz o (.dK q.2))) ∧ Q v (rstH H' L)) → tLkN L t σ H Q
  | [], H, Q, _, _, k => mono σ H _ Q (fun v H h => h.2) (k [] rfl)
  | q :: L, H, Q, n, hd, k => by
    refine ⟨hd q (List.mem_cons_self ..), fun od => ?_⟩
    have n2 := List.nodup_cons.mp n
    refine tLkN_of mono (L := L) (H := upd H q.1 (.frz od (.dK q.2))) (Q := fun v H' => H' q.1 = some (.frz od (.dK q.2)) ∧ Q v (upd H' q.1 (.dK q.2))) n2.2 (fun r hr => ?_) fun ods hl => ?_
    · have ne : r.1 ≠ q.1 := fun z => n2.1 (mem1 hr z)
      rw [upd_ne ne]
      exact hd r (List.mem_cons_of_mem _ hr)
    · refine mono σ _ _ _ (fun v H' hh => ?_) (k (od :: ods) (by simp [hl]))
      refine ⟨fun j r o e1 e2 => hh.1 (j + 1) r o (by simpa using e1) (by simpa using e2), ?_, hh.2⟩
      show rstH H' L q.1 = _
      rw [rstH_out n2.1]
      exact hh.1 0 q od rfl rfl
theorem te_mono {m : ME G} {Q Q' : VK} (i : ∀ v H, Q v H → Q' v H) (h : tE K S m σ H Q) : tE K S m σ H Q' := by
  obtain ⟨w, env, g, d, g', R, e, k⟩ := h
  exact ⟨w, env, g, d, g', R, e, fun v I' H' s R' p => i _ _ (k v I' H' s R' p)⟩
theorem tt_mono {m : MT G} {Q Q' : Bool → Hp → Prop} (i : ∀ v H, Q v H → Q' v H) (h : tT K S m σ H Q) : tT K S m σ H Q' := by
  obtain ⟨w, env, g, d, g', R, e, k⟩ := h
  exact ⟨w, env, g, d, g', R, e, fun I' H' s R' => i _ _ (k I' H' s R')⟩
def kssOf : List T1 → Option (List (List (Key × D)))
  | [] => some []
  | .dc kvs :: r => (kssOf r).map (kvs :: ·)
  | _ :: _ => none
theorem kss_map : ∀ {ts : List T1} {kss : List (List (Key × D))}, kssOf ts = some kss → ts = kss.map .dc
  | [], kss, h => by cases h; rfl
  | .dc kvs :: r, kss, h => by
    obtain ⟨js, h1, rfl⟩ := Option.map_eq_some_iff.mp h
    rw [List.map_cons, kss_map h1]
  | .lf _ :: _, _, h => nomatch h
  | .ls _ :: _, _, h => nomatch h
  | .lk _ :: _, _, h => nomatch h
theorem kss_of : ∀ kss : List (List (Key × D)), kssOf (kss.map .dc) = some kss
  | [] => rfl
  | k :: r => by show (kssOf (r.map .dc)).map (k :: ·) = _; rw [kss_of r]; rfl
/-- the dicts of a list -/
theorem dicts_of {I : Hp} {H : Hp} : ∀ {vs : List V} {kss : List (List (Key × D))}, vs.length = kss.length → (∀ (k : Nat) (u : V) (t : T1), vs[k]? = some u → (kss.map T1.dc)[k]? = some t → T1Ok K I H u t) →
    ∃ L : LKs, vs = L.map (fun q => V.ref q.1) ∧ L.length = kss.length ∧ ∀ (k : Nat) (q : Addr × List (Key × V)) (kvs : List (Key × D)), L[k]? = some q → kss[k]? = some kvs → H q.1 = some (.dK q.2) ∧ q.2.map (·.1) = kvs.map (·.1) ∧ RpA K I (q.2.map (·.2)) (kvs.map (·.2)) ∧ kvs.length ≤ sizeLine
  | [], [], _, _ => ⟨[], rfl, rfl, fun k q kvs h => by simp at h⟩
  | [], _ :: _, h, _ => by cases h
  | _ :: _, [], h, _ => by cases h
  | v :: vs, kvs :: kss, hl, h => by
    obtain ⟨a, us, rfl, ha, hk, ra, hz⟩ := h 0 v (.dc kvs) rfl rfl
    obtain ⟨L, rfl, h2, h3⟩ := dicts_of (vs := vs) (kss := kss) (by simpa using hl) fun k u t h1 h2 => h (k + 1) u t (by simpa using h1) (by simpa using h2)
    refine ⟨(a, us) :: L, rfl, by simp [h2], fun k q kv h4 h5 => ?_⟩
    cases k with
    | zero =>
      simp at h4 h5; subst h4; subst h5
      exact ⟨ha, hk, ra, hz⟩
    | succ k => exact h3 k q kv (by simpa using h4) (by simpa using h5)
theorem Rel.freezeL : ∀ {L : LKs} {ods : List Obj} {w : Wd}, Rel K S w env g σ H → ods.length = L.length → (L.map (·.1)).Nodup → (∀ (k : Nat) (q : Addr × List (Key × V)) (o : Obj), L[k]? = some q → ods[k]? = some o → H q.1 = some (.frz o (.dK q.2)) ∧ Nob w env σ H q.1) → Rel K S (w.im (lockH w.I L ods)) env g σ H
  | [], [], w, R, _, _, _ => R
  | [], _ :: _, _, _, h, _, _ => by cases h
  | _ :: _, [], _, _, h, _, _ => by cases h
  | q :: L, o :: ods, w, R, hl, n, h => by
    obtain ⟨h1, h2⟩ := h 0 q o rfl rfl
    have R1 := R.freeze h2 h1
    exact Rel.freezeL (w := w.im (upd w.I q.1 (.frz o (.dK q.2)))) (L := L) (ods := ods) R1 (by simpa using hl) (List.nodup_cons.mp n).2 fun k r p e1 e2 => by
      obtain ⟨h3, h4⟩ := h (k + 1) r p (by simpa using e1) (by simpa using e2)
      have ne : r.1 ≠ q.1 := fun z => (List.nodup_cons.mp n).1 (mem1 (List.mem_of_getElem? e1) z)
      exact ⟨h3, ⟨(upd_ne ne).trans h4.i, h4.h0, h4.f, h4.o⟩⟩
/-- one look at a list of dicts of one's own -/
def mLkL {α : Type} (j : Nat) (m : Env → G → Option (α × G)) : Env → G → Option (α × G) := fun env g => match env.at j with
  | .tr (.ls ts) => match kssOf ts with
    | some kss => if Env.noOw (env.set j (.fl kss)) = true then m (env.set j (.fl kss)) g else none
    | none => none
  | _ => none
def mScal (m : ME G) : ME G := fun env g => bD (m env g) fun d g1 => if scal0 d = true then some (d, g1) else none
theorem Rel.lockL {j : Nat} {kss : List (List (Key × D))} (R : Rel K S w env g σ H) (ej : env.at j = .tr (.ls (kss.map .dc))) (no : Env.noOw (env.set j (.fl kss)) = true) : ∃ L : LKs, (L.map (·.1)).Nodup ∧ (∀ q ∈ L, H q.1 = some (.dK q.2)) ∧ ∀ ods : List Obj, ods.length = L.length →
    ∃ I2, Same w.I I2 ∧ Rel K S (w.im I2) (env.set j (.fl kss)) g σ (lockH H L ods) ∧ ∀ g' H' I3, Same I2 I3 → Rel K S (w.im I3) (env.set j (.fl kss)) g' σ H' → (∀ (k : Nat) (q : Addr × List (Key × V)) (o : Obj), L[k]? = some q → ods[k]? = some o → H' q.1 = some (.frz o (.dK q.2))) ∧ Rel K S w env g' σ (rstH H' L) := by
  have q := R.slot j
  rw [ej] at q
  obtain ⟨v, sj, ⟨p, vs, rfl, hp, hlen, hz, h1, h2⟩, own⟩ := q
  obtain ⟨L, rfl, hL, hd⟩ := dicts_of (I := w.I) (H := H) (vs := vs) (kss := kss) (by rw [hlen, List.length_map]) fun k u t e1 e2 => (h1 k u t e1 e2).1
  have inL : ∀ (k : Nat) (q : Addr × List (Key × V)), L[k]? = some q → ∃ kvs, kss[k]? = some kvs := fun k q e => by
    have : k < kss.length := by rw [← hL]; exact (List.getElem?_eq_some_iff.mp e).1
    exact ⟨kss[k], List.getElem?_eq_getElem this⟩
  have fpL : ∀ q ∈ L, T2.fp H (.ref p) (.ls (kss.map .dc)) q.1 := fun q hq => by
    obtain ⟨k, hk⟩ := List.mem_iff_getElem?.mp hq
    obtain ⟨kvs, e⟩ := inL k q hk
    exact .inr ⟨p, _, k, .ref q.1, .dc kvs, rfl, hp, by rw [List.getElem?_map, hk]; rfl, by rw [List.getElem?_map, e]; rfl, rfl, rfl⟩
  have np : p ∉ L.map (·.1) := fun z => by
    obtain ⟨q, hq, e⟩ := List.mem_map.mp z
    obtain ⟨k, hk⟩ := List.mem_iff_getElem?.mp hq
    obtain ⟨kvs, e2⟩ := inL k q hk
    exact (h1 k (.ref q.1) (.dc kvs) (by rw [List.getElem?_map, hk]; rfl) (by rw [List.getElem?_map, e2]; rfl)).2 ⟨rfl, by rw [e]⟩
  have nd : (L.map (·.1)).Nodup := by
    refine List.pairwise_iff_getElem.mpr fun k l hk0 hl0 hkl e => ?_
    rw [List.length_map] at hk0 hl0
    have hk' : k < L.length := hk0
    have hll : l < L.length := hl0
    rw [List.getElem_map, List.getElem_map] at e
    have e : L[k].1 = L[l].1 := e
    obtain ⟨kv, e1⟩ := inL k L[k] (List.getElem?_eq_getElem hk')
    obtain ⟨lv, e2⟩ := inL l L[l] (List.getElem?_eq_getElem hll)
    exact h2 k l (.ref L[k].1) (.ref L[l].1) (.dc kv) (.dc lv) L[k].1 (by omega) (by rw [List.getElem?_map, List.getElem?_eq_getElem hk']; rfl) (by rw [List.getElem?_map, List.getElem?_eq_getElem hll]; rfl) (by rw [List.getElem?_map, e1]; rfl) (by rw [List.getElem?_map, e2]; rfl) ⟨rfl, rfl⟩ ⟨rfl, by rw [e]⟩
  have hdL : ∀ q ∈ L, H q.1 = some (.dK q.2) := fun q hq => by
    obtain ⟨k, hk⟩ := List.mem_iff_getElem?.mp hq
    obtain ⟨kvs, e⟩ := inL k q hk
    exact (hd k q kvs hk e).1
  refine ⟨L, nd, hdL, fun ods hol => ?_⟩
  have hj := slot_lt R sj
  have fo : ∀ a, T2.fp H (.ref p) (.ls (kss.map .dc)) a → fpt H σ j (env.at j) a := fun a f => by rw [ej]; exact ⟨_, sj, f⟩
  have odk : ∀ (k : Nat) (q : Addr × List (Key × V)), L[k]? = some q → ∃ o, ods[k]? = some o := fun k q e => by
    have : k < ods.length := by rw [hol]; exact (List.getElem?_eq_some_iff.mp e).1
    exact ⟨ods[k], List.getElem?_eq_getElem this⟩
  have lockIn : ∀ {X : Hp} (q : Addr × List (Key × V)), q ∈ L → ∃ k o, L[k]? = some q ∧ ods[k]? = some o ∧ lockH X L ods q.1 = some (.frz o (.dK q.2)) := fun {X} q hq => by
    obtain ⟨k, hk⟩ := List.mem_iff_getElem?.mp hq
    obtain ⟨o, ho⟩ := odk k q hk
    exact ⟨k, o, hk, ho, lockH_in nd hk ho⟩
  -- locked, nobody's
  have R1 : Rel K S w (env.set j .un) g σ (lockH H L ods) := R.write hj (fun b z => by
    by_cases h : b ∈ L.map (·.1)
    · obtain ⟨q, hq, rfl⟩ := List.mem_map.mp h
      exact .inr (fo _ (fpL q hq))
    · exact absurd (lockH_out h) z) (fun b o q z => by
    by_cases h : b ∈ L.map (·.1)
    · obtain ⟨r, hr, rfl⟩ := List.mem_map.mp h
      obtain ⟨k, o', _, _, e⟩ := lockIn (X := H) r hr
      rw [e] at z; cases z
    · rw [lockH_out h, q] at z; cases z) trivial (fun b f => f.elim)
  have nob : ∀ a, T2.fp H (.ref p) (.ls (kss.map .dc)) a → Nob w (env.set j .un) σ (lockH H L ods) a := fun a f => by
    obtain ⟨a1, a2, a3⟩ := own a f
    refine ⟨a1, a2, a3, fun i fi => ?_⟩
    rw [at_set] at fi
    by_cases h : i = j ∧ j < env.length
    · rw [if_pos h] at fi; exact fi
    · rw [if_neg h] at fi
      have hij : i ≠ j := fun z => h ⟨z, hj⟩
      have kp := (R.slot i).keep (σ' := σ) (w' := w) (H' := lockH H L ods) rfl (Same.refl _) rfl fun b fb => by
        obtain ⟨b1, b2, b3, _⟩ := (R.slot i).fr fb
        refine ⟨lockH_out fun z => ?_, b1, b2, b3⟩
        obtain ⟨q, hq, rfl⟩ := List.mem_map.mp z
        exact R.dis i j q.1 hij fb (fo _ (fpL q hq))
      exact R.dis i j a hij ((kp.2 a).mp fi) (fo a f)
  have R2 : Rel K S (w.im (lockH w.I L ods)) (env.set j .un) g σ (lockH H L ods) := R1.freezeL hol nd fun k q o e1 e2 => ⟨lockH_in nd e1 e2, nob q.1 (fpL q (List.mem_of_getElem? e1))⟩
  have np0 := nob p (.inl rfl)
  have hpL : lockH H L ods p = some (.lst (L.map fun q => V.ref q.1)) := (lockH_out np).trans hp
  have R3 := R2.freeze (p := p) ⟨(lockH_out np).trans np0.i, np0.h0, np0.f, np0.o⟩ hpL
  let I2 := upd (lockH w.I L ods) p (.lst (L.map fun q => V.ref q.1))
  have sI : Same w.I I2 := fun b u q => by
    have h1 : b ≠ p := fun z => by rw [z, np0.i] at q; cases q
    have h2 : b ∉ L.map (·.1) := fun z => by
      obtain ⟨r, hr, rfl⟩ := List.mem_map.mp z
      rw [(own r.1 (fpL r hr)).1] at q; cases q
    show upd _ _ _ _ = _
    rw [upd_ne h1, lockH_out h2]; exact q
  have fl : FlOk K I2 (.ref p) kss := ⟨p, L.map fun q => V.ref q.1, rfl, upd_same, by rw [List.length_map, hL], by rw [List.length_map] at hz; exact hz, fun k u kvs e1 e2 => by
    rw [List.getElem?_map] at e1
    obtain ⟨q, hq, rfl⟩ := Option.map_eq_some_iff.mp e1
    obtain ⟨o, ho⟩ := odk k q hq
    obtain ⟨_, d2, d3, d4⟩ := hd k q kvs hq e2
    refine ⟨q.1, q.2, o, rfl, ?_, d2, d3.mono sI, d4⟩
    show upd _ _ _ _ = _
    rw [upd_ne fun z => np (mem1 (List.mem_of_getElem? hq) z)]
    exact lockH_in nd hq ho⟩
  have R4 := R3.know (j := j) (sv := .fl kss) sj ⟨.ref p, sj, fl⟩ fun b f => f
  rw [List.set_set] at R4
  refine ⟨I2, sI, R4, fun g' H' I3 s R5 => ?_⟩
  have facts : ∀ (k : Nat) (q : Addr × List (Key × V)) (o : Obj), L[k]? = some q → ods[k]? = some o → H' q.1 = some (.frz o (.dK q.2)) := fun k q o e1 e2 => by
    refine R5.eI _ _ (s _ _ ?_)
    show upd _ _ _ _ = _
    rw [upd_ne fun z => np (mem1 (List.mem_of_getElem? e1) z)]
    exact lockH_in nd e1 e2
  refine ⟨facts, ?_⟩
  have outL : ∀ {b : Addr} {u : HO}, w.H0 b = some u ∨ w.I b = some u ∨ w.fp b → b ∉ L.map (·.1) := fun {b u} h z => by
    obtain ⟨r, hr, rfl⟩ := List.mem_map.mp z
    obtain ⟨a1, a2, a3⟩ := own r.1 (fpL r hr)
    rcases h with h | h | h
    · rw [a2] at h; cases h
    · rw [a1] at h; cases h
    · exact a3 h
  obtain ⟨s1, s2⟩ := R.keepS (w' := w) (H' := rstH H' L) (Same.refl _) rfl fun i a f => by
    obtain ⟨a1, a2, a3, _⟩ := (R.slot i).fr f
    refine ⟨?_, a1, a2, a3⟩
    by_cases hij : i = j
    · rw [hij, ej] at f
      obtain ⟨u, e1, f⟩ := f
      rw [sj] at e1; cases e1
      rcases f with f | ⟨p', vs', k, u, t, e, hp', hu, ht, f⟩
      · cases f
        rw [rstH_out np, hp]
        exact R5.eI _ _ (s _ _ upd_same)
      · cases e
        rw [hp] at hp'; cases hp'
        rw [List.getElem?_map] at hu
        obtain ⟨q, hq, rfl⟩ := Option.map_eq_some_iff.mp hu
        obtain ⟨_, f⟩ := f
        cases f
        have hm := List.mem_of_getElem? hq
        rw [rstH_in nd hm]
        exact (hdL q hm).symm
    · have n := noOw_at no i
      rw [at_set, if_neg fun z => hij z.1] at n
      exact absurd f (notOw_fpt n)
  exact {
    e0 := fun b u q => by rw [rstH_out (outL (.inl q))]; exact R5.e0 b u q
    eI := fun b u q => by rw [rstH_out (outL (.inr (.inl q)))]; exact R5.eI b u (s b u (sI b u q))
    ag := R.ag
    ge := R.ge
    gfp := R5.gfp
    grt := R5.grt
    gok := S.loc (fun b hb => rstH_out (outL (u := .lst []) (.inr (.inr ((R5.gfp b).mp hb))))) R5.gok
    fI := R.fI
    f0 := R.f0
    len := R.len
    slot := s1
    dis := s2 }
theorem de_lkL (j : Nat) (h : DE X S e ma) : DE X S e (mLkL j (mScal ma)) := by
  have h1 : PE X e (fun σ H Q => ∃ L, tLkN L (tE X.K S ma) σ H Q) := ⟨fun pins s σ H Q I ⟨L, q⟩ => (pe_lkN h L).run pins s σ H Q I q⟩
  refine PE.imp h1 fun σ H Q ⟨w, env, g, d, g', R, e, k⟩ => ?_
  unfold mLkL at e
  split at e
  case h_2 => cases e
  rename_i ts ej
  split at e
  case h_2 => cases e
  rename_i kss ek
  split at e
  case isFalse => cases e
  rename_i no
  rw [kss_map ek] at ej
  obtain ⟨x, g1, e1, e⟩ := bD_some e
  split at e
  case isFalse => cases e
  rename_i sc
  cases e
  obtain ⟨L, nd, hd, kL⟩ := R.lockL ej no
  refine ⟨L, tLkN_of (t := tE X.K S ma) (fun σ H Q Q' i h => te_mono i h) nd hd fun ods hol => ?_⟩
  obtain ⟨I2, sI, R4, back⟩ := kL ods hol
  refine ⟨w.im I2, _, g, d, g', R4, e1, fun v I3 H' s R5 p => ?_⟩
  obtain ⟨b1, b2⟩ := back g' H' I3 s R5
  exact ⟨b1, k v w.I _ (Same.refl _) b2 (scal0_rp p sc)⟩
theorem dt_lkL (j : Nat) (h : DT X S e mt) : DT X S e (mLkL j mt) := by
  have h1 : PT X e (fun σ H Q => ∃ L, tLkN L (tT X.K S mt) σ H Q) := ⟨fun pins s σ H Q I ⟨L, q⟩ => (pt_lkN h L).run pins s σ H Q I q⟩
  refine PT.imp h1 fun σ H Q ⟨w, env, g, d, g', R, e, k⟩ => ?_
  unfold mLkL at e
  split at e
  case h_2 => cases e
  rename_i ts ej
  split at e
  case h_2 => cases e
  rename_i kss ek
  split at e
  case isFalse => cases e
  rename_i no
  rw [kss_map ek] at ej
  obtain ⟨L, nd, hd, kL⟩ := R.lockL ej no
  refine ⟨L, tLkN_of (t := tT X.K S mt) (fun σ H Q Q' i h => tt_mono i h) nd hd fun ods hol => ?_⟩
  obtain ⟨I2, sI, R4, back⟩ := kL ods hol
  refine ⟨w.im I2, _, g, d, g', R4, e, fun I3 H' s R5 => ?_⟩
  obtain ⟨b1, b2⟩ := back g' H' I3 s R5
  exact ⟨b1, k w.I _ (Same.refl _) b2⟩
end
end Pd

/-! Pe: lists of dicts: what they are asked, stores. -/
namespace Pd
open PySem PySem.Spec L2
section
variable {G : Type} {X : Cx} {S : Gs G} {a b c e : Expr} {es : List Expr} {pos : Pos} {ma mb me : ME G} {mt mu : MT G} {ml : ML G} {tg iter : Expr} {st : Stmt}
variable {K : PySem.W.Frag} {w : Wd} {env env' : Env} {g g' : G} {σ : St} {H H' I' : Hp}
theorem Rel.flA {j : Nat} {kss : List (List (Key × D))} (R : Rel K S w env g σ H) (ej : env.at j = .fl kss) : ∃ a us, σ[j]? = some (some (.ref a)) ∧ w.I a = some (.lst us) ∧ H a = some (.lst us) ∧ us.length = kss.length ∧ kss.length ≤ sizeLine ∧ ∀ (k : Nat) (u : V) (kvs : List (Key × D)), us[k]? = some u → kss[k]? = some kvs → FzOk K w.I u kvs := by
  have q := R.slot j
  rw [ej] at q
  obtain ⟨v, sj, a, us, rfl, hi, hl, hz, h⟩ := q
  exact ⟨a, us, sj, hi, R.eI _ _ hi, hl, hz, h⟩
/-! ### an element as an argument -/
def gConsFl (j : Nat) (mi : ME G) (ml : MG G) : MG G := fun env g => bD (mi env g) fun i g1 => match env.at j, i with
  | .fl kss, .int i => match atI kss i with
    | some kvs => bD (ml env g1) fun xs g2 => some (.fz kvs :: xs, g2)
    | none => none
  | _, _ => none
theorem atI_at {α β : Type} {xs : List α} {ys : List β} {i : Int} {y : β} (hl : xs.length = ys.length) (h : atI ys i = some y) : ∃ (k : Nat) (x : α), atI xs i = some x ∧ xs[k]? = some x ∧ ys[k]? = some y := by
  unfold atI at h ⊢
  obtain ⟨k, h1, h2⟩ := Option.bind_eq_some_iff.mp h
  have hk : k < xs.length := by rw [hl]; exact (List.getElem?_eq_some_iff.mp h2).1
  exact ⟨k, xs[k], by rw [hl, h1]; exact List.getElem?_eq_getElem hk, List.getElem?_eq_getElem hk, h2⟩
theorem dg_fl {mg : MG G} {j : Nat} {x : Str} {xp sp : Pos} {i : Expr} {mi : ME G} (hi : DE X S i mi) (hr : DG X S es mg) (hN : X.N[j]? = some x := by rfl) (hv : Vis X.env.scope x := by first | exact Or.inl rfl | exact Or.inr (Or.inl rfl) | exact Or.inr (Or.inr rfl)) (hd : (x == ("__debug__" : Str)) = false := by decide)
    (hcd : (x == ("__classdict__" : Str)) = false := by decide) (hx : PlainIx i := by exact fun _ _ => rfl) (hs : starEach (.Subscript (.Name x xp) i sp :: es) X.env = (false, eval (.Subscript (.Name x xp) i sp) X.env) :: starEach es X.env := by rfl) : DG X S (.Subscript (.Name x xp) i sp :: es) (gConsFl j mi mg) :=
  PA.imp (pa_cons (pe_ix ix_list (pe_var hN hv hd hcd) hi hx) hr hs) fun σ H Q h => by
  obtain ⟨w, env, g, d, g', R, e, k⟩ := h
  obtain ⟨i, g1, e1, e⟩ := bD_some e
  split at e
  case h_2 => cases e
  rename_i kss z ej
  split at e
  case h_2 => cases e
  rename_i kvs ek
  obtain ⟨y, g2, e2, e⟩ := bD_some e
  cases e
  obtain ⟨a, us, sj, _⟩ := R.flA ej
  refine ⟨_, sj, w, env, g, .int z, g1, R, e1, fun v I1 H1 s1 R1 p1 => ?_⟩
  cases p1
  obtain ⟨a', us', sj', hi', ha', hl, hz, hf⟩ := R1.flA ej
  rw [sj] at sj'
  cases sj'
  obtain ⟨n, u, q1, q2, q3⟩ := atI_at hl ek
  exact ⟨a, us', z, u, rfl, rfl, SqL.of ha', q1, w.im I1, env, g1, y, g', R1, e2, fun vs I2 H2 s2 R2 p2 => k _ I2 H2 (s1.trans s2) R2 (.cons ((hf n u kvs q2 q3).mono s2) p2)⟩
/-! ### [.. for d in list of dicts] -/
structure ItOkY (Y : Hp → V → D → Prop) (J : It) (I : Hp) (ds : List D) : Prop where
  go : ∀ i I' H', i < ds.length → Same I I' → Same I' H' → J.go i H'
  yl : ∀ i I' H' x H'' d, ds[i]? = some d → Same I I' → Same I' H' → J.yld i H' x H'' → ∃ I'', Pst I' H' I'' H'' ∧ Y I'' x d
  st : ∀ i I' H', ds.length ≤ i → Same I I' → Same I' H' → J.stop i H'
def tIY {G : Type} (Y : Hp → V → D → Prop) (K : PySem.W.Frag) (S : Gs G) (m : ML G) : TI := fun σ H R => ∃ w env g ds g', Rel K S w env g σ H ∧ m env g = some (ds, g') ∧
  ∀ J I' H', Same w.I I' → Rel K S (w.im I') env g' σ H' → ItOkY Y J I' ds → ds.length ≤ sizeLine → R J H'
def tTgY {G : Type} (Y : Hp → V → D → Prop) (K : PySem.W.Frag) (S : Gs G) (idx : List Nat) (b : MTg G) : TG := fun v σ H Q => ∃ w env g d env' g', Rel K S w env g σ H ∧ Y w.I v d ∧ b d env g = some (env', g') ∧
  ∀ σ' I' H', Same w.I I' → Rel K S (w.im I') env' g' σ' H' → σ'.length = σ.length → (∀ k, k ∉ idx → σ'[k]? = σ[k]?) → Q σ' H'
theorem tf_compY {Y : Hp → V → D → Prop} {idx vs : List Nat} {bt : MTg G} {me : ME G} {Q : VK} (hok : ∀ d env g env' g', bt d env g = some (env', g') → env'.length = env.length ∧ ∀ k, k ∉ idx → env'.at k = env.at k) (hsub : ∀ k ∈ idx, k ∈ vs)
    (h : tF K S (mComp ml vs bt mt me) σ H Q) : tLc (tIY Y K S ml) (tTgY Y K S idx bt) (tT K S mt) (tE K S me) vs σ H Q := by
  obtain ⟨w, env, g, xs, g', R, e, k⟩ := h
  obtain ⟨ds, g1, e1, e⟩ := bD_some e
  split at e
  case isFalse => cases e
  rename_i hown
  have hown : ∀ k ∈ vs, (env.at k).notOw = true := fun k hk => List.all_eq_true.mp hown k hk
  refine ⟨w, env, g, ds, g1, R, e1, fun J I1 H1 s1 R1 ok hz p hp => ?_⟩
  have n0 : w.H0 p = none := R1.e0.free hp
  have nI : w.I0 p = none := by
    have a1 : Same w.I0 I1 := R1.ge
    exact a1.free (R1.eI.free hp)
  -- the word: the list so far at p, the rest of the run
  refine ⟨fun i m H2 => m = ds.length - i ∧ i ≤ ds.length ∧ ∃ I2 g2 acc us as rest, Same I1 I2 ∧ Rel K S (w.im I2) env g2 σ H2 ∧ Nob (w.im I2) env σ H2 p ∧ H2 p = some (.lst us) ∧ RpA K I2 us as ∧ acc = us ∧ as.length ≤ i ∧
    compL bt mt me (env.wipe vs) (ds.drop i) g2 = some (rest, g') ∧ xs = as ++ rest, ⟨ds.length, by omega, Nat.zero_le _, I1, g1, [], [], [], xs, Same.refl _, R1.alloc hp, R1.nob hp, upd_same, .nil, rfl, Nat.le_refl _, e, rfl⟩, ?_⟩
  rintro i m H2 ⟨rfl, hi, I2, g2, acc, us, as, rest, s2, R2, n2, hp2, ra2, rfl, hl2, e2, ex⟩
  by_cases hlt : i < ds.length
  · refine .inr ⟨ok.go i I2 H2 hlt s2 R2.eI, fun H' => i + 1 ≤ ds.length ∧ ∃ I2 g2 acc us as rest, Same I1 I2 ∧ Rel K S (w.im I2) env g2 σ H' ∧ Nob (w.im I2) env σ H' p ∧ H' p = some (.lst us) ∧ RpA K I2 us as ∧ acc = us ∧ as.length ≤ i + 1 ∧
      compL bt mt me (env.wipe vs) (ds.drop (i + 1)) g2 = some (rest, g') ∧ xs = as ++ rest, fun H' ⟨q1, q⟩ => ⟨ds.length - (i + 1), by omega, rfl, q1, q⟩, fun x H' y => ?_⟩
    have hd : ds[i]? = some ds[i] := by simp [hlt]
    obtain ⟨I3, ps, r⟩ := ok.yl i I2 H2 x H' _ hd s2 R2.eI y
    rw [List.drop_eq_getElem_cons hlt] at e2
    unfold compL at e2
    cases eb : bt ds[i] (env.wipe vs) g2 with
    | none => rw [eb] at e2; cases e2
    | some eg =>
      obtain ⟨env3, g3⟩ := eg
      rw [eb] at e2
      dsimp only at e2
      have R3 := R2.pst ps
      have n3 : Nob (w.im I3) env σ H' p := Nob.pst (w := w.im I2) R2 n2 ps ((ps.ag p (by rw [hp2]; simp)).trans n2.i)
      have hp3 : H' p = some (.lst acc) := ps.eH _ _ hp2
      have R4 := (R3.hold n3 hp3).wipe vs
      have hk := hok _ _ _ _ _ eb
      refine ⟨(w.im I3).hold p (.lst acc), env.wipe vs, g2, ds[i], env3, g3, R4, r, eb, fun σ3 I4 H5 s4 R5 l5 f5 => ?_⟩
      have s4 : Same I3 I4 := s4
      have f5' : ∀ k, k ∉ vs → σ3[k]? = (L2.wipe σ vs)[k]? := fun k hk => f5 k fun z => hk (hsub k z)
      refine ⟨wipe_eq l5 f5', ?_⟩
      -- back from the element's state to the frame's
      have back : ∀ I6 H6 g6, Same I3 I6 → Rel K S ((w.im I6).hold p (.lst acc)) env3 g6 σ3 H6 → Rel K S ((w.im I6).hold p (.lst acc)) (env.wipe vs) g6 (L2.wipe σ vs) H6 := fun I6 H6 g6 s6 R6 =>
        R6.re (by rw [wipe_length, ewipe_len]; exact R.len) fun k => by
          by_cases hk' : k ∈ vs
          · exact .inl (ewipe_in hk')
          · exact .inr ⟨(hk.2 k fun z => hk' (hsub k z)).symm, (f5' k hk').symm⟩
      -- behind the element: the list let go
      have next : ∀ I6 H6 g6 (u : List V), Same I3 I6 → Rel K S ((w.im I6).hold p (.lst acc)) env3 g6 σ3 H6 → Rel K S (w.im I6) env g6 σ (upd H6 p (.lst u)) ∧ Nob (w.im I6) env σ (upd H6 p (.lst u)) p ∧ H6 p = some (.lst acc) := fun I6 H6 g6 u s6 R6 => by
        obtain ⟨q1, q2, q3⟩ := (back I6 H6 g6 s6 R6).unhold (w := w.im I6) (u := .lst u) n0 nI
        exact ⟨Rel.join R3 q1 s6 hown, ⟨q2.i, q2.h0, q2.f, fun j f => by
          have nj : j ∉ vs := fun z => notOw_fpt (hown j z) f
          exact q2.o j (by rw [ewipe_out nj]; exact fpt_eq (i := j) (wipe_out nj).symm f)⟩, q3⟩
      cases et : mt env3 g3 with
      | none => rw [et] at e2; cases e2
      | some q =>
        obtain ⟨t, g4⟩ := q
        rw [et] at e2
        refine ⟨(w.im I4).hold p (.lst acc), env3, g3, t, g4, R5, et, fun I6 H6 s6 R6 => ?_⟩
        have s6 : Same I4 I6 := s6
        have s6 : Same I3 I6 := s4.trans s6
        cases t with
        | false =>
          refine iteF ?_
          obtain ⟨q1, q2, q3⟩ := next I6 H6 g4 acc s6 R6
          rw [upd_id q3] at q1 q2
          exact ⟨by omega, I6, g4, acc, acc, as, rest, s2.trans (ps.eI.trans s6), q1, q2, q3, ra2.mono (ps.eI.trans s6), rfl, by omega, e2, ex⟩
        | true =>
          refine iteT ?_
          dsimp only at e2
          cases em : me env3 g4 with
          | none => rw [em] at e2; cases e2
          | some q =>
            obtain ⟨y5, g5⟩ := q
            rw [em] at e2
            dsimp only at e2
            cases ec : compL bt mt me (env.wipe vs) (ds.drop (i + 1)) g5 with
            | none => rw [ec] at e2; cases e2
            | some q =>
              obtain ⟨ys, g7⟩ := q
              rw [ec] at e2
              cases e2
              refine ⟨(w.im I6).hold p (.lst acc), env3, g4, y5, g5, R6, em, fun v I7 H7 s7 R7 p7 => ?_⟩
              have s7 : Same I6 I7 := s7
              obtain ⟨q1, q2, q3⟩ := next I7 H7 g5 (acc ++ [v]) (s6.trans s7) R7
              refine ⟨acc, q3, ?_, by omega, I7, g5, _, _, as ++ [y5], ys, s2.trans (ps.eI.trans (s6.trans s7)), q1, q2, upd_same, (ra2.mono (ps.eI.trans (s6.trans s7))).append (.one p7), rfl, ?_, ec, ?_⟩
              · rw [ra2.len]; omega
              · rw [List.length_append, List.length_singleton]; omega
              · rw [ex, List.append_assoc]; rfl
  · have hi' : i = ds.length := by omega
    subst hi'
    rw [List.drop_length] at e2
    cases e2
    rw [List.append_nil] at ex
    subst ex
    exact .inl ⟨ok.st _ I2 H2 (Nat.le_refl _) s2 R2.eI, k p acc I2 H2 (s1.trans s2) R2 n2 hp2 ra2 (Nat.le_trans hl2 hz)⟩

/-- an element, by its place -/
def FlY (K : PySem.W.Frag) (kss : List (List (Key × D))) : Hp → V → D → Prop := fun I x d => ∃ (k : Nat) (kvs : List (Key × D)), d = .int (k : Int) ∧ kss[k]? = some kvs ∧ FzOk K I x kvs
def mIdxFl (j : Nat) : ML G := fun env g => match env.at j with
  | .fl kss => some (rng 0 kss.length, g)
  | _ => none
def bFl (j i : Nat) : MTg G := fun d env g => match env.at j, d with
  | .fl kss, .int k => (kss[k.toNat]?).map fun kvs => (env.set i (.fz kvs), g)
  | _, _ => none
theorem compL_congr {b b' : MTg G} {env : Env} (h : ∀ d g, b d env g = b' d env g) : ∀ {ds : List D} {g : G}, compL b mt me env ds g = compL b' mt me env ds g
  | [], _ => rfl
  | d :: ds, g => by
    unfold compL
    rw [h]
    cases b' d env g with
    | none => rfl
    | some p =>
      dsimp only
      cases mt p.1 p.2 with
      | none => rfl
      | some q =>
        obtain ⟨t, g2⟩ := q
        cases t with
        | false => exact compL_congr h
        | true =>
          dsimp only
          cases me p.1 g2 with
          | none => rfl
          | some r => dsimp only; rw [compL_congr h]
open Classical in
noncomputable def mIdxK (j : Nat) (kss : List (List (Key × D))) : ML G := fun env g => match env.at j with
  | .fl kss' => if kss' = kss then some (rng 0 kss.length, g) else none
  | _ => none
def bFlK (i : Nat) (kss : List (List (Key × D))) : MTg G := fun d env g => match d with
  | .int k => (kss[k.toNat]?).map fun kvs => (env.set i (.fz kvs), g)
  | _ => none
theorem bFlK_ok {i : Nat} {kss : List (List (Key × D))} : ∀ d env (g : G) env' g', bFlK i kss d env g = some (env', g') → env'.length = env.length ∧ ∀ k, k ∉ [i] → env'.at k = env.at k := fun d env g env' g' e => by
  unfold bFlK at e
  split at e
  · obtain ⟨kvs, _, e⟩ := Option.map_eq_some_iff.mp e
    cases e
    exact ⟨by rw [List.length_set], fun k hk => by rw [at_set, if_neg (fun z => hk (by simp [z.1]))]⟩
  · cases e
theorem pi_fl {j : Nat} {kss : List (List (Key × D))} {x : Str} {xp : Pos} (hN : X.N[j]? = some x := by rfl) (hv : Vis X.env.scope x := by first | exact Or.inl rfl | exact Or.inr (Or.inl rfl) | exact Or.inr (Or.inr rfl)) (hd : (x == ("__debug__" : Str)) = false := by decide)
    (hcd : (x == ("__classdict__" : Str)) = false := by decide) : PI X tg (.Name x xp) (tIY (FlY X.K kss) X.K S (mIdxK j kss)) := PI.imp (pi_list (pe_var hN hv hd hcd)) fun σ H R ⟨w, env, g, ds, g', Re, e, k⟩ => by
  unfold mIdxK at e
  split at e
  case h_2 => cases e
  rename_i kss' ej
  split at e
  case isFalse => cases e
  rename_i heq
  subst heq
  cases e
  obtain ⟨a, us, sj, hi, ha, hl, hz, hf⟩ := Re.flA ej
  refine ⟨_, sj, a, rfl, ⟨us, SqL.of ha⟩, k _ w.I H (Same.refl _) Re ⟨fun n I' H' hn s1 s2 => ?_, fun n I' H' x H'' d hd s1 s2 y => ?_, fun n I' H' hn s1 s2 => ⟨us, SqL.of (s2 _ _ (s1 _ _ hi)), by rw [rng_len] at hn; omega⟩⟩ (by rw [rng_len]; exact hz)⟩
  · rw [rng_len] at hn
    have hu : n < us.length := by omega
    exact ⟨us, us[n], SqL.of (s2 _ _ (s1 _ _ hi)), List.getElem?_eq_getElem hu⟩
  · obtain ⟨e, y⟩ := y
    subst e
    have hx := y us (SqL.of (s2 _ _ (s1 _ _ hi)))
    have hn : n < us.length := (List.getElem?_eq_some_iff.mp hx).1
    have hnk : n < kss'.length := by omega
    rw [rng_get hnk] at hd
    cases hd
    exact ⟨I', Pst.refl s2, n, kss'[n], by rw [Int.zero_add], List.getElem?_eq_getElem hnk, (hf n x _ hx (List.getElem?_eq_getElem hnk)).mono s1⟩
theorem pg_flK {i : Nat} {kss : List (List (Key × D))} {x : Str} (hN : X.N.Nodup) (hi : X.N[i]? = some x) (hx : Loc X.env.scope x) (hf : X.fn x = true ∨ X.env.scope.names.lookup x = some .local := by first | exact .inl rfl | exact .inr rfl | assumption) : PG X (.Name x pos) (tTgY (FlY X.K kss) X.K S [i] (bFlK i kss)) :=
  PG.imp (pg_name hN hi hx hf) fun v σ H Q ⟨w, env, g, d, env', g', R, ⟨n, kvs, hd, hk, ok⟩, e, k⟩ => by
    subst hd
    unfold bFlK at e
    dsimp only at e
    rw [Int.toNat_natCast, hk] at e
    cases e
    exact k _ w.I _ (Same.refl _) (R.put (fun q e _ => ⟨v, e, ok⟩) fun a f => f.elim) (by rw [List.length_set]) fun j hj => by rw [get_set, if_neg (fun z => hj (by simp [z.1]))]
theorem df_compFl (j i : Nat) {x y : Str} {xp yp : Pos} {elt : Expr} {scope : Scope} {own : List (Str × Nat)} (hc : X.calm = true) (hN : X.N.Nodup) (ok : BlkOk X.N X.env.scope scope own) (hsub : i ∈ own.map (·.2)) (hj : j ∉ own.map (·.2))
    (hgi : ∀ (s : Shared) (H : Hp) (C : Addr) (cl : List (Str × Addr)) (fp : List Addr), ((X.blk s H scope (compEnvC scope cl C X.env) fp).N[i]? = some y) ∧ Loc (X.blk s H scope (compEnvC scope cl C X.env) fp).env.scope y ∧ ((X.blk s H scope (compEnvC scope cl C X.env) fp).fn y = true ∨ (X.blk s H scope (compEnvC scope cl C X.env) fp).env.scope.names.lookup y = some .local))
    (he : ∀ (s : Shared) (H : Hp) (C : Addr) (cl : List (Str × Addr)) (fp : List Addr), DE (X.blk s H scope (compEnvC scope cl C X.env) fp) S elt me)
    (hNx : X.N[j]? = some x := by rfl) (hv : Vis X.env.scope x := by first | exact Or.inl rfl | exact Or.inr (Or.inl rfl) | exact Or.inr (Or.inr rfl)) (hd : (x == ("__debug__" : Str)) = false := by decide) (hcd : (x == ("__classdict__" : Str)) = false := by decide)
    (hs : ∀ z, foldedSetIterable (.Name x xp) X.env z = pure z := by intro _; rfl) :
    DF X S (.ListComp elt [⟨.Name y yp, .Name x xp, [], 0⟩] scope pos) (mComp (mIdxFl j) (own.map (·.2)) (bFl j i) mYes me) := by
  have h1 : ∀ kss : List (List (Key × D)), PE X (.ListComp elt [⟨.Name y yp, .Name x xp, [], 0⟩] scope pos) (tLc (tIY (FlY X.K kss) X.K S (mIdxK j kss)) (tTgY (FlY X.K kss) X.K S [i] (bFlK i kss)) (tT X.K S mYes) (tE X.K S me) (own.map (·.2))) := fun kss =>
    pe_lc hc hN (pi_fl hNx hv hd hcd) ok (fun s H C cl fp => pg_flK hN (hgi s H C cl fp).1 (hgi s H C cl fp).2.1 (hgi s H C cl fp).2.2) (fun s H C cl fp => (dts_nil).pt) he hs
  have h2 : PE X (.ListComp elt [⟨.Name y yp, .Name x xp, [], 0⟩] scope pos) (fun σ H Q => ∃ kss, (tLc (tIY (FlY X.K kss) X.K S (mIdxK j kss)) (tTgY (FlY X.K kss) X.K S [i] (bFlK i kss)) (tT X.K S mYes) (tE X.K S me) (own.map (·.2))) σ H Q) := ⟨fun pins s σ H Q I ⟨kss, q⟩ => (h1 kss).run pins s σ H Q I q⟩
  refine PE.imp h2 fun σ H Q ⟨w, env, g, xs, g', R, e, k⟩ => ?_
  obtain ⟨ds, g1, e1, e⟩ := bD_some e
  unfold mIdxFl at e1
  split at e1
  case h_2 => cases e1
  rename_i kss ej
  cases e1
  refine ⟨kss, tf_compY bFlK_ok (fun q hq => by rw [List.mem_singleton.mp hq]; exact hsub) ⟨w, env, g, xs, g', R, ?_, k⟩⟩
  show bD (mIdxK j kss env g) _ = _
  unfold mIdxK
  rw [ej]
  dsimp only
  rw [if_pos rfl]
  dsimp only [bD]
  split at e
  · rename_i ho
    rw [if_pos ho, ← e]
    refine (compL_congr fun d g => ?_).symm
    unfold bFl bFlK
    rw [show (env.wipe (own.map (·.2))).at j = env.at j from ewipe_out hj, ej]
    cases d <;> rfl
  · cases e
end
end Pd

/-! Pe: stores to lists of dicts; lent for a new list of plain values. -/
namespace Pd
open PySem PySem.Spec L2
section
variable {G : Type} {X : Cx} {S : Gs G} {a b c e : Expr} {es : List Expr} {pos : Pos} {ma mb me : ME G} {mt mu : MT G} {ml : ML G} {tg iter : Expr} {st : Stmt}
variable {K : PySem.W.Frag} {w : Wd} {env env' : Env} {g g' : G} {σ : St} {H H' I' : Hp}
/-- x = [], a list of dicts to come -/
def mSetTs (i : Nat) (ml : ML G) : MS G := fun env g => bD (ml env g) fun ds g1 => if ds.isEmpty = true then some (.nx, env.set i (.tr (.ls [])), g1) else none
theorem ds_setTs {i : Nat} {x : Str} {pos' : Pos} (hN : X.N.Nodup) (hi : X.N[i]? = some x) (hx : Loc X.env.scope x) (he : DF X S e ml) (hs : swapsWith e (some (.Name x pos')) pos.line X.env = pure false := by rfl)
    (hf : X.fn x = true ∨ X.env.scope.names.lookup x = some .local := by first | exact .inl rfl | exact .inr rfl | assumption) : DS X S (.Assign [.Name x pos'] e pos) (mSetTs i ml) := PS.imp (ps_set hN hi hx he hs hf) fun D σ H ⟨w, env, g, c, env', g', R, e, k⟩ => by
  obtain ⟨ds, g1, e1, e⟩ := bD_some e
  split at e
  case isFalse => cases e
  rename_i hd
  cases e
  refine ⟨w, env, g, ds, g', R, e1, fun p vs I' H' s' R' n hp ra hz => k _ I' H' s' ?_⟩
  rw [List.isEmpty_iff.mp hd] at ra
  cases ra
  refine R'.putT (w := w.im I') ⟨p, [], rfl, hp, rfl, Nat.zero_le _, fun k u t h => by simp at h, fun k l u u' t t' a _ h => by simp at h⟩ fun a f => ?_
  rcases f with f | ⟨q, us, k, u, t, e, hq, hu, _⟩
  · cases f; exact n
  · cases e; rw [hp] at hq; cases hq; simp at hu
theorem Rel.trL {j : Nat} {ts : List T1} (R : Rel K S w env g σ H) (ej : env.at j = .tr (.ls ts)) : ∃ p vs, σ[j]? = some (some (.ref p)) ∧ H p = some (.lst vs) ∧ vs.length = ts.length ∧ ts.length ≤ sizeLine ∧ (∀ (k : Nat) (u : V) (t : T1), vs[k]? = some u → ts[k]? = some t → T1Ok K w.I H u t ∧ ¬ t.fp u p) ∧
      (∀ (k l : Nat) (u u' : V) (t t' : T1) (a : Addr), k ≠ l → vs[k]? = some u → vs[l]? = some u' → ts[k]? = some t → ts[l]? = some t' → t.fp u a → ¬ t'.fp u' a) ∧ ∀ a, T2.fp H (.ref p) (.ls ts) a → w.I a = none ∧ w.H0 a = none ∧ ¬ w.fp a := by
  have q := R.slot j
  rw [ej] at q
  obtain ⟨v, sj, ⟨p, vs, rfl, hp, hl, hz, h1, h2⟩, own⟩ := q
  exact ⟨p, vs, sj, hp, hl, hz, h1, h2, own⟩
/-- len(x) of a list of dicts -/
def mLenTs (j : Nat) : ME G := fun env g => match env.at j with
  | .tr (.ls ts) => some (.int ts.length, g)
  | _ => none
theorem de_lenTs {y : Str} {p yp : Pos} (j : Nat) (hg : Gl X "len") (hm : X.mg "len" = none) (hv : bootBuiltins "len" = some (.builtin "len"))
    (hN : X.N[j]? = some y := by rfl) (hvy : Vis X.env.scope y := by first | exact Or.inl rfl | exact Or.inr (Or.inl rfl) | exact Or.inr (Or.inr rfl)) (hd : (y == ("__debug__" : Str)) = false := by decide) (hcd : (y == ("__classdict__" : Str)) = false := by decide)
    (he : starEach [.Name y yp] X.env = (false, eval (.Name y yp) X.env) :: starEach [] X.env := by rfl) (hpl : (backTo pos (starEach [] X.env)).any (·.1) = false := by rfl) : DE X S (.Call (.Name "len" p) [.Name y yp] [] pos) (mLenTs j) :=
  PE.imp (pe_callB call_len hg hm hv (pa_cons (pe_var hN hvy hd hcd) pa_nil he) (by decide) (by decide) he hpl) fun σ H Q ⟨w, env, g, d, g', R, e, k⟩ => by
    unfold mLenTs at e
    split at e
    case h_2 => cases e
    rename_i ts ej
    cases e
    obtain ⟨q, vs, sj, hq, hl, hz, _⟩ := R.trL ej
    exact ⟨_, sj, .ref q, ts.length, rfl, .inl ⟨vs, SqL.of hq, hl.symm⟩, k _ w.I H (Same.refl _) R (.int _)⟩
/-- x.append({}) -/
def mAppTs (j : Nat) : MS G := fun env g => match env.at j with
  | .tr (.ls ts) => if ts.length < sizeLine then some (.nx, env.set j (.tr (.ls (ts ++ [.dc []]))), g) else none
  | _ => none
theorem ds_appTs (j : Nat) {x : Str} {xp ap cp p2 : Pos} (hN : X.N[j]? = some x := by rfl) (hv : Vis X.env.scope x := by first | exact Or.inl rfl | exact Or.inr (Or.inl rfl) | exact Or.inr (Or.inr rfl)) (hd : (x == ("__debug__" : Str)) = false := by decide)
    (hcd : (x == ("__classdict__" : Str)) = false := by decide)
    (hbase : attributeBase (.Name x xp) "append" X.env (eval (.Name x xp) X.env) = eval (.Name x xp) X.env := by rfl)
    (hfew : ((backTo cp (starEach [.Dict [] [] p2] X.env)).all (fun x => !x.1) && (backToKw cp (keywordEach [] X.env)).all (fun x => x.1.isSome)
      && decide ([(.Dict [] [] p2 : Expr)].length + ([] : List Keyword).length + (if ([] : List Keyword).isEmpty then 0 else 1) < 30)) = true := by rfl)
    (hline : (ap.endLine == cp.line) = true := by rfl) (hs : starEach [.Dict [] [] p2] X.env = (false, eval (.Dict [] [] p2) X.env) :: starEach [] X.env := by rfl) (hplain : (backTo cp (starEach [] X.env)).any (·.1) = false := by rfl)
    (hsw : swapsWith (.Call (.Attribute (.Name x xp) "append" ap) [.Dict [] [] p2] [] cp) none pos.line X.env = pure false := by rfl) :
    DS X S (.Expr (.Call (.Attribute (.Name x xp) "append" ap) [.Dict [] [] p2] [] cp) pos) (mAppTs j) :=
  PS.imp (ps_expr (pe_bm PySem.F.plainAttrs_list PySem.F.slot_list_append PySem.F.type_list_append mt_append (pe_var hN hv hd hcd) (pa_cons pe_dnewK pa_nil hs) hbase hfew hline hs hplain) hsw) fun D σ H ⟨w, env, g, c, env', g', R, e, k⟩ => by
    unfold mAppTs at e
    split at e
    case h_2 => cases e
    rename_i ts ej
    split at e
    case isFalse => cases e
    rename_i hlt
    cases e
    obtain ⟨p, vs, sj, hp, hl, hz, h1, h2, own⟩ := R.trL ej
    refine ⟨_, sj, .inl ⟨rfl, vs, SqL.of hp⟩, fun q h0 => ?_⟩
    have pq : p ≠ q := fun z => by rw [z, h0] at hp; cases hp
    refine ⟨p, vs, _, rfl, rfl, (upd_ne pq).trans hp, by omega, k σ w.I _ (Same.refl _) ?_⟩
    have ej' : ∀ a, T2.fp H (.ref p) (.ls ts) a → fpt H σ j (env.at j) a := fun a f => by rw [ej]; exact ⟨_, sj, f⟩
    have H2 : ∀ a, a ≠ p → a ≠ q → upd (upd H q (.dK [])) p (.lst (vs ++ [.ref q])) a = H a := fun a z1 z2 => by rw [upd_ne z1, upd_ne z2]
    have fq : upd (upd H q (.dK [])) p (.lst (vs ++ [.ref q])) q = some (.dK []) := by rw [upd_ne (Ne.symm pq), upd_same]
    -- an element, old or new
    have el : ∀ (n : Nat) (u : V) (t : T1), (vs ++ [V.ref q])[n]? = some u → (ts ++ [T1.dc []])[n]? = some t → (n < ts.length ∧ vs[n]? = some u ∧ ts[n]? = some t) ∨ (n = ts.length ∧ u = .ref q ∧ t = .dc []) := fun n u t e1 e2 => by
      by_cases hn : n < ts.length
      · rw [List.getElem?_append_left (by omega)] at e1
        rw [List.getElem?_append_left hn] at e2
        exact .inl ⟨hn, e1, e2⟩
      · rw [List.getElem?_append_right (by omega)] at e1 e2
        have : n - ts.length = 0 := by
          have := (List.getElem?_eq_some_iff.mp e2).1
          simp at this; omega
        rw [hl, this] at e1
        rw [this] at e2
        simp at e1 e2
        exact .inr ⟨by omega, e1.symm, e2.symm⟩
    have oldf : ∀ {n : Nat} {u : V} {t : T1} {a : Addr}, vs[n]? = some u → ts[n]? = some t → t.fp u a → a ≠ p ∧ a ≠ q ∧ T2.fp H (.ref p) (.ls ts) a := fun {n u t a} e1 e2 f => by
      obtain ⟨ok, nf⟩ := h1 n u t e1 e2
      refine ⟨fun z => nf (z ▸ f), fun z => ?_, .inr ⟨p, vs, n, u, t, rfl, hp, e1, e2, f⟩⟩
      have := ok.dom f
      rw [z, h0] at this
      exact this rfl
    refine R.write (slot_lt R sj) (fun a z => ?_) (fun a o e z => ?_) ⟨.ref p, sj, ⟨p, vs ++ [.ref q], rfl, upd_same, by rw [List.length_append, List.length_append, hl]; rfl, by rw [List.length_append]; show _ + 1 ≤ _; omega, fun n u t e1 e2 => ?_, fun n l u u' t t' a nl e1 e2 e3 e4 f f' => ?_⟩, fun a f => ?_⟩ fun a f => ?_
    · by_cases z1 : a = p
      · exact .inr (z1 ▸ ej' p (.inl rfl))
      · by_cases z2 : a = q
        · exact .inl (z2 ▸ h0)
        · exact absurd (H2 a z1 z2) z
    · by_cases z1 : a = p
      · rw [z1, upd_same] at z; cases z
      · by_cases z2 : a = q
        · rw [z2, h0] at e; cases e
        · rw [H2 a z1 z2, e] at z; cases z
    · rcases el n u t e1 e2 with ⟨_, g1, g2⟩ | ⟨_, rfl, rfl⟩
      · refine ⟨(h1 n u t g1 g2).1.mono (Same.refl _) fun a f => ?_, (h1 n u t g1 g2).2⟩
        obtain ⟨a1, a2, _⟩ := oldf g1 g2 f
        exact H2 a a1 a2
      · exact ⟨⟨q, [], rfl, fq, rfl, .nil, Nat.zero_le _⟩, fun ⟨_, z⟩ => by cases z; exact pq rfl⟩
    · rcases el n u t e1 e3 with ⟨_, g1, g2⟩ | ⟨_, rfl, rfl⟩
      · obtain ⟨a1, a2, _⟩ := oldf g1 g2 f
        rcases el l u' t' e2 e4 with ⟨_, g3, g4⟩ | ⟨_, rfl, rfl⟩
        · exact h2 n l u u' t t' a nl g1 g3 g2 g4 f f'
        · obtain ⟨_, z⟩ := f'
          cases z; exact a2 rfl
      · rcases el l u' t' e2 e4 with ⟨_, g3, g4⟩ | ⟨_, rfl, rfl⟩
        · obtain ⟨a1, a2, _⟩ := oldf g3 g4 f'
          obtain ⟨_, z⟩ := f
          cases z; exact a2 rfl
        · omega
    · rcases f with f | ⟨p', vs', n, u, t, e, hp', e1, e2, f⟩
      · cases f; exact own p (.inl rfl)
      · cases e
        rw [upd_same] at hp'; cases hp'
        rcases el n u t e1 e2 with ⟨_, g1, g2⟩ | ⟨_, rfl, rfl⟩
        · exact own a (oldf g1 g2 f).2.2
        · obtain ⟨_, z⟩ := f
          cases z
          exact ⟨R.eI.free h0, R.e0.free h0, fun z => S.dom R.gok ((R.gfp q).mpr z) h0⟩
    · obtain ⟨v, e0, f⟩ := f
      rw [sj] at e0; cases e0
      rcases f with f | ⟨p', vs', n, u, t, e, hp', e1, e2, f⟩
      · cases f; exact .inr (ej' p (.inl rfl))
      · cases e
        rw [upd_same] at hp'; cases hp'
        rcases el n u t e1 e2 with ⟨_, g1, g2⟩ | ⟨_, rfl, rfl⟩
        · exact .inr (ej' a (oldf g1 g2 f).2.2)
        · obtain ⟨_, z⟩ := f
          cases z
          exact .inl h0
/-- x[i][k] = e, k a name -/
def mPutTs (j : Nat) (mi : ME G) (q : Nat) (me : ME G) : MS G := fun env g => bD (me env g) fun d g1 => bD (mi env g1) fun i g2 => match env.at j, i, env.at q with
  | .tr (.ls ts), .int i, .sh ky => match ixN ts.length i, keyD ky with
    | some n, some k => match ts[n]? with
      | some (.dc kvs) => if kvs.length < sizeLine then some (.nx, env.set j (.tr (.ls (ts.set n (.dc (putKD kvs k d))))), g2) else none
      | _ => none
    | _, _ => none
  | _, _, _ => none
theorem ds_putTs (j q : Nat) {x y : Str} {xp ip sp yp : Pos} {i : Expr} {mi : ME G} (hu : X.A.units + 65 < cLine) (hi : DE X S i mi) (he : DE X S e me) (hN : X.N[j]? = some x := by rfl) (hv : Vis X.env.scope x := by first | exact Or.inl rfl | exact Or.inr (Or.inl rfl) | exact Or.inr (Or.inr rfl)) (hd : (x == ("__debug__" : Str)) = false := by decide)
    (hcd : (x == ("__classdict__" : Str)) = false := by decide) (hNy : X.N[q]? = some y := by rfl) (hvy : Vis X.env.scope y := by first | exact Or.inl rfl | exact Or.inr (Or.inl rfl) | exact Or.inr (Or.inr rfl)) (hdy : (y == ("__debug__" : Str)) = false := by decide)
    (hcdy : (y == ("__classdict__" : Str)) = false := by decide) (hx : PlainIx i := by exact fun _ _ => rfl) (hs : swapsWith e (some (.Subscript (.Subscript (.Name x xp) i ip) (.Name y yp) sp)) pos.line X.env = pure false := by rfl) :
    DS X S (.Assign [.Subscript (.Subscript (.Name x xp) i ip) (.Name y yp) sp] e pos) (mPutTs j mi q me) := PS.imp (ps_dput (by omega) (pe_ix ix_list (pe_var hN hv hd hcd) hi hx) (pe_var hNy hvy hdy hcdy) he hs) fun D σ H ⟨w, env, g, c, env', g', R, e, k⟩ => by
  obtain ⟨d, g1, e1, e⟩ := bD_some e
  obtain ⟨i, g2, e2, e⟩ := bD_some e
  split at e
  case h_2 => cases e
  rename_i ts z ky ej eq
  split at e
  case h_2 => cases e
  rename_i n kk en ek
  split at e
  case h_2 => cases e
  rename_i kvs et
  split at e
  case isFalse => cases e
  rename_i hlt
  cases e
  refine ⟨w, env, g, d, g1, R, e1, fun v I1 H1 s1 R1 p1 => ?_⟩
  obtain ⟨p, vs0, sj, _⟩ := R1.trL ej
  refine ⟨_, sj, w.im I1, env, g1, .int z, g', R1, e2, fun y I2 H2 s2 R2 p2 => ?_⟩
  cases p2
  obtain ⟨p', vs, sj2, hp, hl, hz, h1, h2, own⟩ := R2.trL ej
  rw [sj] at sj2
  cases sj2
  have hn : n < ts.length := (List.getElem?_eq_some_iff.mp et).1
  have hnv : n < vs.length := by omega
  have hvn : vs[n]? = some vs[n] := List.getElem?_eq_getElem hnv
  obtain ⟨⟨a, us, ea, ha, hka, raa, hza⟩, nfp⟩ := h1 n vs[n] (.dc kvs) hvn et
  have kq := R2.slot q
  rw [eq] at kq
  obtain ⟨kv, sq, rk⟩ := kq
  refine ⟨p, vs, z, vs[n], rfl, rfl, SqL.of hp, by unfold atI; rw [hl, en]; exact hvn, kv, sq, a, upd H2 a (.dK (putK us kk v)), ea, ?_, k σ I2 _ (Same.trans s1 s2) ?_⟩
  · have hus : us.length = kvs.length := by have := congrArg List.length hka; rwa [List.length_map, List.length_map] at this
    rw [keyD_rp rk ek]
    exact DPut.k ha (by omega)
  have fa : (T1.dc kvs).fp vs[n] a := ⟨rfl, ea⟩
  have ap : a ≠ p := fun z => nfp (z ▸ fa)
  have ej' : ∀ b, T2.fp H2 (.ref p) (.ls ts) b → fpt H2 σ j (env.at j) b := fun b f => by rw [ej]; exact ⟨_, sj, f⟩
  have fpa : T2.fp H2 (.ref p) (.ls ts) a := .inr ⟨p, vs, n, vs[n], .dc kvs, rfl, hp, hvn, et, fa⟩
  obtain ⟨r1, r2⟩ := putK_rp (k := kk) (p1.mono s2) hka raa
  have el : ∀ (m : Nat) (u : V) (t : T1), vs[m]? = some u → (ts.set n (.dc (putKD kvs kk d)))[m]? = some t → (m ≠ n ∧ ts[m]? = some t) ∨ (m = n ∧ u = vs[n] ∧ t = .dc (putKD kvs kk d)) := fun m u t e1 e2 => by
    by_cases hm : m = n
    · subst hm
      rw [List.getElem?_set_self hn] at e2
      rw [hvn] at e1
      cases e1; cases e2
      exact .inr ⟨rfl, rfl, rfl⟩
    · rw [List.getElem?_set_ne (Ne.symm hm)] at e2
      exact .inl ⟨hm, e2⟩
  have nfa : ∀ {m : Nat} {u : V} {t : T1} {b : Addr}, m ≠ n → vs[m]? = some u → ts[m]? = some t → t.fp u b → b ≠ a := fun {m u t b} hm e1 e2 f z => h2 m n u vs[n] t (.dc kvs) b hm e1 hvn e2 et f (z ▸ fa)
  have fpo : ∀ b, T2.fp (upd H2 a (.dK (putK us kk v))) (.ref p) (.ls (ts.set n (.dc (putKD kvs kk d)))) b → T2.fp H2 (.ref p) (.ls ts) b := fun b f => by
    rcases f with f | ⟨p', vs', m, u, t, e, hp', g1, g2, f⟩
    · exact .inl f
    · cases e
      rw [upd_ne (Ne.symm ap), hp] at hp'
      cases hp'
      rcases el m u t g1 g2 with ⟨_, g3⟩ | ⟨rfl, rfl, rfl⟩
      · exact .inr ⟨p, vs, m, u, t, rfl, hp, g1, g3, f⟩
      · exact .inr ⟨p, vs, m, _, .dc kvs, rfl, hp, g1, et, ⟨rfl, f.2⟩⟩
  refine R2.write (slot_lt R2 sj) (fun b z => ?_) (fun b o q z => ?_) ⟨.ref p, sj, ⟨p, vs, rfl, (upd_ne (Ne.symm ap)).trans hp, by rw [List.length_set]; exact hl, by rw [List.length_set]; exact hz, fun m u t g1 g2 => ?_, fun m l u u' t t' b nl g1 g2 g3 g4 f f' => ?_⟩, fun b f => own b (fpo b f)⟩ fun b f => ?_
  · by_cases h : b = a
    · exact .inr (h ▸ ej' a fpa)
    · exact absurd (upd_ne h) z
  · by_cases h : b = a
    · rw [h, upd_same] at z; cases z
    · rw [upd_ne h, q] at z; cases z
  · rcases el m u t g1 g2 with ⟨hm, g3⟩ | ⟨rfl, rfl, rfl⟩
    · exact ⟨(h1 m u t g1 g3).1.mono (Same.refl _) fun b f => upd_ne (nfa hm g1 g3 f), (h1 m u t g1 g3).2⟩
    · exact ⟨⟨a, _, ea, upd_same, r1, r2, Nat.le_trans (putKD_len _ _ _) (by omega)⟩, fun f => nfp ⟨rfl, f.2⟩⟩
  · rcases el m u t g1 g3 with ⟨hm, q1⟩ | ⟨rfl, rfl, rfl⟩ <;> rcases el l u' t' g2 g4 with ⟨hm', q2⟩ | ⟨rfl, rfl, rfl⟩
    · exact h2 m l u u' t t' b nl g1 g2 q1 q2 f f'
    · exact h2 m l u _ t (.dc kvs) b nl g1 hvn q1 et f ⟨rfl, f'.2⟩
    · exact h2 m l _ u' (.dc kvs) t' b nl hvn g2 et q2 ⟨rfl, f.2⟩ f'
    · omega
  · obtain ⟨v', e0, f⟩ := f
    rw [sj] at e0; cases e0
    exact .inr (ej' b (fpo b f))
/-! ### lent for a new list of plain values -/
def mLendF (js : List Nat) (ml : ML G) : ML G := fun env g => if (env.lend js).noOw = true then bD (ml (env.lend js) g) fun ds g1 => if ds.all scal0 = true then some (ds, g1) else none else none
theorem scalA_rp {I J : Hp} : ∀ {vs : List V} {ds : List D}, RpA K I vs ds → ds.all scal0 = true → RpA K J vs ds
  | _, _, .nil, _ => .nil
  | _, _, .cons a b, h => by
    rw [List.all_cons, Bool.and_eq_true] at h
    exact .cons (scal0_rp a h.1) (scalA_rp b h.2)
theorem df_lend (js : List Nat) (h : DF X S e ml) : DF X S e (mLendF js ml) := PE.imp h fun σ H Q ⟨w, env, g, d, g', R, e, k⟩ => by
  unfold mLendF at e
  split at e
  case isFalse => cases e
  rename_i no
  obtain ⟨x, g1, e1, e⟩ := bD_some e
  split at e
  case isFalse => cases e
  rename_i sc
  cases e
  obtain ⟨I1, s1, RL⟩ := R.lend js
  refine ⟨w.im I1, env.lend js, g, d, g', RL, e1, fun p vs I2 H' s2 R2 n hp ra hz => ?_⟩
  have s2 : Same I1 I2 := s2
  have RU := R.unlend RL R2 s1 s2 no
  refine k p vs w.I H' (Same.refl _) RU ⟨?_, n.h0, n.f, fun i f => ?_⟩ hp (scalA_rp ra sc) hz
  · cases e : w.I p with
    | none => rfl
    | some u =>
      have := n.i
      have this : I2 p = none := this
      rw [s2 _ _ (s1 _ _ e)] at this; cases this
  · cases ei : env.at i with
    | ow ds =>
      rw [ei] at f
      have f : σ[i]? = some (some (.ref p)) := f
      rcases lend_at js env i with h | ⟨es, h, h'⟩
      · have nn := noOw_at no i
        rw [h, ei] at nn; cases nn
      · have ql := RL.slot i
        rw [h'] at ql
        obtain ⟨v, f1, rp⟩ := ql
        rw [f] at f1
        cases f1
        cases rp with
        | lst hq _ _ =>
          have := n.i
          have this : I2 p = none := this
          rw [s2 _ _ hq] at this; cases this
    | tr t =>
      have nn := noOw_at no i
      rcases lend_at js env i with h | ⟨es, h, h'⟩
      · rw [h, ei] at nn; cases nn
      · rw [ei] at h; cases h
    | _ => rw [ei] at f; exact f.elim
end
end Pd

/-! Pe: x = [.. for ..] on one line, lists lent. -/
namespace Pd
open PySem PySem.Spec L2
section
variable {G : Type} {X : Cx} {S : Gs G} {a b c e : Expr} {es : List Expr} {pos : Pos} {ma mb me : ME G} {mt mu : MT G} {ml : ML G} {tg iter : Expr} {st : Stmt}
variable {K : PySem.W.Frag} {w : Wd} {env env' : Env} {g g' : G} {σ : St} {H H' I' : Hp}
theorem tf_lend {js : List Nat} {Q : VK} (h : tF K S (mLendF js ml) σ H Q) : tF K S ml σ H Q := by
  obtain ⟨w, env, g, d, g', R, e, k⟩ := h
  unfold mLendF at e
  split at e
  case isFalse => cases e
  rename_i no
  obtain ⟨x, g1, e1, e⟩ := bD_some e
  split at e
  case isFalse => cases e
  rename_i sc
  cases e
  obtain ⟨I1, s1, RL⟩ := R.lend js
  refine ⟨w.im I1, env.lend js, g, d, g', RL, e1, fun p vs I2 H' s2 R2 n hp ra hz => ?_⟩
  have s2 : Same I1 I2 := s2
  have RU := R.unlend RL R2 s1 s2 no
  refine k p vs w.I H' (Same.refl _) RU ⟨?_, n.h0, n.f, fun i f => ?_⟩ hp (scalA_rp ra sc) hz
  · cases e : w.I p with
    | none => rfl
    | some u =>
      have := n.i
      have this : I2 p = none := this
      rw [s2 _ _ (s1 _ _ e)] at this; cases this
  · cases ei : env.at i with
    | ow ds =>
      rw [ei] at f
      have f : σ[i]? = some (some (.ref p)) := f
      rcases lend_at js env i with h | ⟨es, h, h'⟩
      · have nn := noOw_at no i
        rw [h, ei] at nn; cases nn
      · have ql := RL.slot i
        rw [h'] at ql
        obtain ⟨v, f1, rp⟩ := ql
        rw [f] at f1
        cases f1
        cases rp with
        | lst hq _ _ =>
          have := n.i
          have this : I2 p = none := this
          rw [s2 _ _ hq] at this; cases this
    | tr t =>
      have nn := noOw_at no i
      rcases lend_at js env i with h | ⟨es, h, h'⟩
      · rw [h, ei] at nn; cases nn
      · rw [ei] at h; cases h
    | _ => rw [ei] at f; exact f.elim
theorem ds_setLcL (js : List Nat) {elt : Expr} {ifs : List Expr} {scope : Scope} {own : List (Str × Nat)} {idx : List Nat} {bt : MTg G} {me : ME G} {i : Nat} {y : Str} {py spos : Pos} (hc : X.calm = true) (hN : X.N.Nodup) (hy : X.N[i]? = some y) (hyl : X.env.scope.names.lookup y = some .local)
    (hsw : swapsWith (.ListComp elt [⟨tg, iter, ifs, 0⟩] scope pos) (some (.Name y py)) spos.line X.env = pure true) (hi : DI X S tg iter ml) (ok : BlkOk X.N X.env.scope scope own)
    (hg : ∀ (s : Shared) (H : Hp) (C : Addr) (cl : List (Str × Addr)) (fp : List Addr), DTg (X.blk s H scope (compEnvC scope cl C X.env) fp) S tg idx bt) (ht : ∀ (s : Shared) (H : Hp) (C : Addr) (cl : List (Str × Addr)) (fp : List Addr), DTs (X.blk s H scope (compEnvC scope cl C X.env) fp) S ifs mt)
    (he : ∀ (s : Shared) (H : Hp) (C : Addr) (cl : List (Str × Addr)) (fp : List Addr), DE (X.blk s H scope (compEnvC scope cl C X.env) fp) S elt me) (hsub : ∀ k ∈ idx, k ∈ own.map (·.2) := by decide) (hs : ∀ x, foldedSetIterable iter X.env x = pure x := by intro _; rfl) :
    DS X S (.Assign [.Name y py] (.ListComp elt [⟨tg, iter, ifs, 0⟩] scope pos) spos) (mSetF i (mLendF js (mComp ml (own.map (·.2)) bt mt me))) :=
  PS.imp (ps_setLc hc hN hy hyl hsw hi ok (fun s H C cl fp => (hg s H C cl fp).pg) (fun s H C cl fp => (ht s H C cl fp).pt) he hs) fun D σ H ⟨w, env, g, c, env', g', R, e, k⟩ => by
    obtain ⟨x, g1, e1, e⟩ := bD_some e
    cases e
    exact tf_comp (hg X.s_0 X.H_0 0 [] []).ok hsub (tf_lend ⟨w, env, g, x, g', R, e1, fun p vs I' H' s' R' n hp ra hz => k _ I' H' s' (R'.putL n hp ra hz)⟩)
/-- a, b = e, {}: the general way -/
theorem ds_parK2 {i j : Nat} {x y : Str} {px py pt p2 : Pos} {kt k2 pt2} (hc : X.calm = true) (hN : X.N.Nodup) (hi : X.N[i]? = some x) (hj : X.N[j]? = some y) (hij : i ≠ j)
    (hx : Loc X.env.scope x) (hy : Loc X.env.scope y) (hfx : X.fn x = true ∨ X.env.scope.names.lookup x = some .local) (hfy : X.fn y = true ∨ X.env.scope.names.lookup y = some .local) (ha : DE X S a ma)
    (hn : (assignEach [Expr.Name x px, .Name y py] X.env).length = 2 := by rfl)
    (hw : swappedStores [.Tuple [.Name x px, .Name y py] kt pt] (.Tuple [a, .Dict [] [] p2] k2 pt2) X.env = pure none := by rfl)
    (hs : swapsWithSole [.Tuple [.Name x px, .Name y py] kt pt] (.Tuple [a, .Dict [] [] p2] k2 pt2) pos.line X.env = pure false := by rfl)
    (h1 : starEach [a, .Dict [] [] p2] X.env = (false, eval a X.env) :: starEach [.Dict [] [] p2] X.env := by rfl) (h2 : starEach [.Dict [] [] p2] X.env = (false, eval (.Dict [] [] p2) X.env) :: starEach [] X.env := by rfl) :
    DS X S (.Assign [.Tuple [.Name x px, .Name y py] kt pt] (.Tuple [a, .Dict [] [] p2] k2 pt2) pos) (mParK i j ma) :=
  PS.imp (ps_asg (pe_tup (pa_cons ha (pa_cons pe_dnewK pa_nil h2) h1)) (pg_tup hc (pgs_cons (pg_name hN hi hx hfx) (pgs_cons (pg_name hN hj hy hfy) pgs_nil)) hn) hs hw) fun D σ H ⟨w, env, g, c, env', g', R, e, k⟩ => by
  obtain ⟨d, g1, e1, e⟩ := bD_some e
  cases e
  refine ⟨w, env, g, d, g', R, e1, fun v I' H' s' R' r p h0 => ⟨show (2 : Nat) ≤ _ by decide, fun q hq => ⟨q, [v, .ref p], rfl, ?_, rfl, ?_⟩⟩⟩
  · exact .inl (.inl upd_same)
  have R1 := R'.alloc (o := .dK []) h0
  have np : p ≠ q := fun z => by rw [z] at hq; rw [upd_same] at hq; cases hq
  have Rq := R1.alloc (o := .tup [v, .ref p]) hq
  have n2 : Nob (w.im I') env σ (upd (upd H' p (.dK [])) q (.tup [v, .ref p])) p := R'.nobS (w := w.im I') h0 (Same.trans (same_new h0) (same_new hq))
  have R2 := Rq.putD (i := i) r
  refine ⟨_, _, rfl, _, _, rfl, rfl, k _ I' _ s' (R2.putT (w := w.im I') (i := j) (v := .ref p) (t := .one (.dc [])) ⟨p, [], rfl, (upd_ne np).trans upd_same, rfl, .nil, Nat.zero_le _⟩ fun b ⟨_, f⟩ => ?_)⟩
  cases f
  refine ⟨n2.i, n2.h0, n2.f, fun q fq => ?_⟩
  rw [at_set] at fq
  by_cases hq : q = i ∧ i < env.length
  · rw [if_pos hq] at fq; exact fq
  · rw [if_neg hq] at fq
    exact n2.o q (fpt_eq (i := q) (by rw [get_set, if_neg (by rw [R'.len]; exact hq)]) fq)
end
end Pd

/-! Pf: records of one's own, locked for one look. -/
namespace Pd
open PySem PySem.Spec L2
open Classical
/-! ### I without some places -/
def NoData : HO → Prop
  | .lst _ => False
  | .tup _ => False
  | .frz _ (.tup _) => False
  | .dT _ => False
  | _ => True
noncomputable def drpF (I : Hp) (F : Addr → Prop) : Hp := fun a => if F a then none else I a
theorem drpF_ne {I : Hp} {F : Addr → Prop} {a : Addr} (h : ¬ F a) : drpF I F a = I a := if_neg h
theorem drpF_eq {I : Hp} {F : Addr → Prop} {a : Addr} (h : F a) : drpF I F a = none := if_pos h
section
variable {K : PySem.W.Frag} {I : Hp} {F : Addr → Prop}
mutual
theorem Rp.shrF (h : ∀ a o, F a → I a = some o → NoData o) : ∀ {d : D} {v : V}, Rp K I v d → Rp K (drpF I F) v d
  | .none, _, r => by cases r; exact .non
  | .bool _, _, r => by cases r; exact .bl _
  | .int _, _, r => by cases r; exact .int _
  | .str _, _, r => by cases r with | str z => exact .str z
  | .list ds, _, r => by
    cases r with
    | lst x y z => exact .lst ((drpF_ne fun f => h _ _ f x).trans x) (RpA.shrF h y) z
  | .tuple ds, _, r => by
    cases r with
    | @tup b xs _ x y z =>
      refine .tup ?_ (RpA.shrF h y) z
      rcases x with (x | ⟨o, x⟩) | x
      · exact .inl (.inl ((drpF_ne fun f => h _ _ f x).trans x))
      · exact .inl (.inr ⟨o, (drpF_ne fun f => h _ _ f x).trans x⟩)
      · exact .inr x
  | .dict _, _, r => by cases r with | emp x => exact .emp ((drpF_ne fun f => h _ _ f x).trans x)
theorem RpA.shrF (h : ∀ a o, F a → I a = some o → NoData o) : ∀ {ds : List D} {vs : List V}, RpA K I vs ds → RpA K (drpF I F) vs ds
  | [], _, r => by cases r; exact .nil
  | _ :: _, _, r => by cases r with | cons x y => exact .cons (Rp.shrF h x) (RpA.shrF h y)
end
theorem T1Ok.shrF {H : Hp} {v : V} {t : T1} (h : ∀ a o, F a → I a = some o → NoData o) (r : T1Ok K I H v t) : T1Ok K (drpF I F) H v t := by
  cases t with
  | lf d => exact Rp.shrF h r
  | ls xs => obtain ⟨p, vs, e, hp, r, z⟩ := r; exact ⟨p, vs, e, hp, r.shrF h, z⟩
  | dc kvs => obtain ⟨p, vs, e, hp, hs, r, z⟩ := r; exact ⟨p, vs, e, hp, hs, r.shrF h, z⟩
  | lk kvs => obtain ⟨p, vs, o, e, hp, hs, r, z⟩ := r; exact ⟨p, vs, o, e, hp, hs, r.shrF h, z⟩
theorem T2Ok.shrF {H : Hp} {v : V} {t : T2} (h : ∀ a o, F a → I a = some o → NoData o) (r : T2Ok K I H v t) : T2Ok K (drpF I F) H v t := by
  cases t with
  | one t => exact T1Ok.shrF h r
  | ls ts =>
    obtain ⟨p, vs, e, hp, hl, hz, h1, h2⟩ := r
    exact ⟨p, vs, e, hp, hl, hz, fun k u t hu ht => ⟨(h1 k u t hu ht).1.shrF h, (h1 k u t hu ht).2⟩, h2⟩
  | rc p k ts =>
    obtain ⟨vs, e, hp, hl, hz, hn, h1, h2⟩ := r
    exact ⟨vs, e, hp, hl, hz, hn, fun k u t hu ht => ⟨(h1 k u t hu ht).1.shrF h, (h1 k u t hu ht).2⟩, h2⟩
end
/-! ### objects locked, one behind the other -/
abbrev LKo := List (Addr × HO)
def lockO : Hp → LKo → List Obj → Hp
  | H, q :: L, o :: ods => lockO (upd H q.1 (.frz o q.2)) L ods
  | H, _, _ => H
def rstO : Hp → LKo → Hp
  | H, [] => H
  | H, q :: L => upd (rstO H L) q.1 q.2
theorem lockO_out {b : Addr} : ∀ {L : LKo} {ods : List Obj} {H : Hp}, b ∉ L.map (·.1) → lockO H L ods b = H b
  | [], _, _, _ => by cases ‹List Obj› <;> rfl
  | q :: L, [], _, _ => rfl
  | q :: L, o :: ods, H, h => by
    show lockO (upd H q.1 _) L ods b = H b
    rw [lockO_out fun z => h (List.mem_cons_of_mem _ z), upd_ne fun z => h (by rw [z]; exact List.mem_cons_self ..)]
theorem lockO_in : ∀ {L : LKo} {ods : List Obj} {H : Hp} {k : Nat} {q : Addr × HO} {o : Obj}, (L.map (·.1)).Nodup → L[k]? = some q → ods[k]? = some o → lockO H L ods q.1 = some (.frz o q.2)
  | [], _, _, k, _, _, _, h, _ => by simp at h
  | q :: L, [], _, k, _, _, _, _, h => by simp at h
  | q :: L, o :: ods, H, 0, _, _, n, h1, h2 => by
    simp at h1 h2; subst h1; subst h2
    show lockO (upd H q.1 _) L ods q.1 = _
    rw [lockO_out (List.nodup_cons.mp n).1, upd_same]
  | q :: L, o :: ods, H, k + 1, _, _, n, h1, h2 => by
    rename_i r p
    show lockO (upd H q.1 (.frz o q.2)) L ods r.1 = _
    exact lockO_in (L := L) (ods := ods) (k := k) (q := r) (o := p) (List.nodup_cons.mp n).2 (by simpa using h1) (by simpa using h2)
theorem rstO_out {b : Addr} : ∀ {L : LKo} {H : Hp}, b ∉ L.map (·.1) → rstO H L b = H b
  | [], _, _ => rfl
  | q :: L, H, h => by
    show upd (rstO H L) q.1 _ b = H b
    rw [upd_ne fun z => h (by rw [z]; exact List.mem_cons_self ..), rstO_out fun z => h (List.mem_cons_of_mem _ z)]
theorem rstO_in : ∀ {L : LKo} {H : Hp} {q : Addr × HO}, (L.map (·.1)).Nodup → q ∈ L → rstO H L q.1 = some q.2
  | q :: L, H, r, n, h => by
    rcases List.mem_cons.mp h with rfl | h
    · exact upd_same
    · show upd (rstO H L) q.1 _ r.1 = _
      have ne : r.1 ≠ q.1 := fun z => (List.nodup_cons.mp n).1 (mem1 h z)
      rw [upd_ne ne]
      exact rstO_in (List.nodup_cons.mp n).2 h
def tLkO {α : Type} : LKo → (St → Hp → (α → Hp → Prop) → Prop) → St → Hp → (α → Hp → Prop) → Prop
  | [], t => t
  | q :: L, t => fun σ H Q => (H q.1 = some q.2 ∧ Mut (some q.2)) ∧ ∀ od, tLkO L t σ (upd H q.1 (.frz od q.2)) fun v H' => H' q.1 = some (.frz od q.2) ∧ Q v (upd H' q.1 q.2)
section
variable {G : Type} {X : Cx} {S : Gs G} {a b c e : Expr} {es : List Expr} {pos : Pos} {ma mb me : ME G} {mt mu : MT G} {ml : ML G}
variable {K : PySem.W.Frag} {w : Wd} {env env' : Env} {g g' : G} {σ : St} {H H' I' : Hp}
theorem pe_lkO {t : TE} (h : PE X e t) : ∀ L : LKo, PE X e (tLkO L t)
  | [] => h
  | q :: L => PE.imp (pe_lock (pe_lkO h L)) fun σ H Q ⟨h1, h2⟩ => ⟨q.1, q.2, h1.1, h1.2, h2⟩
theorem pt_lkO {t : TT} (h : PT X e t) : ∀ L : LKo, PT X e (tLkO L t)
  | [] => h
  | q :: L => PT.imp (pt_lock (pt_lkO h L)) fun σ H Q ⟨h1, h2⟩ => ⟨q.1, q.2, h1.1, h1.2, h2⟩
theorem tLkO_of {α : Type} {t : St → Hp → (α → Hp → Prop) → Prop} (mono : ∀ (σ : St) (H : Hp) (Q Q' : α → Hp → Prop), (∀ v H, Q v H → Q' v H) → t σ H Q → t σ H Q') : ∀ {L : LKo} {H : Hp} {Q : α → Hp → Prop}, (L.map (·.1)).Nodup → (∀ q ∈ L, H q.1 = some q.2 ∧ Mut (some q.2)) →
    (∀ ods : List Obj, ods.length = L.length → t σ (lockO H L ods) fun v H' => (∀ (k : Nat) (q : Addr × HO) (o : Obj), L[k]? = some q → ods[k]? = some o → H' q.1 = some (.frz o q.2)) ∧ Q v (rstO H' L)) → tLkO L t σ H Q
  | [], H, Q, _, _, k => mono σ H _ Q (fun v H h => h.2) (k [] rfl)
  | q :: L, H, Q, n, hd, k => by
    refine ⟨hd q (List.mem_cons_self ..), fun od => ?_⟩
    have n2 := List.nodup_cons.mp n
    refine tLkO_of mono (L := L) (H := upd H q.1 (.frz od q.2)) (Q := fun v H' => H' q.1 = some (.frz od q.2) ∧ Q v (upd H' q.1 q.2)) n2.2 (fun r hr => ?_) fun ods hl => ?_
    · have ne : r.1 ≠ q.1 := fun z => n2.1 (mem1 hr z)
      rw [upd_ne ne]
      exact hd r (List.mem_cons_of_mem _ hr)
    · refine mono σ _ _ _ (fun v H' hh => ?_) (k (od :: ods) (by simp [hl]))
      refine ⟨fun j r o e1 e2 => hh.1 (j + 1) r o (by simpa using e1) (by simpa using e2), ?_, hh.2⟩
      show rstO H' L q.1 = _
      rw [rstO_out n2.1]
      exact hh.1 0 q od rfl rfl
/-! ### what is nobody's is known from now on -/
theorem Rel.knowF {F : Addr → Prop} (R : Rel K S w env g σ H) (n : ∀ a, F a → Nob w env σ H a) : Rel K S (w.im fun a => if F a then H a else w.I a) env g σ H := by
  have sI : Same w.I (fun a => if F a then H a else w.I a) := fun a o q => by
    show (if F a then H a else w.I a) = some o
    rw [if_neg fun f => by rw [(n a f).i] at q; cases q]; exact q
  obtain ⟨s1, s2⟩ := R.keepS (w' := w.im fun a => if F a then H a else w.I a) (H' := H) sI rfl fun i a f => by
    obtain ⟨a1, a2, a3, a4⟩ := (R.slot i).fr f
    exact ⟨rfl, (if_neg fun z => (n a z).o i f).trans a1, a2, a3⟩
  exact {
    e0 := R.e0
    eI := fun b u q => by
      have q : (if F b then H b else w.I b) = some u := q
      split at q
      · exact q
      · exact R.eI b u q
    ag := fun a u e => (if_neg fun z => by rw [(n a z).h0] at e; cases e).trans (R.ag a u e)
    ge := R.ge.trans sI
    gfp := R.gfp
    grt := R.grt
    gok := R.gok
    fI := fun a ha => (if_neg fun z => (n a z).f ha).trans (R.fI a ha)
    f0 := R.f0
    len := R.len
    slot := s1
    dis := s2 }
/-- the lists and dicts of a record -/
theorem lists_of {I : Hp} : ∀ {vs : List V} {ts : List T1}, vs.length = ts.length → (∀ (n : Nat) (u : V) (t : T1), vs[n]? = some u → ts[n]? = some t → T1Ok K I H u t) →
    (∀ (k l : Nat) (u u' : V) (t t' : T1) (a : Addr), k ≠ l → vs[k]? = some u → vs[l]? = some u' → ts[k]? = some t → ts[l]? = some t' → t.fp u a → ¬ t'.fp u' a) →
    ∃ L : LKo, (L.map (·.1)).Nodup ∧ (∀ r ∈ L, H r.1 = some r.2 ∧ ((∃ ws, r.2 = .lst ws) ∨ ∃ ws, r.2 = .dK ws) ∧ ∃ (n : Nat) (u : V) (t : T1), vs[n]? = some u ∧ ts[n]? = some t ∧ t.fp u r.1) ∧
      (∀ (n : Nat) (u : V) (xs : List D), vs[n]? = some u → ts[n]? = some (.ls xs) → ∃ q ws, u = .ref q ∧ (q, HO.lst ws) ∈ L ∧ RpA K I ws xs ∧ xs.length ≤ sizeLine) ∧
      ∀ (n : Nat) (u : V) (kvs : List (Key × D)), vs[n]? = some u → ts[n]? = some (.dc kvs) → ∃ q ws, u = .ref q ∧ (q, HO.dK ws) ∈ L ∧ ws.map (·.1) = kvs.map (·.1) ∧ RpA K I (ws.map (·.2)) (kvs.map (·.2)) ∧ kvs.length ≤ sizeLine
  | [], [], _, _, _ => ⟨[], List.nodup_nil, (fun _ h => nomatch h), (fun n u xs h => by simp at h), fun n u t h => by simp at h⟩
  | [], _ :: _, h, _, _ => by cases h
  | _ :: _, [], h, _, _ => by cases h
  | v :: vs, t :: ts, hl, h, dj => by
    obtain ⟨L, nd, h1, h2, h3⟩ := lists_of (vs := vs) (ts := ts) (by simpa using hl) (fun n u t e1 e2 => h (n + 1) u t (by simpa using e1) (by simpa using e2)) fun k l u u' t t' a n e1 e2 e3 e4 => dj (k + 1) (l + 1) u u' t t' a (by omega) (by simpa using e1) (by simpa using e2) (by simpa using e3) (by simpa using e4)
    have h0 := h 0 v t rfl rfl
    have sh1 : ∀ r ∈ L, ∃ (n : Nat) (u : V) (t' : T1), (v :: vs)[n + 1]? = some u ∧ (t :: ts)[n + 1]? = some t' ∧ t'.fp u r.1 := fun r hr => by
      obtain ⟨_, _, n, u, t', e1, e2, f⟩ := h1 r hr
      exact ⟨n, u, t', by simpa using e1, by simpa using e2, f⟩
    have old : ∀ r ∈ L, H r.1 = some r.2 ∧ ((∃ ws, r.2 = .lst ws) ∨ ∃ ws, r.2 = .dK ws) ∧ ∃ (n : Nat) (u : V) (t' : T1), (v :: vs)[n]? = some u ∧ (t :: ts)[n]? = some t' ∧ t'.fp u r.1 := fun r hr => by
      obtain ⟨n, u, t', e1, e2, f⟩ := sh1 r hr
      exact ⟨(h1 r hr).1, (h1 r hr).2.1, n + 1, u, t', e1, e2, f⟩
    have new : ∀ (q : Addr) (o : HO), v = .ref q → t.own = true → (((q, o) :: L).map (·.1)).Nodup := fun q o ev ow => List.nodup_cons.mpr ⟨fun z => by
      obtain ⟨r, hr, e⟩ := List.mem_map.mp z
      have e : r.1 = q := e
      obtain ⟨n, u, t', e1, e2, f⟩ := sh1 r hr
      exact dj 0 (n + 1) v u t t' q (by omega) rfl e1 rfl e2 ⟨ow, ev⟩ (e ▸ f), nd⟩
    have more : ∀ (r0 : Addr × HO), (∀ (n : Nat) (u : V) (xs : List D), vs[n]? = some u → ts[n]? = some (.ls xs) → ∃ q ws, u = .ref q ∧ (q, HO.lst ws) ∈ r0 :: L ∧ RpA K I ws xs ∧ xs.length ≤ sizeLine) ∧
        ∀ (n : Nat) (u : V) (kvs : List (Key × D)), vs[n]? = some u → ts[n]? = some (.dc kvs) → ∃ q ws, u = .ref q ∧ (q, HO.dK ws) ∈ r0 :: L ∧ ws.map (·.1) = kvs.map (·.1) ∧ RpA K I (ws.map (·.2)) (kvs.map (·.2)) ∧ kvs.length ≤ sizeLine := fun r0 => ⟨fun n u xs e1 e2 => by
      obtain ⟨q, ws, e3, e4, e5⟩ := h2 n u xs e1 e2
      exact ⟨q, ws, e3, List.mem_cons_of_mem _ e4, e5⟩, fun n u kvs e1 e2 => by
      obtain ⟨q, ws, e3, e4, e5⟩ := h3 n u kvs e1 e2
      exact ⟨q, ws, e3, List.mem_cons_of_mem _ e4, e5⟩⟩
    cases t with
    | ls xs =>
      obtain ⟨q, ws, rfl, hq, ra, hz⟩ := h0
      refine ⟨(q, .lst ws) :: L, new q _ rfl rfl, fun r hr => ?_, fun n u ys e1 e2 => ?_, fun n u kvs e1 e2 => ?_⟩
      · rcases List.mem_cons.mp hr with rfl | hr
        · exact ⟨hq, .inl ⟨ws, rfl⟩, 0, _, _, rfl, rfl, rfl, rfl⟩
        · exact old r hr
      · cases n with
        | zero =>
          simp at e1 e2; subst e1; subst e2
          exact ⟨q, ws, rfl, List.mem_cons_self .., ra, hz⟩
        | succ n => exact (more _).1 n u ys (by simpa using e1) (by simpa using e2)
      · cases n with
        | zero => simp at e2
        | succ n => exact (more _).2 n u kvs (by simpa using e1) (by simpa using e2)
    | dc kvs =>
      obtain ⟨q, ws, rfl, hq, hk, ra, hz⟩ := h0
      refine ⟨(q, .dK ws) :: L, new q _ rfl rfl, fun r hr => ?_, fun n u ys e1 e2 => ?_, fun n u kvs' e1 e2 => ?_⟩
      · rcases List.mem_cons.mp hr with rfl | hr
        · exact ⟨hq, .inr ⟨ws, rfl⟩, 0, _, _, rfl, rfl, rfl, rfl⟩
        · exact old r hr
      · cases n with
        | zero => simp at e2
        | succ n => exact (more _).1 n u ys (by simpa using e1) (by simpa using e2)
      · cases n with
        | zero =>
          simp at e1 e2; subst e1; subst e2
          exact ⟨q, ws, rfl, List.mem_cons_self .., hk, ra, hz⟩
        | succ n => exact (more _).2 n u kvs' (by simpa using e1) (by simpa using e2)
    | lf d =>
      refine ⟨L, nd, old, fun n u ys e1 e2 => ?_, fun n u kvs e1 e2 => ?_⟩
      · cases n with
        | zero => simp at e2
        | succ n => exact h2 n u ys (by simpa using e1) (by simpa using e2)
      · cases n with
        | zero => simp at e2
        | succ n => exact h3 n u kvs (by simpa using e1) (by simpa using e2)
    | lk d =>
      refine ⟨L, nd, old, fun n u ys e1 e2 => ?_, fun n u kvs e1 e2 => ?_⟩
      · cases n with
        | zero => simp at e2
        | succ n => exact h2 n u ys (by simpa using e1) (by simpa using e2)
      · cases n with
        | zero => simp at e2
        | succ n => exact h3 n u kvs (by simpa using e1) (by simpa using e2)
end
end Pd

/-! Pf: a record of one's own, locked for one look. -/
namespace Pd
open PySem PySem.Spec L2
open Classical
def T1.notLk : T1 → Bool
  | .lk _ => false
  | _ => true
section
variable {G : Type} {X : Cx} {S : Gs G} {a b c e : Expr} {es : List Expr} {pos : Pos} {ma mb me : ME G} {mt mu : MT G} {ml : ML G}
variable {K : PySem.W.Frag} {w : Wd} {env env' : Env} {g g' : G} {σ : St} {H H' I' : Hp}
theorem Rel.lockR {j : Nat} {p : Addr} {k : RK} {ts : List T1} (R : Rel K S w env g σ H) (ej : env.at j = .tr (.rc p k ts)) (nl : (ts.all T1.notLk) = true) : ∃ L : LKo, (L.map (·.1)).Nodup ∧ (∀ r ∈ L, H r.1 = some r.2 ∧ Mut (some r.2)) ∧
    ∀ ods : List Obj, ods.length = L.length → ∃ I2, Rel K S (w.im I2) (env.set j (.rz k ts)) g σ (lockO H L ods) ∧ ∀ g' H' I3, Same I2 I3 → Rel K S (w.im I3) (env.set j (.rz k ts)) g' σ H' →
      (∀ (n : Nat) (r : Addr × HO) (o : Obj), L[n]? = some r → ods[n]? = some o → H' r.1 = some (.frz o r.2)) ∧
      ∃ I4, Same w.I I4 ∧ Rel K S (w.im I4) env g' σ (rstO H' L) ∧ (∀ v d, Rp K I3 v d → Rp K I4 v d) ∧ (∀ vs ds, RpA K I3 vs ds → RpA K I4 vs ds) ∧
        ∀ q, Nob (w.im I3) (env.set j (.rz k ts)) σ H' q → rstO H' L q = H' q ∧ Nob (w.im I4) env σ (rstO H' L) q := by
  have q := R.slot j
  rw [ej] at q
  obtain ⟨v, sj, ⟨vs, rfl, hp, hlen, hz, hn, h1, h2⟩, own⟩ := q
  obtain ⟨L, nd, l1, l2, l3⟩ := lists_of (I := w.I) (H := H) (vs := vs) (ts := ts) hlen (fun n u t e1 e2 => (h1 n u t e1 e2).1) h2
  refine ⟨L, nd, fun r hr => ⟨(l1 r hr).1, by rcases (l1 r hr).2.1 with ⟨ws, e⟩ | ⟨ws, e⟩ <;> (rw [e]; trivial)⟩, fun ods hol => ?_⟩
  have hj := slot_lt R sj
  -- the record's places
  let F : Addr → Prop := fun a => T2.fp H (.ref p) (.rc p k ts) a
  have fo : ∀ a, F a → fpt H σ j (env.at j) a := fun a f => by rw [ej]; exact ⟨_, sj, f⟩
  have fL : ∀ r ∈ L, F r.1 := fun r hr => by
    obtain ⟨_, _, n, u, t, e1, e2, f⟩ := l1 r hr
    exact .inr ⟨vs, n, u, t, hp, e1, e2, f⟩
  have nL : ∀ a, RecFp H p a → a ∉ L.map (·.1) := fun a f z => by
    obtain ⟨r, hr, rfl⟩ := List.mem_map.mp z
    obtain ⟨_, _, n, u, t, e1, e2, f'⟩ := l1 r hr
    exact (h1 n u t e1 e2).2 r.1 f f'
  have odk : ∀ (n : Nat) (r : Addr × HO), L[n]? = some r → ∃ o, ods[n]? = some o := fun n r e => by
    have : n < ods.length := by rw [hol]; exact (List.getElem?_eq_some_iff.mp e).1
    exact ⟨ods[n], List.getElem?_eq_getElem this⟩
  have lockIn : ∀ {X : Hp} (r : Addr × HO), r ∈ L → ∃ n o, L[n]? = some r ∧ ods[n]? = some o ∧ lockO X L ods r.1 = some (.frz o r.2) := fun {X} r hr => by
    obtain ⟨n, hn⟩ := List.mem_iff_getElem?.mp hr
    obtain ⟨o, ho⟩ := odk n r hn
    exact ⟨n, o, hn, ho, lockO_in nd hn ho⟩
  have domF : ∀ a, F a → H a ≠ none := fun a f => T2Ok.dom (K := K) (I := w.I) (t := .rc p k ts) (v := .ref p) ⟨vs, rfl, hp, hlen, hz, hn, h1, h2⟩ f
  have R1 : Rel K S w (env.set j .un) g σ (lockO H L ods) := R.write hj (fun b z => by
    by_cases h : b ∈ L.map (·.1)
    · obtain ⟨q, hq, rfl⟩ := List.mem_map.mp h
      exact .inr (fo _ (fL q hq))
    · exact absurd (lockO_out h) z) (fun b o q z => by
    by_cases h : b ∈ L.map (·.1)
    · obtain ⟨r, hr, rfl⟩ := List.mem_map.mp h
      obtain ⟨n, o', _, _, e⟩ := lockIn (X := H) r hr
      rw [e] at z; cases z
    · rw [lockO_out h, q] at z; cases z) trivial (fun b f => f.elim)
  have nob : ∀ a, F a → Nob w (env.set j .un) σ (lockO H L ods) a := fun a f => by
    obtain ⟨a1, a2, a3⟩ := own a f
    refine ⟨a1, a2, a3, fun i fi => ?_⟩
    rw [at_set] at fi
    by_cases h : i = j ∧ j < env.length
    · rw [if_pos h] at fi; exact fi
    · rw [if_neg h] at fi
      have hij : i ≠ j := fun z => h ⟨z, hj⟩
      have kp := (R.slot i).keep (σ' := σ) (w' := w) (H' := lockO H L ods) rfl (Same.refl _) rfl fun b fb => by
        obtain ⟨b1, b2, b3, _⟩ := (R.slot i).fr fb
        refine ⟨lockO_out fun z => ?_, b1, b2, b3⟩
        obtain ⟨q, hq, rfl⟩ := List.mem_map.mp z
        exact R.dis i j q.1 hij fb (fo _ (fL q hq))
      exact R.dis i j a hij ((kp.2 a).mp fi) (fo a f)
  have R2 := R1.knowF (F := F) nob
  let I2 : Hp := fun a => if F a then lockO H L ods a else w.I a
  have I2F : ∀ a, F a → I2 a = lockO H L ods a := fun a f => if_pos f
  have sI : Same w.I I2 := fun b u q => by
    show (if F b then _ else _) = _
    rw [if_neg fun f => by rw [(own b f).1] at q; cases q]; exact q
  have rec2 : RecAt I2 p k vs := by
    have e1 : ∀ a, RecFp H p a → I2 a = H a := fun a f => (I2F a (.inl f)).trans (lockO_out (nL a f))
    exact (hp.mono e1).1
  have hdu : ∀ (n : Nat) (u : V) (t : T1), vs[n]? = some u → ts[n]? = some t → T1Z K I2 u t := fun n u t e1 e2 => by
    have ok := (h1 n u t e1 e2).1
    cases t with
    | lf d => exact Rp.mono sI ok
    | ls xs =>
      obtain ⟨q, ws, rfl, hq, ra, z⟩ := l2 n u xs e1 e2
      obtain ⟨m, o, _, _, e⟩ := lockIn (X := H) (q, .lst ws) hq
      exact ⟨q, ws, o, rfl, (I2F q (fL _ hq)).trans e, ra.mono sI, z⟩
    | dc kvs =>
      obtain ⟨q, ws, rfl, hq, hk, ra, z⟩ := l3 n u kvs e1 e2
      obtain ⟨m, o, _, _, e⟩ := lockIn (X := H) (q, .dK ws) hq
      exact ⟨q, ws, o, rfl, (I2F q (fL _ hq)).trans e, hk, ra.mono sI, z⟩
    | lk kvs =>
      have := List.all_eq_true.mp nl _ (List.mem_of_getElem? e2)
      cases this
  have R3 := R2.know (j := j) (sv := .rz k ts) sj ⟨.ref p, sj, p, vs, rfl, rec2, hlen, hn, hdu⟩ fun b f => f
  rw [List.set_set] at R3
  refine ⟨I2, R3, fun g' H' I3 s R5 => ?_⟩
  have s : Same I2 I3 := s
  have facts : ∀ (n : Nat) (r : Addr × HO) (o : Obj), L[n]? = some r → ods[n]? = some o → H' r.1 = some (.frz o r.2) := fun n r o e1 e2 => by
    refine R5.eI _ _ (s _ _ ?_)
    rw [I2F _ (fL r (List.mem_of_getElem? e1))]
    exact lockO_in nd e1 e2
  refine ⟨facts, drpF I3 F, ?_⟩
  have I3F : ∀ a, F a → ∃ o, I3 a = some o ∧ NoData o := fun a f => by
    by_cases h : a ∈ L.map (·.1)
    · obtain ⟨r, hr, rfl⟩ := List.mem_map.mp h
      obtain ⟨n, o, _, _, e⟩ := lockIn (X := H) r hr
      refine ⟨_, s _ _ ((I2F _ f).trans e), ?_⟩
      rcases (l1 r hr).2.1 with ⟨ws, ew⟩ | ⟨ws, ew⟩ <;> (rw [ew]; trivial)
    · cases e : H a with
      | none => exact absurd e (domF a f)
      | some o =>
        refine ⟨o, s _ _ ((I2F a f).trans ((lockO_out h).trans e)), ?_⟩
        rcases f with f | ⟨us, n, u, t, hq, e1, e2, f⟩
        · cases k with
          | ob C ns =>
            obtain ⟨_, dx, e1, e2⟩ := hp
            rcases f with rfl | ⟨C', fs, f⟩
            · rw [e1] at e; cases e; trivial
            · rw [e1] at f; cases f
              rw [e2] at e; cases e; trivial
          | dt ns =>
            obtain ⟨_, e1⟩ := hp
            rcases f with rfl | ⟨C', fs, f⟩
            · rw [e1] at e; cases e; trivial
            · rw [e1] at f; cases f
        · rw [hq.uni hp] at e1
          have ok := (h1 n u t e1 e2).1
          obtain ⟨f1, rfl⟩ := f
          cases t with
          | lf d => cases f1
          | ls xs =>
            obtain ⟨q, ws, e3, hq, _⟩ := l2 n _ xs e1 e2
            cases e3
            exact absurd (mem1 hq rfl) h
          | dc kvs =>
            obtain ⟨q, ws, e3, hq, _⟩ := l3 n _ kvs e1 e2
            cases e3
            exact absurd (mem1 hq rfl) h
          | lk kvs =>
            have := List.all_eq_true.mp nl _ (List.mem_of_getElem? e2)
            cases this
  have nd3 : ∀ a o, F a → I3 a = some o → NoData o := fun a o f e => by
    obtain ⟨o', e', n⟩ := I3F a f
    rw [e] at e'; cases e'; exact n
  have sw : Same w.I (drpF I3 F) := fun b u q => by
    have nf : ¬ F b := fun f => by rw [(own b f).1] at q; cases q
    rw [drpF_ne nf]
    exact s b u (sI b u q)
  have nF : ∀ {b : Addr} {u : HO}, w.H0 b = some u ∨ w.I b = some u ∨ w.fp b → ¬ F b := fun {b u} h f => by
    obtain ⟨a1, a2, a3⟩ := own b f
    rcases h with h | h | h
    · rw [a2] at h; cases h
    · rw [a1] at h; cases h
    · exact a3 h
  have outL : ∀ {b : Addr}, ¬ F b → b ∉ L.map (·.1) := fun {b} nf z => by
    obtain ⟨r, hr, rfl⟩ := List.mem_map.mp z
    exact nf (fL r hr)
  have at2 : ∀ i, i ≠ j → Env.at (env.set j (.rz k ts)) i = env.at i := fun i hi => by rw [at_set, if_neg fun z => hi z.1]
  have own5 : ∀ i, i ≠ j → ∀ b, fpt H' σ i (env.at i) b → ¬ F b := fun i hi b f z => by
    have q2 := R5.slot i
    rw [at2 i hi] at q2
    have := (q2.fr f).1
    obtain ⟨o, e, _⟩ := I3F b z
    have this : I3 b = none := this
    rw [e] at this; cases this
  -- the record's places, behind
  have back : ∀ a, F a → rstO H' L a = H a := fun a f => by
    by_cases h : a ∈ L.map (·.1)
    · obtain ⟨r, hr, rfl⟩ := List.mem_map.mp h
      rw [rstO_in nd hr]
      exact (l1 r hr).1.symm
    · rw [rstO_out h]
      cases e : H a with
      | none => exact absurd e (domF a f)
      | some o => exact R5.eI _ _ (s _ _ ((I2F a f).trans ((lockO_out h).trans e)))
  have kp : ∀ i, i ≠ j → SlotOk K (w.im (drpF I3 F)) σ (rstO H' L) i (env.at i) ∧ ∀ b, fpt (rstO H' L) σ i (env.at i) b ↔ fpt H' σ i (env.at i) b := fun i hi => by
    have q2 := R5.slot i
    rw [at2 i hi] at q2
    have q3 : SlotOk K (w.im (drpF I3 F)) σ H' i (env.at i) := by
      have q := R.slot i
      cases ei : env.at i with
      | un => trivial
      | sh d => rw [ei] at q; obtain ⟨v, e1, r⟩ := q; exact ⟨v, e1, r.mono sw⟩
      | kd d => rw [ei] at q; obtain ⟨v, e1, r⟩ := q; exact ⟨v, e1, r.mono sw⟩
      | fz d => rw [ei] at q; obtain ⟨v, e1, r⟩ := q; exact ⟨v, e1, r.mono sw⟩
      | fl d => rw [ei] at q; obtain ⟨v, e1, r⟩ := q; exact ⟨v, e1, r.mono sw⟩
      | rz k ts => rw [ei] at q; obtain ⟨v, e1, r⟩ := q; exact ⟨v, e1, r.mono sw⟩
      | st => rw [ei] at q; exact q
      | raw v => rw [ei] at q; exact q
      | ow ds =>
        have o5 := own5 i hi
        rw [ei] at q2 o5
        obtain ⟨b, us, e1, hb, bi, b0, bf, r, z⟩ := q2
        exact ⟨b, us, e1, hb, (drpF_ne (o5 b e1)).trans bi, b0, bf, r.shrF nd3, z⟩
      | tr t =>
        have o5 := own5 i hi
        rw [ei] at q2 o5
        obtain ⟨v, e1, ok, k2⟩ := q2
        refine ⟨v, e1, ok.shrF nd3, fun b f => ?_⟩
        obtain ⟨b1, b2, b3⟩ := k2 b f
        exact ⟨(drpF_ne (o5 b ⟨v, e1, f⟩)).trans b1, b2, b3⟩
    exact q3.keep (σ' := σ) (w' := w.im (drpF I3 F)) (H' := rstO H' L) rfl (Same.refl _) rfl fun b f => by
      obtain ⟨a1, a2, a3, _⟩ := q3.fr f
      exact ⟨rstO_out (outL (own5 i hi b f)), a1, a2, a3⟩
  have slj : SlotOk K (w.im (drpF I3 F)) σ (rstO H' L) j (env.at j) ∧ ∀ b, fpt (rstO H' L) σ j (env.at j) b → F b := by
    rw [ej]
    have ok : T2Ok K w.I H (.ref p) (.rc p k ts) := ⟨vs, rfl, hp, hlen, hz, hn, h1, h2⟩
    obtain ⟨m1, m2⟩ := ok.mono (H' := rstO H' L) sw back
    refine ⟨⟨_, sj, m1, fun b f => ?_⟩, fun b f => ?_⟩
    · obtain ⟨a1, a2, a3⟩ := own b ((m2 b).mp f)
      exact ⟨drpF_eq ((m2 b).mp f), a2, a3⟩
    · obtain ⟨u, e1, f⟩ := f
      rw [sj] at e1; cases e1
      exact (m2 b).mp f
  refine ⟨sw, ?_, fun v d r => r.shrF nd3, fun vs ds r => r.shrF nd3, fun q n => ?_⟩
  · exact {
      e0 := fun b u q => by rw [rstO_out (outL (nF (.inl q)))]; exact R5.e0 b u q
      eI := fun b u q => by
        have q : drpF I3 F b = some u := q
        have nf : ¬ F b := fun f => by rw [drpF_eq f] at q; cases q
        rw [drpF_ne nf] at q
        rw [rstO_out (outL nf)]
        exact R5.eI b u q
      ag := fun b u q => (drpF_ne (nF (.inl q))).trans (R5.ag b u q)
      ge := R.ge.trans sw
      gfp := R5.gfp
      grt := R5.grt
      gok := S.loc (fun b hb => rstO_out (outL (nF (u := .lst []) (.inr (.inr ((R5.gfp b).mp hb)))))) R5.gok
      fI := fun b hb => by
        have nf : ¬ F b := nF (u := .lst []) (.inr (.inr hb))
        exact (drpF_ne nf).trans (R5.fI b hb)
      f0 := R.f0
      len := R.len
      slot := fun i => by
        by_cases h : i = j
        · rw [h]; exact slj.1
        · exact (kp i h).1
      dis := fun i l b n f1 f2 => by
        by_cases hi : i = j
        · have hl : l ≠ j := fun z => n (hi.trans z.symm)
          rw [hi] at f1
          exact own5 l hl b (((kp l hl).2 b).mp f2) (slj.2 b f1)
        · by_cases hl : l = j
          · rw [hl] at f2
            exact own5 i hi b (((kp i hi).2 b).mp f1) (slj.2 b f2)
          · exact R5.dis i l b n (by rw [at2 i hi]; exact ((kp i hi).2 b).mp f1) (by rw [at2 l hl]; exact ((kp l hl).2 b).mp f2) }
  · have ni : I3 q = none := n.i
    have nf : ¬ F q := fun f => by
      obtain ⟨o, e, _⟩ := I3F q f
      rw [e] at ni; cases ni
    refine ⟨rstO_out (outL nf), ⟨(drpF_ne nf).trans ni, n.h0, n.f, fun i f => ?_⟩⟩
    by_cases h : i = j
    · rw [h] at f; exact nf (slj.2 q f)
    · exact n.o i (by rw [at2 i h]; exact ((kp i h).2 q).mp f)
/-- one look at a record of one's own -/
def mLkR {α : Type} (j : Nat) (m : Env → G → Option (α × G)) : Env → G → Option (α × G) := fun env g => match env.at j with
  | .tr (.rc p k ts) => if (ts.all T1.notLk) = true then m (env.set j (.rz k ts)) g else none
  | _ => none
theorem de_lkR (j : Nat) (h : DE X S e ma) : DE X S e (mLkR j ma) := by
  have h1 : PE X e (fun σ H Q => ∃ L, tLkO L (tE X.K S ma) σ H Q) := ⟨fun pins s σ H Q I ⟨L, q⟩ => (pe_lkO h L).run pins s σ H Q I q⟩
  refine PE.imp h1 fun σ H Q ⟨w, env, g, d, g', R, e, k⟩ => ?_
  unfold mLkR at e
  split at e
  case h_2 => cases e
  rename_i p kk ts ej
  split at e
  case isFalse => cases e
  rename_i nl
  obtain ⟨L, nd, hd, kL⟩ := R.lockR ej nl
  refine ⟨L, tLkO_of (t := tE X.K S ma) (fun σ H Q Q' i h => te_mono i h) nd hd fun ods hol => ?_⟩
  obtain ⟨I2, R4, back⟩ := kL ods hol
  refine ⟨w.im I2, _, g, d, g', R4, e, fun v I3 H' s R5 p => ?_⟩
  obtain ⟨b1, I4, sw, b2, b3, _⟩ := back g' H' I3 s R5
  exact ⟨b1, k v I4 _ sw b2 (b3 _ _ p)⟩
theorem dt_lkR (j : Nat) (h : DT X S e mt) : DT X S e (mLkR j mt) := by
  have h1 : PT X e (fun σ H Q => ∃ L, tLkO L (tT X.K S mt) σ H Q) := ⟨fun pins s σ H Q I ⟨L, q⟩ => (pt_lkO h L).run pins s σ H Q I q⟩
  refine PT.imp h1 fun σ H Q ⟨w, env, g, d, g', R, e, k⟩ => ?_
  unfold mLkR at e
  split at e
  case h_2 => cases e
  rename_i p kk ts ej
  split at e
  case isFalse => cases e
  rename_i nl
  obtain ⟨L, nd, hd, kL⟩ := R.lockR ej nl
  refine ⟨L, tLkO_of (t := tT X.K S mt) (fun σ H Q Q' i h => tt_mono i h) nd hd fun ods hol => ?_⟩
  obtain ⟨I2, R4, back⟩ := kL ods hol
  refine ⟨w.im I2, _, g, d, g', R4, e, fun I3 H' s R5 => ?_⟩
  obtain ⟨b1, I4, sw, b2, _⟩ := back g' H' I3 s R5
  exact ⟨b1, k I4 _ sw b2⟩
theorem tf_mono {m : ML G} {Q Q' : VK} (i : ∀ v H, Q v H → Q' v H) (h : tF K S m σ H Q) : tF K S m σ H Q' := by
  obtain ⟨w, env, g, ds, g', R, e, k⟩ := h
  exact ⟨w, env, g, ds, g', R, e, fun p us I' H' s R' n hp ra z => i _ _ (k p us I' H' s R' n hp ra z)⟩
theorem df_lkR (j : Nat) (h : DF X S e ml) : DF X S e (mLkR j ml) := by
  have h1 : PE X e (fun σ H Q => ∃ L, tLkO L (tF X.K S ml) σ H Q) := ⟨fun pins s σ H Q I ⟨L, q⟩ => (pe_lkO h L).run pins s σ H Q I q⟩
  refine PE.imp h1 fun σ H Q ⟨w, env, g, d, g', R, e, k⟩ => ?_
  unfold mLkR at e
  split at e
  case h_2 => cases e
  rename_i p kk ts ej
  split at e
  case isFalse => cases e
  rename_i nl
  obtain ⟨L, nd, hd, kL⟩ := R.lockR ej nl
  refine ⟨L, tLkO_of (t := tF X.K S ml) (fun σ H Q Q' i h => tf_mono i h) nd hd fun ods hol => ?_⟩
  obtain ⟨I2, R4, back⟩ := kL ods hol
  refine ⟨w.im I2, _, g, d, g', R4, e, fun q us I3 H' s R5 n hq ra z => ?_⟩
  obtain ⟨b1, I4, sw, b2, _, b4, b5⟩ := back g' H' I3 s R5
  obtain ⟨c1, c2⟩ := b5 q n
  exact ⟨b1, k q us I4 _ sw b2 c2 (c1.trans hq) (b4 _ _ ra) z⟩
end
end Pd

/-! Pf: what a locked record is asked. -/
namespace Pd
open PySem PySem.Spec L2
open Classical
theorem zip_look {α : Type} : ∀ {ns : List Str} {vs : List α} {n : Nat} {f : Str}, ns.Nodup → vs.length = ns.length → ns[n]? = some f → (ns.zip vs).lookup f = vs[n]?
  | x :: ns, v :: vs, 0, f, _, _, h => by
    simp at h; subst h
    simp [List.lookup]
  | x :: ns, v :: vs, n + 1, f, nd, hl, h => by
    have nd' := List.nodup_cons.mp nd
    have h : ns[n]? = some f := by simpa using h
    have ne : (f == x) = false := beq_false_of_ne fun z => nd'.1 (z ▸ List.mem_of_getElem? h)
    rw [List.zip_cons_cons]
    simp only [List.lookup, ne]
    rw [zip_look nd'.2 (by simpa using hl) h]
    simp
theorem zip_val {vs : List V} {ns : List Str} {n : Nat} {f : Str} (nd : ns.Nodup) (hl : vs.length = ns.length) (h : ns[n]? = some f) : valV ((ns.map Sum.inr).zip vs) (Sum.inr f : Key) = vs[n]? := by
  induction ns generalizing vs n with
  | nil => simp at h
  | cons x ns ih =>
    cases vs with
    | nil => cases hl
    | cons v vs =>
      have nd' := List.nodup_cons.mp nd
      rw [List.map_cons, List.zip_cons_cons]
      cases n with
      | zero =>
        simp at h; subst h
        exact (valV_pos rfl).trans rfl
      | succ n =>
        have h : ns[n]? = some f := by simpa using h
        refine (valV_neg (fun z => nd'.1 ?_)).trans ((ih nd'.2 (by simpa using hl) h).trans (by simp))
        have z : (Sum.inr x : Key) = .inr f := z
        cases z
        exact List.mem_of_getElem? h
section
variable {G : Type} {X : Cx} {S : Gs G} {a b c e : Expr} {es : List Expr} {pos : Pos} {ma mb me mi : ME G} {mt mu : MT G} {ml : ML G} {tg : Expr}
variable {K : PySem.W.Frag} {w : Wd} {env env' : Env} {g g' : G} {σ : St} {H H' I' : Hp}
/-- a field of the locked record in slot j -/
def tPath (K : PySem.W.Frag) (S : Gs G) (κ : RK) (j n : Nat) : TE := fun σ H Q => ∃ w env g ts t, Rel K S w env g σ H ∧ env.at j = .rz κ ts ∧ ts[n]? = some t ∧ ∀ u, T1Z K w.I u t → Q u H
abbrev DPa (X : Cx) (S : Gs G) (e : Expr) (κ : RK) (j n : Nat) : Prop := PE X e (tPath X.K S κ j n)
theorem Rel.rz {j : Nat} {κ : RK} {ts : List T1} (R : Rel K S w env g σ H) (ej : env.at j = .rz κ ts) : ∃ p vs, σ[j]? = some (some (.ref p)) ∧ RecAt w.I p κ vs ∧ vs.length = ts.length ∧ κ.ns.Nodup ∧ ∀ (n : Nat) (u : V) (t : T1), vs[n]? = some u → ts[n]? = some t → T1Z K w.I u t := by
  have q := R.slot j
  rw [ej] at q
  obtain ⟨v, sj, p, vs, rfl, r1, r2, r3, r4⟩ := q
  exact ⟨p, vs, sj, r1, r2, r3, r4⟩
theorem dpa_ob (j n : Nat) {x f : Str} {xp : Pos} {C : Addr} {ns : List Str} (cl : Cls X.K C) (na : NoAttr X.K C f) (hf : ns[n]? = some f := by rfl) (hN : X.N[j]? = some x := by rfl) (hv : Vis X.env.scope x := by first | exact Or.inl rfl | exact Or.inr (Or.inl rfl) | exact Or.inr (Or.inr rfl)) (hd : (x == ("__debug__" : Str)) = false := by decide)
    (hcd : (x == ("__classdict__" : Str)) = false := by decide) (hb : attributeBase (.Name x xp) f X.env (eval (.Name x xp) X.env) = eval (.Name x xp) X.env := by rfl) : DPa X S (.Attribute (.Name x xp) f pos) (.ob C ns) j n :=
  PE.imp (pe_fld (pe_var hN hv hd hcd) hb) fun σ H Q ⟨w, env, g, ts, t, R, ej, et, k⟩ => by
    obtain ⟨p, vs, sj, ⟨l, dx, hp, _⟩, hl, nd, hz⟩ := R.rz ej
    have hn : n < vs.length := by rw [hl]; exact (List.getElem?_eq_some_iff.mp et).1
    have hu := List.getElem?_eq_getElem hn
    exact ⟨_, sj, p, C, dx, _, vs[n], rfl, R.eI _ _ hp, cl, na, (zip_look nd l hf).trans hu, k _ (hz n _ t hu et)⟩
theorem dpa_dt (j n : Nat) {x f : Str} {xp fp : Pos} {k0} {ns : List Str} (hu : X.A.units + 65 < cLine) (hf : ns[n]? = some f := by rfl) (hN : X.N[j]? = some x := by rfl) (hv : Vis X.env.scope x := by first | exact Or.inl rfl | exact Or.inr (Or.inl rfl) | exact Or.inr (Or.inr rfl)) (hd : (x == ("__debug__" : Str)) = false := by decide)
    (hcd : (x == ("__classdict__" : Str)) = false := by decide) : DPa X S (.Subscript (.Name x xp) (.Constant (.str f) k0 fp) pos) (.dt ns) j n :=
  PE.imp (pe_dget (by omega) (pe_var hN hv hd hcd) pe_str (fun _ _ => rfl)) fun σ H Q ⟨w, env, g, ts, t, R, ej, et, k⟩ => by
    obtain ⟨p, vs, sj, ⟨l, hp⟩, hl, nd, hz⟩ := R.rz ej
    have hn : n < vs.length := by rw [hl]; exact (List.getElem?_eq_some_iff.mp et).1
    have hu := List.getElem?_eq_getElem hn
    exact ⟨_, sj, p, vs[n], rfl, .inl ⟨_, .inr f, .inl (R.eI _ _ hp), rfl, ((zip_val nd l hf).trans hu).symm⟩, k _ (hz n _ t hu et)⟩
noncomputable def zAt (κ : RK) (j n : Nat) (env : Env) : Option T1 := match env.at j with
  | .rz k ts => if k = κ then ts[n]? else none
  | _ => none
theorem zAt_some {κ : RK} {j n : Nat} {t : T1} (h : zAt κ j n env = some t) : ∃ ts, env.at j = .rz κ ts ∧ ts[n]? = some t := by
  unfold zAt at h
  split at h
  · rename_i k ts ej
    split at h
    · rename_i e; subst e; exact ⟨ts, ej, h⟩
    · cases h
  · cases h
/-- the value that a field is, the same later -/
theorem Rel.zVal {κ : RK} {j n : Nat} {t : T1} {ts : List T1} {I2 : Hp} {g2 : G} {H2 : Hp} (R : Rel K S w env g σ H) (R2 : Rel K S (w.im I2) env g2 σ H2) (s : Same w.I I2) {u : V} (h : T1Z K w.I u t) : T1Z K I2 u t := h.mono s
/-! ### a plain field -/
noncomputable def mZF (κ : RK) (j n : Nat) : ME G := fun env g => match zAt κ j n env with
  | some (.lf d) => some (d, g)
  | _ => none
theorem de_zF {κ : RK} {j n : Nat} (h : DPa X S e κ j n) : DE X S e (mZF κ j n) := PE.imp h fun σ H Q ⟨w, env, g, d, g', R, e, k⟩ => by
  unfold mZF at e
  split at e
  case h_2 => cases e
  rename_i d' ez
  cases e
  obtain ⟨ts, ej, et⟩ := zAt_some ez
  exact ⟨w, env, g, ts, _, R, ej, et, fun u hu => k u w.I H (Same.refl _) R hu⟩
/-! ### a dict's get, its item -/
theorem find_none {k : Key} {I : Hp} : ∀ {kvs : List (Key × D)} {vs : List (Key × V)}, vs.map (·.1) = kvs.map (·.1) → findK kvs k = none → valV vs k = none := fun {kvs vs} h e => by
  have h1 := has_eq (k := k) h
  have h2 : hasK kvs k = false := by
    unfold findK at e
    rw [Option.map_eq_none_iff, List.find?_eq_none] at e
    unfold hasK
    rw [List.any_eq_false]
    exact e
  rw [h2] at h1
  cases q : valV vs k with
  | none => rfl
  | some v => rw [q] at h1; cases h1
noncomputable def mZGet (κ : RK) (j n : Nat) (ma mb : ME G) : ME G := fun env g => bD (ma env g) fun x g1 => bD (mb env g1) fun y g2 => match zAt κ j n env, keyD x with
  | some (.dc kvs), some k => some ((findK kvs k).getD y, g2)
  | _, _ => none
theorem de_zGet {κ : RK} {j n : Nat} {apos cpos : Pos} (hu : X.A.units + 65 < cLine) (h : DPa X S e κ j n) (ha : DE X S a ma) (hb : DE X S b mb)
    (base : attributeBase e "get" X.env (eval e X.env) = eval e X.env := by rfl)
    (few : ((backTo cpos (starEach [a, b] X.env)).all (fun x => !x.1) && (backToKw cpos (keywordEach [] X.env)).all (fun x => x.1.isSome) && decide (([a, b] : List Expr).length + ([] : List Keyword).length + (if ([] : List Keyword).isEmpty then 0 else 1) < 30)) = true := by rfl)
    (line : (apos.endLine == cpos.line) = true := by rfl) (trees : backTo cpos (starEach [a, b] X.env) = [(false, eval a X.env), (false, eval b X.env)] := by rfl) :
    DE X S (.Call (.Attribute e "get" apos) [a, b] [] cpos) (mZGet κ j n ma mb) := PE.imp (pe_dget2 (by omega) h ha hb ⟨base, few, line, trees⟩) fun σ H Q ⟨w, env, g, d, g', R, e, k⟩ => by
  obtain ⟨x, g1, e1, e⟩ := bD_some e
  obtain ⟨y, g2, e2, e⟩ := bD_some e
  split at e
  case h_2 => cases e
  rename_i kvs ky ez ek
  cases e
  obtain ⟨ts, ej, et⟩ := zAt_some ez
  refine ⟨w, env, g, ts, _, R, ej, et, fun u hz => ?_⟩
  obtain ⟨q, ws, o, rfl, hq, hk, ra, hs⟩ := hz
  refine ⟨q, rfl, .inl ⟨ws, .inr ⟨o, R.eI _ _ hq⟩⟩, w, env, g, x, g1, R, e1, fun v I1 H1 s1 R1 p1 => ⟨w.im I1, env, g1, y, g', R1, e2, fun z I2 H2 s2 R2 p2 => ?_⟩⟩
  have s2 : Same I1 I2 := s2
  refine ⟨valV ws ky, .inl ⟨ws, ky, .inr ⟨o, R2.eI _ _ (s2 _ _ (s1 _ _ hq))⟩, keyD_rp p1 ek, rfl⟩, ?_⟩
  cases ef : findK kvs ky with
  | none =>
    rw [find_none (I := w.I) hk ef]
    rw [ef] at k
    exact k z I2 H2 (s1.trans s2) R2 p2
  | some d =>
    obtain ⟨v', e4, rv⟩ := find_rp hk ra ef
    rw [e4]
    rw [ef] at k
    exact k v' I2 H2 (s1.trans s2) R2 (rv.mono (s1.trans s2))
noncomputable def mZIx (κ : RK) (j n : Nat) (mi : ME G) : ME G := fun env g => bD (mi env g) fun x g1 => match zAt κ j n env, keyD x with
  | some (.dc kvs), some k => (findK kvs k).map (·, g1)
  | _, _ => none
theorem de_zIx {κ : RK} {j n : Nat} (hu : X.A.units + 65 < cLine) (h : DPa X S e κ j n) (ha : DE X S a mi) (hs : NoSl a := by exact fun _ _ => rfl) :
    DE X S (.Subscript e a pos) (mZIx κ j n mi) := PE.imp (pe_dget (by omega) h ha hs) fun σ H Q ⟨w, env, g, d, g', R, e, k⟩ => by
  obtain ⟨x, g1, e1, e⟩ := bD_some e
  split at e
  case h_2 => cases e
  rename_i kvs ky ez ek
  obtain ⟨ef, rfl⟩ := map_some e
  obtain ⟨ts, ej, et⟩ := zAt_some ez
  refine ⟨w, env, g, ts, _, R, ej, et, fun u hz => ?_⟩
  obtain ⟨q, ws, o, rfl, hq, hk, ra, hs⟩ := hz
  refine ⟨w, env, g, x, g', R, e1, fun v I1 H1 s1 R1 p1 => ?_⟩
  obtain ⟨v', e4, rv⟩ := find_rp hk ra ef
  exact ⟨q, v', rfl, .inl ⟨ws, ky, .inr ⟨o, R1.eI _ _ (s1 _ _ hq)⟩, keyD_rp p1 ek, e4.symm⟩, k v' I1 H1 s1 R1 (rv.mono s1)⟩
/-! ### sorted of a dict: its keys -/
theorem srt_uni : ∀ {a b : List Int}, a.Perm b → a.Pairwise (· ≤ ·) → b.Pairwise (· ≤ ·) → a = b
  | [], b, p, _, _ => p.nil_eq
  | x :: a, [], p, _, _ => nomatch p.length_eq
  | x :: a, y :: b, p, h1, h2 => by
    have h1' := List.pairwise_cons.mp h1
    have h2' := List.pairwise_cons.mp h2
    have e : x = y := by
      rcases List.mem_cons.mp (p.mem_iff.mp (List.mem_cons_self ..) : x ∈ y :: b) with e | e
      · exact e
      · rcases List.mem_cons.mp (p.mem_iff.mpr (List.mem_cons_self ..) : y ∈ x :: a) with e' | e'
        · exact e'.symm
        · exact Int.le_antisymm (h1'.1 y e') (h2'.1 x e)
    subst e
    rw [srt_uni p.cons_inv h1'.2 h2'.2]
def sortI (is : List Int) : List Int := is.mergeSort fun a b => decide (a ≤ b)
theorem sortI_perm (is : List Int) : (sortI is).Perm is := List.mergeSort_perm _ _
theorem sortI_srt (is : List Int) : (sortI is).Pairwise (· ≤ ·) := (List.pairwise_mergeSort (fun a b c h1 h2 => by
  simp only [decide_eq_true_eq] at *
  omega) (fun a b => by
  rw [Bool.or_eq_true, decide_eq_true_eq, decide_eq_true_eq]
  omega) is).imp of_decide_eq_true
def dSortK (kvs : List (Key × D)) : Option (List D) := match intK kvs with
  | some is => if is.length < 64 then some ((sortI is).map .int) else none
  | none => none
noncomputable def mZSort (κ : RK) (j n : Nat) : ML G := fun env g => match zAt κ j n env with
  | some (.dc kvs) => (dSortK kvs).map (·, g)
  | _ => none
theorem df_zSort {κ : RK} {j n : Nat} {p : Pos} (hc : X.calm = true) (h : DPa X S e κ j n) (hg : Gl X "sorted") (hm : X.mg "sorted" = none) (hv : bootBuiltins "sorted" = some (.builtin "sorted"))
    (he : starEach [e] X.env = (false, eval e X.env) :: starEach [] X.env := by rfl) (hpl : (backTo pos (starEach [] X.env)).any (·.1) = false := by rfl) : DF X S (.Call (.Name "sorted" p) [e] [] pos) (mZSort κ j n) :=
  PE.imp (pe_callB (call_sortedDI hc) hg hm hv (pa_cons h pa_nil he) (by decide) (by decide) he hpl) fun σ H Q ⟨w, env, g, d, g', R, e, k⟩ => by
    unfold mZSort at e
    split at e
    case h_2 => cases e
    rename_i kvs ez
    obtain ⟨es, rfl⟩ := map_some e
    unfold dSortK at es
    split at es
    case h_2 => cases es
    rename_i is ei
    split at es
    case isFalse => cases es
    rename_i h64
    cases es
    obtain ⟨ts, ej, et⟩ := zAt_some ez
    refine ⟨w, env, _, ts, _, R, ej, et, fun u hz => ?_⟩
    obtain ⟨q, ws, o, rfl, hq, hk, ra, hs⟩ := hz
    refine ⟨q, ws, is, rfl, .inr ⟨o, R.eI _ _ hq⟩, hk.trans (intK_map ei), h64, fun ys p hp hw h0 => ?_⟩
    have ey : ys = sortI is := srt_uni (hp.trans (sortI_perm is).symm) hw (sortI_srt is)
    subst ey
    refine k p _ w.I _ (Same.refl _) (R.alloc h0) (R.nob h0) upd_same (RpA.of_ints _) ?_
    rw [List.length_map, (sortI_perm is).length_eq, sizeLine_eq]; omega
/-! ### a list: its items, its length, one item -/
noncomputable def mItZ (κ : RK) (j n : Nat) : ML G := fun env g => match zAt κ j n env with
  | some (.ls xs) => some (xs, g)
  | _ => none
theorem itzr_ok {p : Addr} {vs : List V} {ds : List D} {I : Hp} {o : Obj} (hp : I p = some (.frz o (.lst vs))) (ra : RpA K I vs ds) : ItOk K (Itl K p) I ds where
  go := fun i I' H' hi s1 s2 => by
    have hv : i < vs.length := by rw [ra.len]; exact hi
    exact ⟨vs, vs[i], .inl (.inr ⟨o, s2 _ _ (s1 _ _ hp)⟩), by simp [hv]⟩
  yl := fun i I' H' x H'' d hd s1 s2 y => by
    obtain ⟨e, y⟩ := y
    subst e
    have hx := y vs (.inl (.inr ⟨o, s2 _ _ (s1 _ _ hp)⟩))
    obtain ⟨d', e1, r⟩ := ra.getV hx
    rw [hd] at e1
    cases e1
    exact ⟨I', Pst.refl s2, r.mono s1⟩
  st := fun i I' H' hi s1 s2 => ⟨vs, .inl (.inr ⟨o, s2 _ _ (s1 _ _ hp)⟩), by rw [ra.len]; exact hi⟩
theorem di_z {κ : RK} {j n : Nat} (h : DPa X S e κ j n) : DI X S tg e (mItZ κ j n) := PI.imp (pi_list h) fun σ H R' ⟨w, env, g, ds, g', R, e, k⟩ => by
  unfold mItZ at e
  split at e
  case h_2 => cases e
  rename_i xs ez
  cases e
  obtain ⟨ts, ej, et⟩ := zAt_some ez
  refine ⟨w, env, g, ts, _, R, ej, et, fun u hz => ?_⟩
  obtain ⟨q, ws, o, rfl, hq, ra, hl⟩ := hz
  exact ⟨q, rfl, ⟨ws, .inl (.inr ⟨o, R.eI _ _ hq⟩)⟩, k _ w.I H (Same.refl _) R (itzr_ok hq ra) hl⟩
noncomputable def mZLen (κ : RK) (j n : Nat) : ME G := fun env g => match zAt κ j n env with
  | some (.ls xs) => some (.int xs.length, g)
  | _ => none
theorem de_zLen {κ : RK} {j n : Nat} {p : Pos} (h : DPa X S e κ j n) (hg : Gl X "len") (hm : X.mg "len" = none) (hv : bootBuiltins "len" = some (.builtin "len"))
    (he : starEach [e] X.env = (false, eval e X.env) :: starEach [] X.env := by rfl) (hpl : (backTo pos (starEach [] X.env)).any (·.1) = false := by rfl) : DE X S (.Call (.Name "len" p) [e] [] pos) (mZLen κ j n) :=
  PE.imp (pe_callB call_len hg hm hv (pa_cons h pa_nil he) (by decide) (by decide) he hpl) fun σ H Q ⟨w, env, g, d, g', R, e, k⟩ => by
    unfold mZLen at e
    split at e
    case h_2 => cases e
    rename_i xs ez
    cases e
    obtain ⟨ts, ej, et⟩ := zAt_some ez
    refine ⟨w, env, g, ts, _, R, ej, et, fun u hz => ?_⟩
    obtain ⟨q, ws, o, rfl, hq, ra, hl⟩ := hz
    exact ⟨.ref q, xs.length, rfl, .inl ⟨ws, .inl (.inr ⟨o, R.eI _ _ hq⟩), ra.len.symm⟩, k _ w.I H (Same.refl _) R (.int _)⟩
noncomputable def mZIxL (κ : RK) (j n : Nat) (mi : ME G) : ME G := fun env g => bD (mi env g) fun x g1 => match zAt κ j n env, x with
  | some (.ls xs), .int i => (atI xs i).map (·, g1)
  | _, _ => none
theorem de_zIxL {κ : RK} {j n : Nat} (h : DPa X S e κ j n) (ha : DE X S a mi) (hs : PlainIx a := by exact fun _ _ => rfl) : DE X S (.Subscript e a pos) (mZIxL κ j n mi) := PE.imp (pe_ix ix_list h ha hs) fun σ H Q ⟨w, env, g, d, g', R, e, k⟩ => by
  obtain ⟨x, g1, e1, e⟩ := bD_some e
  split at e
  case h_2 => cases e
  rename_i xs i ez
  obtain ⟨ei, rfl⟩ := map_some e
  obtain ⟨ts, ej, et⟩ := zAt_some ez
  refine ⟨w, env, g, ts, _, R, ej, et, fun u hz => ?_⟩
  obtain ⟨q, ws, o, rfl, hq, ra, hl⟩ := hz
  refine ⟨w, env, g, .int i, g', R, e1, fun v I1 H1 s1 R1 p1 => ?_⟩
  cases p1
  obtain ⟨m, x, e3, e4, e5⟩ := atI_at ra.len ei
  obtain ⟨d', e6, r⟩ := ra.getV e4
  rw [e5] at e6; cases e6
  exact ⟨q, ws, i, x, rfl, rfl, .inl (.inr ⟨o, R1.eI _ _ (s1 _ _ hq)⟩), e3, k x I1 H1 s1 R1 (r.mono s1)⟩
/-! ### as arguments -/
def gConsZ (i : Nat) (ml : MG G) : MG G := fun env g => match env.at i with
  | .rz κ ts => bD (ml env g) fun xs g2 => some (.rz κ ts :: xs, g2)
  | _ => none
theorem dg_rz {mg : MG G} {i : Nat} {x : Str} {pos' : Pos} (hr : DG X S es mg) (hN : X.N[i]? = some x := by rfl) (hv : Vis X.env.scope x := by first | exact Or.inl rfl | exact Or.inr (Or.inl rfl) | exact Or.inr (Or.inr rfl)) (hd : (x == ("__debug__" : Str)) = false := by decide)
    (hcd : (x == ("__classdict__" : Str)) = false := by decide) (hs : starEach (.Name x pos' :: es) X.env = (false, eval (.Name x pos') X.env) :: starEach es X.env := by rfl) : DG X S (.Name x pos' :: es) (gConsZ i mg) := PA.imp (pa_cons (pe_var hN hv hd hcd) hr hs) fun σ H Q h => by
  obtain ⟨w, env, g, d, g', R, e, k⟩ := h
  unfold gConsZ at e
  split at e
  · rename_i κ ts ej
    obtain ⟨y, g2, e2, e⟩ := bD_some e
    cases e
    have q := R.slot i
    rw [ej] at q
    obtain ⟨v, sj, ok⟩ := q
    exact ⟨_, sj, w, env, g, y, g', R, e2, fun vs I2 H2 s2 R2 p2 => k _ I2 H2 s2 R2 (.cons (ok.mono s2) p2)⟩
  · cases e
noncomputable def gConsZD (κ : RK) (j n : Nat) (ml : MG G) : MG G := fun env g => match zAt κ j n env with
  | some (.dc kvs) => bD (ml env g) fun xs g2 => some (.fz kvs :: xs, g2)
  | _ => none
theorem dg_zD {mg : MG G} {κ : RK} {j n : Nat} (h : DPa X S e κ j n) (hr : DG X S es mg) (hs : starEach (e :: es) X.env = (false, eval e X.env) :: starEach es X.env := by rfl) : DG X S (e :: es) (gConsZD κ j n mg) := PA.imp (pa_cons h hr hs) fun σ H Q h => by
  obtain ⟨w, env, g, d, g', R, e, k⟩ := h
  unfold gConsZD at e
  split at e
  · rename_i kvs ez
    obtain ⟨y, g2, e2, e⟩ := bD_some e
    cases e
    obtain ⟨ts, ej, et⟩ := zAt_some ez
    exact ⟨w, env, g, ts, _, R, ej, et, fun u hz => ⟨w, env, g, y, g', R, e2, fun vs I2 H2 s2 R2 p2 => k _ I2 H2 s2 R2 (.cons (FzOk.mono s2 hz) p2)⟩⟩
  · cases e
end
end Pd

/-! Pf: records of one's own are written. -/
namespace Pd
open PySem PySem.Spec L2
open Classical
section
variable {G : Type} {X : Cx} {S : Gs G} {a b c e : Expr} {es : List Expr} {pos : Pos} {ma mb me mi : ME G} {mt mu : MT G} {ml : ML G} {tg : Expr} {st : Stmt} {m : MS G}
variable {K : PySem.W.Frag} {w : Wd} {env env' : Env} {g g' : G} {σ : St} {H H' I' : Hp}
/-- what one slot owns is written: the slot is another, whose places are no other slot's -/
theorem Rel.writeN {j : Nat} {sv : SV} {H' : Hp} (R : Rel K S w env g σ H) (hj : j < env.length) (ch : ∀ a, H' a ≠ H a → H a = none ∨ fpt H σ j (env.at j) a) (e : ∀ a o, H a = some o → H' a ≠ none)
    (ok : SlotOk K w σ H' j sv) (fp : ∀ a l, l ≠ j → fpt H' σ j sv a → ¬ fpt H σ l (env.at l) a) : Rel K S w (env.set j sv) g σ H' := by
  have st : ∀ a, H a ≠ none → ¬ fpt H σ j (env.at j) a → H' a = H a := fun a h1 h2 => Classical.byContradiction fun z => (ch a z).elim h1 h2
  have kp : ∀ k, k ≠ j → SlotOk K w σ H' k (env.at k) ∧ ∀ a, fpt H' σ k (env.at k) a ↔ fpt H σ k (env.at k) a := fun k hk => (R.slot k).keep (σ' := σ) (w' := w) (H' := H') rfl (Same.refl _) rfl fun a f => by
    obtain ⟨a1, a2, a3, a4⟩ := (R.slot k).fr f
    exact ⟨st a a4 fun z => R.dis k j a hk f z, a1, a2, a3⟩
  have old : ∀ {X : Hp} (a : Addr) (o : HO), X a = some o → Same X H → (fpt H σ j (env.at j) a → X a = none) → H' a = some o := fun {X} a o q s n => by
    have h : H a = some o := s a o q
    rw [st a (by rw [h]; simp) fun f => by rw [n f] at q; cases q]
    exact h
  exact {
    e0 := fun a o q => old a o q R.e0 fun f => ((R.slot j).fr f).2.1
    eI := fun a o q => old a o q R.eI fun f => ((R.slot j).fr f).1
    ag := R.ag
    ge := R.ge
    gfp := R.gfp
    grt := R.grt
    gok := S.loc (fun a ha => by
      have h := S.dom R.gok ha
      exact st a h fun f => ((R.slot j).fr f).2.2.1 ((R.gfp a).mp ha)) R.gok
    fI := R.fI
    f0 := R.f0
    len := by rw [List.length_set]; exact R.len
    slot := fun k => by
      rw [at_set]
      by_cases h : k = j ∧ j < env.length
      · rw [if_pos h, h.1]; exact ok
      · rw [if_neg h]
        exact (kp k fun z => h ⟨z, hj⟩).1
    dis := fun k l a hkl f1 f2 => by
      rw [at_set] at f1 f2
      by_cases hk : k = j ∧ j < env.length
      · have hl : ¬ (l = j ∧ j < env.length) := fun z => hkl (hk.1.trans z.1.symm)
        have nl : l ≠ j := fun z => hl ⟨z, hj⟩
        rw [if_pos hk, hk.1] at f1
        rw [if_neg hl] at f2
        exact fp a l nl f1 (((kp l nl).2 a).mp f2)
      · have nk : k ≠ j := fun z => hk ⟨z, hj⟩
        rw [if_neg hk] at f1
        have f1 := ((kp k nk).2 a).mp f1
        by_cases hl : l = j ∧ j < env.length
        · rw [if_pos hl, hl.1] at f2
          exact fp a k nk f2 f1
        · have nl : l ≠ j := fun z => hl ⟨z, hj⟩
          rw [if_neg hl] at f2
          exact R.dis k l a hkl f1 (((kp l nl).2 a).mp f2) }
/-- the record of a slot -/
theorem Rel.rc {j : Nat} {p : Addr} {κ : RK} {ts : List T1} (R : Rel K S w env g σ H) (ej : env.at j = .tr (.rc p κ ts)) : ∃ vs, σ[j]? = some (some (.ref p)) ∧ RecAt H p κ vs ∧ vs.length = ts.length ∧ ts.length ≤ 100 ∧ κ.ns.Nodup ∧
      (∀ (k : Nat) (u : V) (t : T1), vs[k]? = some u → ts[k]? = some t → T1Ok K w.I H u t ∧ ∀ a, RecFp H p a → ¬ t.fp u a) ∧
      (∀ (k l : Nat) (u u' : V) (t t' : T1) (a : Addr), k ≠ l → vs[k]? = some u → vs[l]? = some u' → ts[k]? = some t → ts[l]? = some t' → t.fp u a → ¬ t'.fp u' a) ∧
      (∀ a, T2.fp H (.ref p) (.rc p κ ts) a → w.I a = none ∧ w.H0 a = none ∧ ¬ w.fp a) ∧ ∀ a, T2.fp H (.ref p) (.rc p κ ts) a → fpt H σ j (env.at j) a := by
  have q := R.slot j
  rw [ej] at q
  obtain ⟨v, sj, ⟨vs, rfl, hp, hl, hz, hn, h1, h2⟩, own⟩ := q
  exact ⟨vs, sj, hp, hl, hz, hn, h1, h2, own, fun a f => by rw [ej]; exact ⟨_, sj, f⟩⟩
/-- a record changes in one field, or comes to have one more -/
theorem Rel.recPut {j n : Nat} {p : Addr} {κ κ' : RK} {ts ts' : List T1} {vs vs' : List V} {y : V} {t' : T1} {H' : Hp} (R : Rel K S w env g σ H) (ej : env.at j = .tr (.rc p κ ts)) (sj : σ[j]? = some (some (.ref p))) (hp : RecAt H p κ vs)
    (hH : ∀ a, a ≠ p → H' a = H a) (hf : ∀ a, RecFp H' p a ↔ RecFp H p a) (hp' : RecAt H' p κ' vs') (hl' : vs'.length = ts'.length) (hz' : ts'.length ≤ 100) (nd' : κ'.ns.Nodup)
    (el : ∀ (k : Nat) (u : V) (t : T1), vs'[k]? = some u → ts'[k]? = some t → (k = n ∧ u = y ∧ t = t') ∨ (k ≠ n ∧ vs[k]? = some u ∧ ts[k]? = some t))
    (ok : T1Ok K w.I H y t') (fr : ∀ a, t'.fp y a → Nob w env σ H a ∨ ∃ u t, vs[n]? = some u ∧ ts[n]? = some t ∧ t.fp u a) : Rel K S w (env.set j (.tr (.rc p κ' ts'))) g σ H' := by
  obtain ⟨vs0, _, hp0, hl, hz, nd, h1, h2, own, inj⟩ := R.rc ej
  rw [hp0.uni hp] at hl h1 h2
  have fpN : ∀ a, t'.fp y a → ¬ RecFp H p a := fun a f z => by
    rcases fr a f with n0 | ⟨u, t, e1, e2, f'⟩
    · exact n0.o j (inj a (.inl z))
    · exact (h1 n u t e1 e2).2 a z f'
  have pfp : ∀ {k : Nat} {u : V} {t : T1} {a : Addr}, vs[k]? = some u → ts[k]? = some t → t.fp u a → a ≠ p := fun {k u t a} e1 e2 f z => (h1 k u t e1 e2).2 a (.inl z) f
  have newp : ∀ a, t'.fp y a → a ≠ p := fun a f z => fpN a f (.inl z)
  have out : ∀ a, T2.fp H' (.ref p) (.rc p κ' ts') a → T2.fp H (.ref p) (.rc p κ ts) a ∨ Nob w env σ H a := fun a f => by
    rcases f with f | ⟨us, k, u, t, hq, e1, e2, f⟩
    · exact .inl (.inl ((hf a).mp f))
    · rw [hq.uni hp'] at e1
      rcases el k u t e1 e2 with ⟨rfl, rfl, rfl⟩ | ⟨_, e3, e4⟩
      · rcases fr a f with n0 | ⟨u0, t0, e3, e4, f'⟩
        · exact .inr n0
        · exact .inl (.inr ⟨vs, k, u0, t0, hp, e3, e4, f'⟩)
      · exact .inl (.inr ⟨vs, k, u, t, hp, e3, e4, f⟩)
  refine R.writeN (slot_lt R sj) (fun a z => ?_) (fun a o q z => ?_) ⟨.ref p, sj, ⟨vs', rfl, hp', hl', hz', nd', fun k u t e1 e2 => ?_, fun k l u u' t t'' a n1 e1 e2 e3 e4 f f' => ?_⟩, fun a f => ?_⟩ fun a l hl f f' => ?_
  · by_cases h : a = p
    · exact .inr (h ▸ inj p (.inl (.inl rfl)))
    · exact absurd (hH a h) z
  · by_cases h : a = p
    · subst h; exact hp'.dom (.inl rfl) z
    · rw [hH a h, q] at z; cases z
  · rcases el k u t e1 e2 with ⟨rfl, rfl, rfl⟩ | ⟨_, e3, e4⟩
    · exact ⟨ok.mono (Same.refl _) fun a f => hH a (newp a f), fun a z f => fpN a f ((hf a).mp z)⟩
    · exact ⟨(h1 k u t e3 e4).1.mono (Same.refl _) fun a f => hH a (pfp e3 e4 f), fun a z => (h1 k u t e3 e4).2 a ((hf a).mp z)⟩
  · rcases el k u t e1 e3 with ⟨rfl, rfl, rfl⟩ | ⟨nk, g1, g2⟩ <;> rcases el l u' t'' e2 e4 with ⟨rfl, rfl, rfl⟩ | ⟨nl, g3, g4⟩
    · exact n1 rfl
    · rcases fr a f with n0 | ⟨u0, t0, e5, e6, f0⟩
      · exact n0.o j (inj a (.inr ⟨vs, l, u', t'', hp, g3, g4, f'⟩))
      · exact h2 k l u0 u' t0 t'' a n1 e5 g3 e6 g4 f0 f'
    · rcases fr a f' with n0 | ⟨u0, t0, e5, e6, f0⟩
      · exact n0.o j (inj a (.inr ⟨vs, k, u, t, hp, g1, g2, f⟩))
      · exact h2 k l u u0 t t0 a n1 g1 e5 g2 e6 f f0
    · exact h2 k l u u' t t'' a n1 g1 g3 g2 g4 f f'
  · rcases out a f with z | n0
    · exact own a z
    · exact ⟨n0.i, n0.h0, n0.f⟩
  · obtain ⟨v, e1, f⟩ := f
    rw [sj] at e1; cases e1
    rcases out a f with z | n0
    · exact R.dis l j a hl f' (inj a z)
    · exact n0.o l f'
/-- a list or dict of a record changes -/
theorem Rel.recChild {j n : Nat} {p q : Addr} {κ : RK} {ts : List T1} {vs : List V} {t t' : T1} {H' : Hp} (R : Rel K S w env g σ H) (ej : env.at j = .tr (.rc p κ ts)) (sj : σ[j]? = some (some (.ref p))) (hp : RecAt H p κ vs)
    (hu : vs[n]? = some (.ref q)) (et : ts[n]? = some t) (ow : t.own = true) (hH : ∀ a, a ≠ q → H' a = H a) (hq : H' q ≠ none) (ok : T1Ok K w.I H' (.ref q) t') : Rel K S w (env.set j (.tr (.rc p κ (ts.set n t')))) g σ H' := by
  obtain ⟨vs0, _, hp0, hl, hz, nd, h1, h2, own, inj⟩ := R.rc ej
  rw [hp0.uni hp] at hl h1 h2
  have fq : t.fp (.ref q) q := ⟨ow, rfl⟩
  have hn : n < ts.length := (List.getElem?_eq_some_iff.mp et).1
  have nq : ∀ a, RecFp H p a → a ≠ q := fun a f z => (h1 n _ t hu et).2 a f (z ▸ fq)
  obtain ⟨hp', hf⟩ := hp.mono (H' := H') fun a f => hH a (nq a f)
  have el : ∀ (k : Nat) (u : V) (s : T1), vs[k]? = some u → (ts.set n t')[k]? = some s → (k = n ∧ u = .ref q ∧ s = t') ∨ (k ≠ n ∧ ts[k]? = some s) := fun k u s e1 e2 => by
    by_cases hk : k = n
    · subst hk
      rw [List.getElem?_set_self hn] at e2
      rw [hu] at e1
      cases e1; cases e2
      exact .inl ⟨rfl, rfl, rfl⟩
    · rw [List.getElem?_set_ne (Ne.symm hk)] at e2
      exact .inr ⟨hk, e2⟩
  have fpq : ∀ a, t'.fp (.ref q) a → a = q := fun a f => by obtain ⟨_, e⟩ := f; cases e; rfl
  have nfq : ∀ {k : Nat} {u : V} {s : T1} {a : Addr}, k ≠ n → vs[k]? = some u → ts[k]? = some s → s.fp u a → a ≠ q := fun {k u s a} hk e1 e2 f z => h2 k n u _ s t a hk e1 hu e2 et f (z ▸ fq)
  have out : ∀ a, T2.fp H' (.ref p) (.rc p κ (ts.set n t')) a → T2.fp H (.ref p) (.rc p κ ts) a := fun a f => by
    rcases f with f | ⟨us, k, u, s, hq', e1, e2, f⟩
    · exact .inl ((hf a).mp f)
    · rw [hq'.uni hp'] at e1
      rcases el k u s e1 e2 with ⟨rfl, rfl, rfl⟩ | ⟨_, e3⟩
      · rw [fpq a f]; exact .inr ⟨vs, k, _, t, hp, hu, et, fq⟩
      · exact .inr ⟨vs, k, u, s, hp, e1, e3, f⟩
  refine R.writeN (slot_lt R sj) (fun a z => ?_) (fun a o e z => ?_) ⟨.ref p, sj, ⟨vs, rfl, hp', by rw [List.length_set]; exact hl, by rw [List.length_set]; exact hz, nd, fun k u s e1 e2 => ?_, fun k l u u' s s' a n1 e1 e2 e3 e4 f f' => ?_⟩, fun a f => own a (out a f)⟩ fun a l hl f f' => ?_
  · by_cases h : a = q
    · exact .inr (h ▸ inj q (.inr ⟨vs, n, _, t, hp, hu, et, fq⟩))
    · exact absurd (hH a h) z
  · by_cases h : a = q
    · subst h; exact hq z
    · rw [hH a h, e] at z; cases z
  · rcases el k u s e1 e2 with ⟨rfl, rfl, rfl⟩ | ⟨hk, e3⟩
    · exact ⟨ok, fun a z f => nq a ((hf a).mp z) (fpq a f)⟩
    · exact ⟨(h1 k u s e1 e3).1.mono (Same.refl _) fun a f => hH a (nfq hk e1 e3 f), fun a z => (h1 k u s e1 e3).2 a ((hf a).mp z)⟩
  · rcases el k u s e1 e3 with ⟨rfl, rfl, rfl⟩ | ⟨hk, g2⟩ <;> rcases el l u' s' e2 e4 with ⟨rfl, rfl, rfl⟩ | ⟨hl', g4⟩
    · exact n1 rfl
    · exact nfq hl' e2 g4 f' (fpq a f)
    · exact nfq hk e1 g2 f (fpq a f')
    · exact h2 k l u u' s s' a n1 e1 e2 g2 g4 f f'
  · obtain ⟨v, e1, f⟩ := f
    rw [sj] at e1; cases e1
    exact R.dis l j a hl f' (inj a (out a f))
/-- a list of a record stands from now on -/
theorem Rel.recFrz {j n : Nat} {p : Addr} {κ : RK} {ts : List T1} {xs : List D} (R : Rel K S w env g σ H) (ej : env.at j = .tr (.rc p κ ts)) (et : ts[n]? = some (.ls xs)) : ∃ I', Same w.I I' ∧ Rel K S (w.im I') (env.set j (.tr (.rc p κ (ts.set n (.lf (.list xs)))))) g σ H := by
  obtain ⟨vs, sj, hp, hl, hz, nd, h1, h2, own, inj⟩ := R.rc ej
  have hn : n < ts.length := (List.getElem?_eq_some_iff.mp et).1
  have hv : vs[n]? = some vs[n] := List.getElem?_eq_getElem (by omega)
  obtain ⟨⟨q, ws, eq, hq, ra, hzx⟩, nrf⟩ := h1 n vs[n] _ hv et
  have fq : (T1.ls xs).fp vs[n] q := ⟨rfl, eq⟩
  have hj := slot_lt R sj
  have R1 : Rel K S w (env.set j .un) g σ H := R.write hj (fun a z => absurd rfl z) (fun a o e z => by rw [e] at z; cases z) trivial (fun a f => f.elim)
  have fpq : T2.fp H (.ref p) (.rc p κ ts) q := .inr ⟨vs, n, _, _, hp, hv, et, fq⟩
  obtain ⟨q1, q2, q3⟩ := own q fpq
  have at1 : ∀ i, Env.at (env.set j .un) i = if i = j ∧ j < env.length then .un else env.at i := fun i => at_set env j i .un
  have nob : Nob w (env.set j .un) σ H q := ⟨q1, q2, q3, fun i f => by
    rw [at1] at f
    split at f
    · exact f
    · rename_i h
      exact R.dis i j q (fun z => h ⟨z, hj⟩) f (inj q fpq)⟩
  have R2 := R1.freeze nob hq
  refine ⟨upd w.I q (.lst ws), same_new q1, ?_⟩
  have el : ∀ (k : Nat) (u : V) (s : T1), vs[k]? = some u → (ts.set n (.lf (.list xs)))[k]? = some s → (k = n ∧ u = vs[n] ∧ s = .lf (.list xs)) ∨ (k ≠ n ∧ ts[k]? = some s) := fun k u s e1 e2 => by
    by_cases hk : k = n
    · subst hk
      rw [List.getElem?_set_self hn] at e2
      rw [hv] at e1
      cases e1; cases e2
      exact .inl ⟨rfl, rfl, rfl⟩
    · rw [List.getElem?_set_ne (Ne.symm hk)] at e2
      exact .inr ⟨hk, e2⟩
  have out : ∀ a, T2.fp H (.ref p) (.rc p κ (ts.set n (.lf (.list xs)))) a → T2.fp H (.ref p) (.rc p κ ts) a ∧ a ≠ q := fun a f => by
    rcases f with f | ⟨us, k, u, s, hq', e1, e2, f⟩
    · exact ⟨.inl f, fun z => nrf a f (z ▸ fq)⟩
    · rw [hq'.uni hp] at e1
      rcases el k u s e1 e2 with ⟨rfl, rfl, rfl⟩ | ⟨hk, e3⟩
      · obtain ⟨z, _⟩ := f; cases z
      · exact ⟨.inr ⟨vs, k, u, s, hp, e1, e3, f⟩, fun z => h2 k n u _ s _ a hk e1 hv e3 et f (z ▸ fq)⟩
  have R3 := R2.writeN (j := j) (sv := .tr (.rc p κ (ts.set n (.lf (.list xs))))) (H' := H) (by rw [List.length_set]; exact hj) (fun a z => absurd rfl z) (fun a o e z => by rw [e] at z; cases z)
    ⟨.ref p, sj, ⟨vs, rfl, hp, by rw [List.length_set]; exact hl, by rw [List.length_set]; exact hz, nd, fun k u s e1 e2 => by
      rcases el k u s e1 e2 with ⟨rfl, rfl, rfl⟩ | ⟨hk, e3⟩
      · refine ⟨?_, fun a _ ⟨z, _⟩ => by cases z⟩
        show Rp K _ vs[k] (.list xs)
        rw [eq]
        exact .lst upd_same (ra.mono (same_new q1)) hzx
      · exact ⟨(h1 k u s e1 e3).1.mono (same_new q1) fun _ _ => rfl, (h1 k u s e1 e3).2⟩, fun k l u u' s s' a n1 e1 e2 e3 e4 f f' => by
      rcases el k u s e1 e3 with ⟨rfl, rfl, rfl⟩ | ⟨hk, g2⟩
      · obtain ⟨z, _⟩ := f; cases z
      · rcases el l u' s' e2 e4 with ⟨rfl, rfl, rfl⟩ | ⟨hl', g4⟩
        · obtain ⟨z, _⟩ := f'; cases z
        · exact h2 k l u u' s s' a n1 e1 e2 g2 g4 f f'⟩, fun a f => by
      obtain ⟨f1, f2⟩ := out a f
      obtain ⟨a1, a2, a3⟩ := own a f1
      exact ⟨(upd_ne f2).trans a1, a2, a3⟩⟩ (fun a l hl f f' => by
      obtain ⟨v, e1, f⟩ := f
      rw [sj] at e1; cases e1
      rw [at1, if_neg fun z => hl z.1] at f'
      exact R.dis l j a hl f' (inj a (out a f).1))
  rw [List.set_set] at R3
  exact R3
/-- what a slot owns is out of sight for a while -/
noncomputable def Wd.hid (w : Wd) (F : Addr → Prop) (H : Hp) : Wd := { w with H0 := fun a => if F a then H a else w.H0 a }
theorem Rel.hide {j : Nat} {t : T2} {v : V} (R : Rel K S w env g σ H) (ej : env.at j = .tr t) (sj : σ[j]? = some (some v)) : Rel K S (w.hid (fun a => t.fp H v a) H) (env.set j .un) g σ H := by
  have q := R.slot j
  rw [ej] at q
  obtain ⟨u, e1, ok, own⟩ := q
  rw [sj] at e1; cases e1
  have hj := slot_lt R sj
  have inj : ∀ a, t.fp H v a → fpt H σ j (env.at j) a := fun a f => by rw [ej]; exact ⟨_, sj, f⟩
  have R1 : Rel K S w (env.set j .un) g σ H := R.write hj (fun a z => absurd rfl z) (fun a o e z => by rw [e] at z; cases z) trivial (fun a f => f.elim)
  have h0 : ∀ a, ¬ t.fp H v a → (w.hid (fun a => t.fp H v a) H).H0 a = w.H0 a := fun a h => if_neg h
  obtain ⟨s1, s2⟩ := R1.keepS (w' := w.hid (fun a => t.fp H v a) H) (H' := H) (Same.refl _) rfl fun i a f => by
    obtain ⟨a1, a2, a3, a4⟩ := (R1.slot i).fr f
    refine ⟨rfl, a1, (h0 a fun z => ?_).trans a2, a3⟩
    rw [at_set] at f
    split at f
    · exact f
    · rename_i h
      exact R.dis i j a (fun z => h ⟨z, hj⟩) f (inj a z)
  exact {
    e0 := fun a o q => by
      have q : (if t.fp H v a then H a else w.H0 a) = some o := q
      split at q
      · exact q
      · exact R.e0 a o q
    eI := R.eI
    ag := fun a o q => by
      have q : (if t.fp H v a then H a else w.H0 a) = some o := q
      split at q
      · rename_i f
        exact (own a f).1.trans (R.ge.free (own a f).1).symm
      · exact R.ag a o q
    ge := R.ge
    gfp := R.gfp
    grt := R.grt
    gok := R.gok
    fI := R.fI
    f0 := fun a ha => (h0 a fun z => (own a z).2.2 ha).trans (R.f0 a ha)
    len := R1.len
    slot := s1
    dis := s2 }
theorem Rel.unhide {j : Nat} {t : T2} {v : V} {I2 H2 : Hp} (R : Rel K S w env g σ H) (ej : env.at j = .tr t) (sj : σ[j]? = some (some v)) (s : Same w.I I2) (R2 : Rel K S ((w.hid (fun a => t.fp H v a) H).im I2) (env.set j .un) g' σ H2) :
    Rel K S (w.im I2) env g' σ H2 ∧ ∀ a, t.fp H v a → H2 a = H a := by
  have q := R.slot j
  rw [ej] at q
  obtain ⟨u, e1, ok, own⟩ := q
  rw [sj] at e1; cases e1
  have hj := slot_lt R sj
  have dom : ∀ a, t.fp H v a → H a ≠ none := fun a f => ok.dom f
  have h0 : ∀ a, t.fp H v a → (w.hid (fun a => t.fp H v a) H).H0 a = H a := fun a h => if_pos h
  have h0' : ∀ a, ¬ t.fp H v a → (w.hid (fun a => t.fp H v a) H).H0 a = w.H0 a := fun a h => if_neg h
  have same : ∀ a, t.fp H v a → H2 a = H a := fun a f => by
    cases e : H a with
    | none => exact absurd e (dom a f)
    | some o => exact R2.e0 a o ((h0 a f).trans e)
  obtain ⟨m1, m2⟩ := ok.mono (H' := H2) s same
  have i2 : ∀ a, t.fp H v a → I2 a = none := fun a f => by
    cases e : H a with
    | none => exact absurd e (dom a f)
    | some o =>
      have h1 : I2 a = w.I0 a := R2.ag a o ((h0 a f).trans e)
      exact h1.trans (R.ge.free (own a f).1)
  have at2 : ∀ i, i ≠ j → Env.at (env.set j .un) i = env.at i := fun i hi => by rw [at_set, if_neg fun z => hi z.1]
  have sl : ∀ i, i ≠ j → SlotOk K (w.im I2) σ H2 i (env.at i) ∧ ∀ a, fpt H2 σ i (env.at i) a → ¬ t.fp H v a := fun i hi => by
    have q2 := R2.slot i
    rw [at2 i hi] at q2
    have nf : ∀ a, fpt H2 σ i (env.at i) a → ¬ t.fp H v a := fun a f z => by
      have := (q2.fr f).2.1
      have this : (w.hid (fun a => t.fp H v a) H).H0 a = none := this
      rw [h0 a z] at this
      exact dom a z this
    refine ⟨(q2.keep (w' := w.im I2) (H' := H2) rfl (Same.refl _) rfl fun a f => ?_).1, nf⟩
    obtain ⟨a1, a2, a3, _⟩ := q2.fr f
    exact ⟨rfl, a1, (h0' a (nf a f)).symm.trans a2, a3⟩
  have slj : ∀ a, fpt H2 σ j (env.at j) a → t.fp H v a := fun a f => by
    rw [ej] at f
    obtain ⟨u, e1, f⟩ := f
    rw [sj] at e1; cases e1
    exact (m2 a).mp f
  refine ⟨?_, same⟩
  exact {
    e0 := fun a o q => R2.e0 a o ((h0' a fun z => by
      have q : w.H0 a = some o := q
      rw [(own a z).2.1] at q; cases q).trans q)
    eI := R2.eI
    ag := fun a o q => R2.ag a o ((h0' a fun z => by
      have q : w.H0 a = some o := q
      rw [(own a z).2.1] at q; cases q).trans q)
    ge := R2.ge
    gfp := R2.gfp
    grt := R2.grt
    gok := R2.gok
    fI := R2.fI
    f0 := R.f0
    len := R.len
    slot := fun i => by
      by_cases h : i = j
      · rw [h, ej]
        exact ⟨v, sj, m1, fun a f => ⟨i2 a ((m2 a).mp f), (own a ((m2 a).mp f)).2.1, (own a ((m2 a).mp f)).2.2⟩⟩
      · exact (sl i h).1
    dis := fun i l a n f1 f2 => by
      by_cases hi : i = j
      · have hl : l ≠ j := fun z => n (hi.trans z.symm)
        rw [hi] at f1
        exact (sl l hl).2 a f2 (slj a f1)
      · by_cases hl : l = j
        · rw [hl] at f2
          exact (sl i hi).2 a f1 (slj a f2)
        · exact R2.dis i l a n (by rw [at2 i hi]; exact f1) (by rw [at2 l hl]; exact f2) }
end
end Pd

/-! Pf: stores to records of one's own. -/
namespace Pd
open PySem PySem.Spec L2
open Classical
theorem putF_zip : ∀ {ns : List Str} {vs : List V} {n : Nat} {f : Str} {y : V}, ns.Nodup → vs.length = ns.length → ns[n]? = some f → putF f y (ns.zip vs) = ns.zip (vs.set n y)
  | x :: ns, v :: vs, 0, f, y, _, _, h => by
    simp at h; subst h
    show (if x = x then _ else _) = _
    rw [if_pos rfl]; rfl
  | x :: ns, v :: vs, n + 1, f, y, nd, hl, h => by
    have nd' := List.nodup_cons.mp nd
    have h : ns[n]? = some f := by simpa using h
    show (if x = f then _ else (x, v) :: putF f y (ns.zip vs)) = _
    have ne : x ≠ f := fun z => nd'.1 (z ▸ List.mem_of_getElem? h)
    rw [if_neg ne, putF_zip nd'.2 (by simpa using hl) h]
    rfl
theorem putF_new : ∀ {ns : List Str} {vs : List V} {f : Str} {y : V}, vs.length = ns.length → f ∉ ns → putF f y (ns.zip vs) = (ns ++ [f]).zip (vs ++ [y])
  | [], [], _, _, _, _ => rfl
  | x :: ns, v :: vs, f, y, hl, h => by
    show (if x = f then _ else (x, v) :: putF f y (ns.zip vs)) = _
    have ne : x ≠ f := fun z => h (z ▸ List.mem_cons_self ..)
    rw [if_neg ne, putF_new (by simpa using hl) fun z => h (List.mem_cons_of_mem _ z)]
    rfl
theorem putK_zip {ns : List Str} {vs : List V} {n : Nat} {f : Str} {y : V} (nd : ns.Nodup) (hl : vs.length = ns.length) (h : ns[n]? = some f) : putK ((ns.map Sum.inr).zip vs) (Sum.inr f : Key) y = (ns.map Sum.inr).zip (vs.set n y) := by
  have hn : n < vs.length := by rw [hl]; exact (List.getElem?_eq_some_iff.mp h).1
  have ha : (((ns.map Sum.inr).zip vs).any fun kv => decide (kv.1 = (Sum.inr f : Key))) = true := by
    rw [valV_any, zip_val nd hl h, List.getElem?_eq_getElem hn]; rfl
  unfold putK
  rw [if_pos ha]
  clear ha
  induction ns generalizing vs n with
  | nil => simp at h
  | cons x ns ih =>
    cases vs with
    | nil => cases hl
    | cons v vs =>
      have nd' := List.nodup_cons.mp nd
      cases n with
      | zero =>
        simp at h; subst h
        rw [List.map_cons, List.zip_cons_cons, List.map_cons, if_pos rfl, List.set_cons_zero, List.zip_cons_cons]
        congr 1
        conv => rhs; rw [← List.map_id ((ns.map Sum.inr).zip vs)]
        refine List.map_congr_left fun q hq => ?_
        rw [if_neg]; rfl
        intro z
        have hm : q.1 ∈ ns.map Sum.inr := (List.of_mem_zip hq).1
        rw [z] at hm
        obtain ⟨s, hs, e⟩ := List.mem_map.mp hm
        cases e
        exact nd'.1 hs
      | succ n =>
        have h : ns[n]? = some f := by simpa using h
        rw [List.map_cons, List.zip_cons_cons, List.map_cons, List.set_cons_succ, List.zip_cons_cons, if_neg, ih nd'.2 (by simpa using hl) h (by simpa using hn)]
        intro z
        have z : (Sum.inr x : Key) = .inr f := z
        cases z
        exact nd'.1 (List.mem_of_getElem? h)
section
variable {G : Type} {X : Cx} {S : Gs G} {a b c e : Expr} {es : List Expr} {pos : Pos} {ma mb me mi : ME G} {mt mu : MT G} {ml : ML G} {tg : Expr} {st : Stmt} {m : MS G}
variable {K : PySem.W.Frag} {w : Wd} {env env' : Env} {g g' : G} {σ : St} {H H' I' : Hp}
/-- the heap behind a store to a field -/
theorem rec_ob {p : Addr} {C : Addr} {ns : List Str} {vs : List V} {n : Nat} {f : Str} {y : V} (hp : RecAt H p (.ob C ns) vs) (nd : ns.Nodup) (hf : ns[n]? = some f) : ∃ dx, H p = some (.ins C dx (ns.zip vs)) ∧
    (∀ a, a ≠ p → upd H p (.ins C dx (putF f y (ns.zip vs))) a = H a) ∧ (∀ a, RecFp (upd H p (.ins C dx (putF f y (ns.zip vs)))) p a ↔ RecFp H p a) ∧ RecAt (upd H p (.ins C dx (putF f y (ns.zip vs)))) p (.ob C ns) (vs.set n y) := by
  obtain ⟨l, dx, e1, e2⟩ := hp
  have ne : dx ≠ p := fun z => by rw [z, e1] at e2; cases e2
  refine ⟨dx, e1, fun a h => upd_ne h, fun a => ?_, by rw [List.length_set]; exact l, dx, ?_, (upd_ne ne).trans e2⟩
  · unfold RecFp
    rw [upd_same, e1]
    constructor
    · rintro (h | ⟨C', fs, h⟩)
      · exact .inl h
      · cases h; exact .inr ⟨_, _, rfl⟩
    · rintro (h | ⟨C', fs, h⟩)
      · exact .inl h
      · cases h; exact .inr ⟨_, _, rfl⟩
  · rw [upd_same, putF_zip nd l hf]
theorem rec_new {p : Addr} {C : Addr} {ns : List Str} {vs : List V} {f : Str} {y : V} (hp : RecAt H p (.ob C ns) vs) (hf : f ∉ ns) : ∃ dx, H p = some (.ins C dx (ns.zip vs)) ∧
    (∀ a, a ≠ p → upd H p (.ins C dx (putF f y (ns.zip vs))) a = H a) ∧ (∀ a, RecFp (upd H p (.ins C dx (putF f y (ns.zip vs)))) p a ↔ RecFp H p a) ∧ RecAt (upd H p (.ins C dx (putF f y (ns.zip vs)))) p (.ob C (ns ++ [f])) (vs ++ [y]) := by
  obtain ⟨l, dx, e1, e2⟩ := hp
  have ne : dx ≠ p := fun z => by rw [z, e1] at e2; cases e2
  refine ⟨dx, e1, fun a h => upd_ne h, fun a => ?_, by rw [List.length_append, List.length_append, l]; rfl, dx, ?_, (upd_ne ne).trans e2⟩
  · unfold RecFp
    rw [upd_same, e1]
    constructor
    · rintro (h | ⟨C', fs, h⟩)
      · exact .inl h
      · cases h; exact .inr ⟨_, _, rfl⟩
    · rintro (h | ⟨C', fs, h⟩)
      · exact .inl h
      · cases h; exact .inr ⟨_, _, rfl⟩
  · rw [upd_same, putF_new l hf]
theorem rec_dt {p : Addr} {ns : List Str} {vs : List V} {n : Nat} {f : Str} {y : V} (hp : RecAt H p (.dt ns) vs) (nd : ns.Nodup) (hf : ns[n]? = some f) : H p = some (.dK ((ns.map Sum.inr).zip vs)) ∧
    (∀ a, a ≠ p → upd H p (.dK (putK ((ns.map Sum.inr).zip vs) (Sum.inr f) y)) a = H a) ∧ (∀ a, RecFp (upd H p (.dK (putK ((ns.map Sum.inr).zip vs) (Sum.inr f) y))) p a ↔ RecFp H p a) ∧ RecAt (upd H p (.dK (putK ((ns.map Sum.inr).zip vs) (Sum.inr f) y))) p (.dt ns) (vs.set n y) := by
  obtain ⟨l, e1⟩ := hp
  refine ⟨e1, fun a h => upd_ne h, fun a => ?_, by rw [List.length_set]; exact l, by rw [upd_same, putK_zip nd l hf]⟩
  unfold RecFp
  rw [upd_same, e1]
  constructor
  · rintro (h | ⟨C', fs, h⟩)
    · exact .inl h
    · cases h
  · rintro (h | ⟨C', fs, h⟩)
    · exact .inl h
    · cases h
theorem el_set {ts : List T1} {vs : List V} {n : Nat} {y : V} {t' : T1} (hl : vs.length = ts.length) (hn : n < ts.length) : ∀ (k : Nat) (u : V) (t : T1), (vs.set n y)[k]? = some u → (ts.set n t')[k]? = some t → (k = n ∧ u = y ∧ t = t') ∨ (k ≠ n ∧ vs[k]? = some u ∧ ts[k]? = some t) := fun k u t e1 e2 => by
  by_cases hk : k = n
  · subst hk
    rw [List.getElem?_set_self (by omega)] at e1
    rw [List.getElem?_set_self hn] at e2
    cases e1; cases e2
    exact .inl ⟨rfl, rfl, rfl⟩
  · rw [List.getElem?_set_ne (Ne.symm hk)] at e1 e2
    exact .inr ⟨hk, e1, e2⟩
theorem el_add {ts : List T1} {vs : List V} {y : V} {t' : T1} (hl : vs.length = ts.length) : ∀ (k : Nat) (u : V) (t : T1), (vs ++ [y])[k]? = some u → (ts ++ [t'])[k]? = some t → (k = ts.length ∧ u = y ∧ t = t') ∨ (k ≠ ts.length ∧ vs[k]? = some u ∧ ts[k]? = some t) := fun k u t e1 e2 => by
  by_cases hk : k < ts.length
  · rw [List.getElem?_append_left (by omega)] at e1
    rw [List.getElem?_append_left hk] at e2
    exact .inr ⟨by omega, e1, e2⟩
  · rw [List.getElem?_append_right (by omega)] at e1 e2
    have : k - ts.length = 0 := by
      have := (List.getElem?_eq_some_iff.mp e2).1
      simp at this; omega
    rw [hl, this] at e1
    rw [this] at e2
    simp at e1 e2
    exact .inl ⟨by omega, e1.symm, e2.symm⟩
/-! ### x.f = e, x['f'] = e -/
noncomputable def mSetFld (κ : RK) (j n : Nat) (me : ME G) : MS G := fun env g => bD (me env g) fun d g1 => match env.at j with
  | .tr (.rc p k ts) => if k = κ ∧ n < ts.length then some (.nx, env.set j (.tr (.rc p k (ts.set n (.lf d)))), g1) else none
  | _ => none
noncomputable def mSetFldL (κ : RK) (j n : Nat) (ml : ML G) : MS G := fun env g => bD (ml env g) fun ds g1 => match env.at j with
  | .tr (.rc p k ts) => if k = κ ∧ n < ts.length then some (.nx, env.set j (.tr (.rc p k (ts.set n (.ls ds)))), g1) else none
  | _ => none
theorem lf_fr {y : V} {d : D} {H : Hp} {vs : List V} {ts : List T1} {n : Nat} : ∀ a, (T1.lf d).fp y a → Nob w env σ H a ∨ ∃ u t, vs[n]? = some u ∧ ts[n]? = some t ∧ t.fp u a := fun a ⟨z, _⟩ => by cases z
theorem ds_fldOb (j n : Nat) {x f : Str} {xp pos' : Pos} {C : Addr} {ns : List Str} (cl : Cls X.K C) (na : NoAttr X.K C f) (he : DE X S e me) (hf : ns[n]? = some f := by rfl) (hN : X.N[j]? = some x := by rfl) (hv : Vis X.env.scope x := by first | exact Or.inl rfl | exact Or.inr (Or.inl rfl) | exact Or.inr (Or.inr rfl)) (hd : (x == ("__debug__" : Str)) = false := by decide)
    (hcd : (x == ("__classdict__" : Str)) = false := by decide) (hs : swapsWith e (some (.Attribute (.Name x xp) f pos')) pos.line X.env = pure false := by rfl) :
    DS X S (.Assign [.Attribute (.Name x xp) f pos'] e pos) (mSetFld (.ob C ns) j n me) := PS.imp (ps_fld (pe_var hN hv hd hcd) he hs) fun D σ H ⟨w, env, g, c, env', g', R, e, k⟩ => by
  obtain ⟨d, g1, e1, e⟩ := bD_some e
  split at e
  case h_2 => cases e
  rename_i p kk ts ej
  split at e
  case isFalse => cases e
  rename_i hc
  obtain ⟨rfl, hn⟩ := hc
  cases e
  refine ⟨w, env, g, d, g', R, e1, fun v I1 H1 s1 R1 p1 => ?_⟩
  obtain ⟨vs, sj, hp, hl, hz, nd, h1, h2, own, inj⟩ := R1.rc ej
  obtain ⟨dx, e2, q1, q2, q3⟩ := rec_ob (y := v) hp nd hf
  refine ⟨_, sj, p, C, dx, _, rfl, e2, cl, na, ?_, k σ I1 _ s1 (R1.recPut ej sj hp q1 q2 q3 (by rw [List.length_set, List.length_set, hl]) (by rw [List.length_set]; exact hz) nd (el_set hl hn) p1 lf_fr)⟩
  rw [List.length_zip]; omega
theorem ds_fldObL (j n : Nat) {x f : Str} {xp pos' : Pos} {C : Addr} {ns : List Str} (cl : Cls X.K C) (na : NoAttr X.K C f) (he : DF X S e ml) (hf : ns[n]? = some f := by rfl) (hN : X.N[j]? = some x := by rfl) (hv : Vis X.env.scope x := by first | exact Or.inl rfl | exact Or.inr (Or.inl rfl) | exact Or.inr (Or.inr rfl)) (hd : (x == ("__debug__" : Str)) = false := by decide)
    (hcd : (x == ("__classdict__" : Str)) = false := by decide) (hs : swapsWith e (some (.Attribute (.Name x xp) f pos')) pos.line X.env = pure false := by rfl) :
    DS X S (.Assign [.Attribute (.Name x xp) f pos'] e pos) (mSetFldL (.ob C ns) j n ml) := PS.imp (ps_fld (pe_var hN hv hd hcd) he hs) fun D σ H ⟨w, env, g, c, env', g', R, e, k⟩ => by
  obtain ⟨ds, g1, e1, e⟩ := bD_some e
  split at e
  case h_2 => cases e
  rename_i p kk ts ej
  split at e
  case isFalse => cases e
  rename_i hc
  obtain ⟨rfl, hn⟩ := hc
  cases e
  refine ⟨w, env, g, ds, g', R, e1, fun q us I1 H1 s1 R1 nq hq ra z => ?_⟩
  obtain ⟨vs, sj, hp, hl, hz, nd, h1, h2, own, inj⟩ := R1.rc ej
  obtain ⟨dx, e2, q1, q2, q3⟩ := rec_ob (y := .ref q) hp nd hf
  refine ⟨_, sj, p, C, dx, _, rfl, e2, cl, na, ?_, k σ I1 _ s1 (R1.recPut ej sj hp q1 q2 q3 (by rw [List.length_set, List.length_set, hl]) (by rw [List.length_set]; exact hz) nd (el_set (t' := .ls ds) hl hn) ⟨q, us, rfl, hq, ra, z⟩ fun a ⟨_, f⟩ => by cases f; exact .inl nq)⟩
  rw [List.length_zip]; omega
theorem ds_fldDt (j n : Nat) {x f : Str} {xp fp sp : Pos} {k0} {ns : List Str} (hu : X.A.units + 65 < cLine) (he : DE X S e me) (hf : ns[n]? = some f := by rfl) (hN : X.N[j]? = some x := by rfl) (hv : Vis X.env.scope x := by first | exact Or.inl rfl | exact Or.inr (Or.inl rfl) | exact Or.inr (Or.inr rfl)) (hd : (x == ("__debug__" : Str)) = false := by decide)
    (hcd : (x == ("__classdict__" : Str)) = false := by decide) (hs : swapsWith e (some (.Subscript (.Name x xp) (.Constant (.str f) k0 fp) sp)) pos.line X.env = pure false := by rfl) :
    DS X S (.Assign [.Subscript (.Name x xp) (.Constant (.str f) k0 fp) sp] e pos) (mSetFld (.dt ns) j n me) := PS.imp (ps_dput (by omega) (pe_var hN hv hd hcd) pe_str he hs) fun D σ H ⟨w, env, g, c, env', g', R, e, k⟩ => by
  obtain ⟨d, g1, e1, e⟩ := bD_some e
  split at e
  case h_2 => cases e
  rename_i p kk ts ej
  split at e
  case isFalse => cases e
  rename_i hc
  obtain ⟨rfl, hn⟩ := hc
  cases e
  refine ⟨w, env, g, d, g', R, e1, fun v I1 H1 s1 R1 p1 => ?_⟩
  obtain ⟨vs, sj, hp, hl, hz, nd, h1, h2, own, inj⟩ := R1.rc ej
  obtain ⟨e2, q1, q2, q3⟩ := rec_dt (y := v) hp nd hf
  refine ⟨_, sj, p, _, rfl, DPut.k (k := .inr f) e2 ?_, k σ I1 _ s1 (R1.recPut ej sj hp q1 q2 q3 (by rw [List.length_set, List.length_set, hl]) (by rw [List.length_set]; exact hz) nd (el_set hl hn) p1 lf_fr)⟩
  rw [List.length_zip, sizeLine_eq]; omega
theorem ds_fldDtL (j n : Nat) {x f : Str} {xp fp sp : Pos} {k0} {ns : List Str} (hu : X.A.units + 65 < cLine) (he : DF X S e ml) (hf : ns[n]? = some f := by rfl) (hN : X.N[j]? = some x := by rfl) (hv : Vis X.env.scope x := by first | exact Or.inl rfl | exact Or.inr (Or.inl rfl) | exact Or.inr (Or.inr rfl)) (hd : (x == ("__debug__" : Str)) = false := by decide)
    (hcd : (x == ("__classdict__" : Str)) = false := by decide) (hs : swapsWith e (some (.Subscript (.Name x xp) (.Constant (.str f) k0 fp) sp)) pos.line X.env = pure false := by rfl) :
    DS X S (.Assign [.Subscript (.Name x xp) (.Constant (.str f) k0 fp) sp] e pos) (mSetFldL (.dt ns) j n ml) := PS.imp (ps_dput (by omega) (pe_var hN hv hd hcd) pe_str he hs) fun D σ H ⟨w, env, g, c, env', g', R, e, k⟩ => by
  obtain ⟨ds, g1, e1, e⟩ := bD_some e
  split at e
  case h_2 => cases e
  rename_i p kk ts ej
  split at e
  case isFalse => cases e
  rename_i hc
  obtain ⟨rfl, hn⟩ := hc
  cases e
  refine ⟨w, env, g, ds, g', R, e1, fun q us I1 H1 s1 R1 nq hq ra z => ?_⟩
  obtain ⟨vs, sj, hp, hl, hz, nd, h1, h2, own, inj⟩ := R1.rc ej
  obtain ⟨e2, q1, q2, q3⟩ := rec_dt (y := .ref q) hp nd hf
  refine ⟨_, sj, p, _, rfl, DPut.k (k := .inr f) e2 ?_, k σ I1 _ s1 (R1.recPut ej sj hp q1 q2 q3 (by rw [List.length_set, List.length_set, hl]) (by rw [List.length_set]; exact hz) nd (el_set (t' := .ls ds) hl hn) ⟨q, us, rfl, hq, ra, z⟩ fun a ⟨_, f⟩ => by cases f; exact .inl nq)⟩
  rw [List.length_zip, sizeLine_eq]; omega
/-! ### a new field -/
noncomputable def mNewFld (C : Addr) (ns : List Str) (f : Str) (j : Nat) (me : ME G) : MS G := fun env g => bD (me env g) fun d g1 => match env.at j with
  | .tr (.rc p k ts) => if k = .ob C ns ∧ ts.length < 100 then some (.nx, env.set j (.tr (.rc p (.ob C (ns ++ [f])) (ts ++ [.lf d]))), g1) else none
  | _ => none
noncomputable def mNewFldL (C : Addr) (ns : List Str) (f : Str) (j : Nat) (ml : ML G) : MS G := fun env g => bD (ml env g) fun ds g1 => match env.at j with
  | .tr (.rc p k ts) => if k = .ob C ns ∧ ts.length < 100 then some (.nx, env.set j (.tr (.rc p (.ob C (ns ++ [f])) (ts ++ [.ls ds]))), g1) else none
  | _ => none
noncomputable def mNewFldK (C : Addr) (ns : List Str) (f : Str) (j : Nat) (mk : MK G) : MS G := fun env g => bD (mk env g) fun kvs g1 => match env.at j with
  | .tr (.rc p k ts) => if k = .ob C ns ∧ ts.length < 100 then some (.nx, env.set j (.tr (.rc p (.ob C (ns ++ [f])) (ts ++ [.dc kvs]))), g1) else none
  | _ => none
theorem nd_add1 {ns : List Str} {f : Str} (nd : ns.Nodup) (hf : f ∉ ns) : (ns ++ [f]).Nodup := by
  rw [List.nodup_append]
  exact ⟨nd, by simp, fun a ha b hb z => hf (by rw [List.mem_singleton] at hb; rw [← hb, ← z]; exact ha)⟩
theorem ds_newOb (j : Nat) {x f : Str} {xp pos' : Pos} {C : Addr} {ns : List Str} (cl : Cls X.K C) (na : NoAttr X.K C f) (he : DE X S e me) (hf : f ∉ ns := by decide) (hN : X.N[j]? = some x := by rfl) (hv : Vis X.env.scope x := by first | exact Or.inl rfl | exact Or.inr (Or.inl rfl) | exact Or.inr (Or.inr rfl)) (hd : (x == ("__debug__" : Str)) = false := by decide)
    (hcd : (x == ("__classdict__" : Str)) = false := by decide) (hs : swapsWith e (some (.Attribute (.Name x xp) f pos')) pos.line X.env = pure false := by rfl) :
    DS X S (.Assign [.Attribute (.Name x xp) f pos'] e pos) (mNewFld C ns f j me) := PS.imp (ps_fld (pe_var hN hv hd hcd) he hs) fun D σ H ⟨w, env, g, c, env', g', R, e, k⟩ => by
  obtain ⟨d, g1, e1, e⟩ := bD_some e
  split at e
  case h_2 => cases e
  rename_i p kk ts ej
  split at e
  case isFalse => cases e
  rename_i hc
  obtain ⟨rfl, hn⟩ := hc
  cases e
  refine ⟨w, env, g, d, g', R, e1, fun v I1 H1 s1 R1 p1 => ?_⟩
  obtain ⟨vs, sj, hp, hl, hz, nd, h1, h2, own, inj⟩ := R1.rc ej
  obtain ⟨dx, e2, q1, q2, q3⟩ := rec_new (y := v) hp hf
  refine ⟨_, sj, p, C, dx, _, rfl, e2, cl, na, ?_, k σ I1 _ s1 (R1.recPut ej sj hp q1 q2 q3 (by rw [List.length_append, List.length_append, hl]; rfl) (by rw [List.length_append]; exact hn) (nd_add1 nd hf) (el_add hl) p1 lf_fr)⟩
  rw [List.length_zip]; omega
theorem ds_newObL (j : Nat) {x f : Str} {xp pos' : Pos} {C : Addr} {ns : List Str} (cl : Cls X.K C) (na : NoAttr X.K C f) (he : DF X S e ml) (hf : f ∉ ns := by decide) (hN : X.N[j]? = some x := by rfl) (hv : Vis X.env.scope x := by first | exact Or.inl rfl | exact Or.inr (Or.inl rfl) | exact Or.inr (Or.inr rfl)) (hd : (x == ("__debug__" : Str)) = false := by decide)
    (hcd : (x == ("__classdict__" : Str)) = false := by decide) (hs : swapsWith e (some (.Attribute (.Name x xp) f pos')) pos.line X.env = pure false := by rfl) :
    DS X S (.Assign [.Attribute (.Name x xp) f pos'] e pos) (mNewFldL C ns f j ml) := PS.imp (ps_fld (pe_var hN hv hd hcd) he hs) fun D σ H ⟨w, env, g, c, env', g', R, e, k⟩ => by
  obtain ⟨ds, g1, e1, e⟩ := bD_some e
  split at e
  case h_2 => cases e
  rename_i p kk ts ej
  split at e
  case isFalse => cases e
  rename_i hc
  obtain ⟨rfl, hn⟩ := hc
  cases e
  refine ⟨w, env, g, ds, g', R, e1, fun q us I1 H1 s1 R1 nq hq ra z => ?_⟩
  obtain ⟨vs, sj, hp, hl, hz, nd, h1, h2, own, inj⟩ := R1.rc ej
  obtain ⟨dx, e2, q1, q2, q3⟩ := rec_new (y := .ref q) hp hf
  refine ⟨_, sj, p, C, dx, _, rfl, e2, cl, na, ?_, k σ I1 _ s1 (R1.recPut ej sj hp q1 q2 q3 (by rw [List.length_append, List.length_append, hl]; rfl) (by rw [List.length_append]; exact hn) (nd_add1 nd hf) (el_add (t' := .ls ds) hl) ⟨q, us, rfl, hq, ra, z⟩ fun a ⟨_, f⟩ => by cases f; exact .inl nq)⟩
  rw [List.length_zip]; omega
theorem ds_newObK (j : Nat) {x f : Str} {xp pos' : Pos} {C : Addr} {ns : List Str} {mk : MK G} (cl : Cls X.K C) (na : NoAttr X.K C f) (he : DK X S e mk) (hf : f ∉ ns := by decide) (hN : X.N[j]? = some x := by rfl) (hv : Vis X.env.scope x := by first | exact Or.inl rfl | exact Or.inr (Or.inl rfl) | exact Or.inr (Or.inr rfl)) (hd : (x == ("__debug__" : Str)) = false := by decide)
    (hcd : (x == ("__classdict__" : Str)) = false := by decide) (hs : swapsWith e (some (.Attribute (.Name x xp) f pos')) pos.line X.env = pure false := by rfl) :
    DS X S (.Assign [.Attribute (.Name x xp) f pos'] e pos) (mNewFldK C ns f j mk) := PS.imp (ps_fld (pe_var hN hv hd hcd) he hs) fun D σ H ⟨w, env, g, c, env', g', R, e, k⟩ => by
  obtain ⟨kvs, g1, e1, e⟩ := bD_some e
  split at e
  case h_2 => cases e
  rename_i p kk ts ej
  split at e
  case isFalse => cases e
  rename_i hc
  obtain ⟨rfl, hn⟩ := hc
  cases e
  refine ⟨w, env, g, kvs, g', R, e1, fun q us I1 H1 s1 R1 nq hq hk ra z => ?_⟩
  obtain ⟨vs, sj, hp, hl, hz, nd, h1, h2, own, inj⟩ := R1.rc ej
  obtain ⟨dx, e2, q1, q2, q3⟩ := rec_new (y := .ref q) hp hf
  refine ⟨_, sj, p, C, dx, _, rfl, e2, cl, na, ?_, k σ I1 _ s1 (R1.recPut ej sj hp q1 q2 q3 (by rw [List.length_append, List.length_append, hl]; rfl) (by rw [List.length_append]; exact hn) (nd_add1 nd hf) (el_add (t' := .dc kvs) hl) ⟨q, us, rfl, hq, hk, ra, z⟩ fun a ⟨_, f⟩ => by cases f; exact .inl nq)⟩
  rw [List.length_zip]; omega
/-! ### a field's list or dict is written -/
def tPathO (K : PySem.W.Frag) (S : Gs G) (κ : RK) (j n : Nat) : TE := fun σ H Q => ∃ w env g p ts, Rel K S w env g σ H ∧ env.at j = .tr (.rc p κ ts) ∧ n < ts.length ∧ ∀ vs u, σ[j]? = some (some (.ref p)) → RecAt H p κ vs → vs[n]? = some u → Q u H
abbrev DPo (X : Cx) (S : Gs G) (e : Expr) (κ : RK) (j n : Nat) : Prop := PE X e (tPathO X.K S κ j n)
theorem dpo_ob (j n : Nat) {x f : Str} {xp : Pos} {C : Addr} {ns : List Str} (cl : Cls X.K C) (na : NoAttr X.K C f) (hf : ns[n]? = some f := by rfl) (hN : X.N[j]? = some x := by rfl) (hv : Vis X.env.scope x := by first | exact Or.inl rfl | exact Or.inr (Or.inl rfl) | exact Or.inr (Or.inr rfl)) (hd : (x == ("__debug__" : Str)) = false := by decide)
    (hcd : (x == ("__classdict__" : Str)) = false := by decide) (hb : attributeBase (.Name x xp) f X.env (eval (.Name x xp) X.env) = eval (.Name x xp) X.env := by rfl) : DPo X S (.Attribute (.Name x xp) f pos) (.ob C ns) j n :=
  PE.imp (pe_fld (pe_var hN hv hd hcd) hb) fun σ H Q ⟨w, env, g, p, ts, R, ej, hn, k⟩ => by
    obtain ⟨vs, sj, hp, hl, hz, nd, _⟩ := R.rc ej
    have hp' := hp
    obtain ⟨l, dx, e1, _⟩ := hp'
    have hu := List.getElem?_eq_getElem (l := vs) (i := n) (by omega)
    exact ⟨_, sj, p, C, dx, _, _, rfl, e1, cl, na, (zip_look nd l hf).trans hu, k vs _ sj hp hu⟩
theorem dpo_dt (j n : Nat) {x f : Str} {xp fp : Pos} {k0} {ns : List Str} (hu : X.A.units + 65 < cLine) (hf : ns[n]? = some f := by rfl) (hN : X.N[j]? = some x := by rfl) (hv : Vis X.env.scope x := by first | exact Or.inl rfl | exact Or.inr (Or.inl rfl) | exact Or.inr (Or.inr rfl)) (hd : (x == ("__debug__" : Str)) = false := by decide)
    (hcd : (x == ("__classdict__" : Str)) = false := by decide) : DPo X S (.Subscript (.Name x xp) (.Constant (.str f) k0 fp) pos) (.dt ns) j n :=
  PE.imp (pe_dget (by omega) (pe_var hN hv hd hcd) pe_str (fun _ _ => rfl)) fun σ H Q ⟨w, env, g, p, ts, R, ej, hn, k⟩ => by
    obtain ⟨vs, sj, hp, hl, hz, nd, _⟩ := R.rc ej
    have hp' := hp
    obtain ⟨l, e1⟩ := hp'
    have hu := List.getElem?_eq_getElem (l := vs) (i := n) (by omega)
    exact ⟨_, sj, p, _, rfl, .inl ⟨_, .inr f, .inl e1, rfl, ((zip_val nd l hf).trans hu).symm⟩, k vs _ sj hp hu⟩
noncomputable def mAppFld (κ : RK) (j n : Nat) (me : ME G) : MS G := fun env g => match env.at j with
  | .tr (.rc p k ts) => if k = κ then match ts[n]? with
    | some (.ls xs) => bD (me (env.set j .un) g) fun d g1 => if xs.length < sizeLine then some (.nx, env.set j (.tr (.rc p k (ts.set n (.ls (xs ++ [d]))))), g1) else none
    | _ => none else none
  | _ => none
theorem ds_appFld {κ : RK} {j n : Nat} {o : Expr} {ap cp : Pos} (ho : DPo X S o κ j n) (he : DE X S e me)
    (hbase : attributeBase o "append" X.env (eval o X.env) = eval o X.env := by rfl)
    (hfew : ((backTo cp (starEach [e] X.env)).all (fun x => !x.1) && (backToKw cp (keywordEach [] X.env)).all (fun x => x.1.isSome)
      && decide (([e] : List Expr).length + ([] : List Keyword).length + (if ([] : List Keyword).isEmpty then 0 else 1) < 30)) = true := by rfl)
    (hline : (ap.endLine == cp.line) = true := by rfl) (hs : starEach [e] X.env = (false, eval e X.env) :: starEach [] X.env := by rfl) (hplain : (backTo cp (starEach [] X.env)).any (·.1) = false := by rfl)
    (hsw : swapsWith (.Call (.Attribute o "append" ap) [e] [] cp) none pos.line X.env = pure false := by rfl) :
    DS X S (.Expr (.Call (.Attribute o "append" ap) [e] [] cp) pos) (mAppFld κ j n me) :=
  PS.imp (ps_expr (pe_bm PySem.F.plainAttrs_list PySem.F.slot_list_append PySem.F.type_list_append mt_append ho (pa_cons he pa_nil hs) hbase hfew hline hs hplain) hsw) fun D σ H ⟨w, env, g, c, env', g', R, e, k⟩ => by
    unfold mAppFld at e
    split at e
    case h_2 => cases e
    rename_i p kk ts ej
    split at e
    case isFalse => cases e
    rename_i hk
    subst hk
    split at e
    case h_2 => cases e
    rename_i xs et
    obtain ⟨d, g1, e1, e⟩ := bD_some e
    split at e
    case isFalse => cases e
    rename_i hlt
    cases e
    have hn : n < ts.length := (List.getElem?_eq_some_iff.mp et).1
    refine ⟨w, env, g, p, ts, R, ej, hn, fun vs u sj hp hu => ?_⟩
    obtain ⟨vs0, _, hp0, hl, hz, nd, h1, h2, own, inj⟩ := R.rc ej
    rw [hp0.uni hp] at hl h1 h2
    obtain ⟨⟨q, ws, rfl, hq, ra, hzx⟩, nrf⟩ := h1 n u _ hu et
    refine ⟨.inl ⟨rfl, ws, SqL.of hq⟩, _, _, g, d, g', R.hide ej sj, e1, fun v I1 H1 s1 R1 p1 => ?_⟩
    obtain ⟨R2, same⟩ := R.unhide ej sj s1 R1
    have fq : T2.fp H (.ref p) (.rc p kk ts) q := .inr ⟨vs, n, _, _, hp, hu, et, rfl, rfl⟩
    have hq1 := (same q fq).trans hq
    have hp1 := (hp.mono fun a f => same a (.inl f)).1
    have hws : ws.length = xs.length := ra.len
    refine ⟨q, ws, v, rfl, rfl, hq1, by omega, k σ I1 _ s1 (R2.recChild ej sj hp1 hu et rfl (fun a h => upd_ne h) (by rw [upd_same]; simp) ⟨q, ws ++ [v], rfl, upd_same, (ra.mono s1).append (.one p1), by rw [List.length_append]; exact hlt⟩)⟩
noncomputable def mPutFld (κ : RK) (j n : Nat) (mi me : ME G) : MS G := fun env g => bD (me env g) fun d g1 => match env.at j with
  | .tr (.rc p k ts) => if k = κ then match ts[n]? with
    | some (.dc kvs) => bD (mi (env.set j .un) g1) fun i g2 => match keyD i with
      | some ky => if kvs.length < sizeLine then some (.nx, env.set j (.tr (.rc p k (ts.set n (.dc (putKD kvs ky d))))), g2) else none
      | none => none
    | _ => none else none
  | _ => none
theorem ds_putFld {κ : RK} {j n : Nat} {o i : Expr} {sp : Pos} (hu : X.A.units + 65 < cLine) (ho : DPo X S o κ j n) (hi : DE X S i mi) (he : DE X S e me) (hs : swapsWith e (some (.Subscript o i sp)) pos.line X.env = pure false := by rfl) :
    DS X S (.Assign [.Subscript o i sp] e pos) (mPutFld κ j n mi me) := PS.imp (ps_dput (by omega) ho hi he hs) fun D σ H ⟨w, env, g, c, env', g', R, e, k⟩ => by
  obtain ⟨d, g1, e1, e3⟩ := bD_some e
  clear e
  split at e3
  case h_2 => cases e3
  rename_i p kk ts ej
  split at e3
  case isFalse => cases e3
  rename_i hk
  subst hk
  split at e3
  case h_2 => cases e3
  rename_i kvs et
  obtain ⟨i, g2, e2, e⟩ := bD_some e3
  split at e
  case h_2 => cases e
  rename_i ky ek
  split at e
  case isFalse => cases e
  rename_i hlt
  cases e
  have hn : n < ts.length := (List.getElem?_eq_some_iff.mp et).1
  refine ⟨w, env, g, d, g1, R, e1, fun v I1 H1 s1 R1 p1 => ⟨w.im I1, env, g1, p, ts, R1, ej, hn, fun vs u sj hp hu => ?_⟩⟩
  obtain ⟨vs0, _, hp0, hl, hz, nd, h1, h2, own, inj⟩ := R1.rc ej
  rw [hp0.uni hp] at hl h1 h2
  obtain ⟨⟨q, ws, rfl, hq, hk, ra, hzx⟩, nrf⟩ := h1 n u _ hu et
  refine ⟨_, _, g1, i, g', R1.hide ej sj, e2, fun y I2 H2 s2 R2 p2 => ?_⟩
  have s2 : Same I1 I2 := s2
  obtain ⟨R3, same⟩ := R1.unhide ej sj s2 R2
  have fq : T2.fp H1 (.ref p) (.rc p kk ts) q := .inr ⟨vs, n, _, _, hp, hu, et, rfl, rfl⟩
  have hq1 := (same q fq).trans hq
  have hp1 := (hp.mono fun a f => same a (.inl f)).1
  have hl2 : ws.length = kvs.length := by have := congrArg List.length hk; rwa [List.length_map, List.length_map] at this
  obtain ⟨r1, r2⟩ := putK_rp (k := ky) (p1.mono s2) hk (RpA.mono s2 ra)
  rw [keyD_rp p2 ek]
  exact ⟨q, _, rfl, DPut.k hq1 (by omega), k σ I2 _ (Same.trans s1 s2) (R3.recChild ej sj hp1 hu et rfl (fun a h => upd_ne h) (by rw [upd_same]; simp) ⟨q, _, rfl, upd_same, r1, r2, Nat.le_trans (putKD_len _ _ _) (by omega)⟩)⟩
/-- from now on a field's list stands -/
noncomputable def mFrzFld (κ : RK) (j n : Nat) (m : MS G) : MS G := fun env g => match env.at j with
  | .tr (.rc p k ts) => if k = κ then match ts[n]? with
    | some (.ls xs) => m (env.set j (.tr (.rc p k (ts.set n (.lf (.list xs)))))) g
    | _ => none else none
  | _ => none
end
end Pd

/-! Pf: defs that are handed a record of one's own, and may raise. -/
namespace Pd
open PySem PySem.Spec L2
open Classical
section
variable {G : Type} {X : Cx} {S : Gs G} {a b c e : Expr} {es : List Expr} {pos : Pos} {ma mb me mi : ME G} {mt mu : MT G} {ml : ML G} {tg : Expr} {st : Stmt} {m : MS G}
variable {K : PySem.W.Frag} {w : Wd} {env env' : Env} {g g' : G} {σ : St} {H H' I I' : Hp}
theorem ds_frzFld {κ : RK} {j n : Nat} (h : DS X S st m) : DS X S st (mFrzFld κ j n m) := PS.imp h fun D σ H ⟨w, env, g, c, env', g', R, e, k⟩ => by
  unfold mFrzFld at e
  split at e
  case h_2 => cases e
  rename_i p kk ts ej
  split at e
  case isFalse => cases e
  rename_i hk
  subst hk
  split at e
  case h_2 => cases e
  rename_i xs et
  obtain ⟨I1, s1, R1⟩ := R.recFrz ej et
  exact ⟨w.im I1, _, g, c, env', g', R1, e, k.mono s1⟩
/-! ### what such a def leaves -/
structure Rst {G : Type} (K : PySem.W.Frag) (S : Gs G) (v : V) (p : Addr) (κ : RK) (ts : List T1) (κ' : RK) (ts' : List T1) (I H : Hp) (g : G) (I' H' : Hp) (g' : G) : Prop where
  eI : Same I I'
  eH : ∀ a o, H a = some o → ¬ S.fp g a → ¬ T2.fp H v (.rc p κ ts) a → H' a = some o
  sub : Same I' H'
  ag : ∀ a, H a ≠ none → ¬ T2.fp H v (.rc p κ ts) a → I' a = I a
  fp' : ∀ a, S.fp g' a ↔ S.fp g a
  rt : S.root g' = S.root g
  ok : S.ok g' H'
  rok : T2Ok K I' H' v (.rc p κ' ts')
  rfp : ∀ a, T2.fp H' v (.rc p κ' ts') a → I' a = none ∧ (T2.fp H v (.rc p κ ts) a ∨ H a = none) ∧ ¬ S.fp g a
theorem Rel.rst {j : Nat} {v : V} {p : Addr} {κ κ' : RK} {ts ts' : List T1} (R : Rel K S w env g σ H) (ej : env.at j = .tr (.rc p κ ts)) (sj : σ[j]? = some (some v)) (q : Rst K S v p κ ts κ' ts' w.I H g I' H' g') : Rel K S (w.im I') (env.set j (.tr (.rc p κ' ts'))) g' σ H' := by
  have qj := R.slot j
  rw [ej] at qj
  obtain ⟨u, e1, ok, own⟩ := qj
  rw [sj] at e1; cases e1
  have hj := slot_lt R sj
  have inj : ∀ a, T2.fp H v (.rc p κ ts) a → fpt H σ j (env.at j) a := fun a f => by rw [ej]; exact ⟨_, sj, f⟩
  have kp : ∀ k, k ≠ j → SlotOk K (w.im I') σ H' k (env.at k) ∧ ∀ a, fpt H' σ k (env.at k) a ↔ fpt H σ k (env.at k) a := fun k hk => (R.slot k).keep (σ' := σ) (w' := w.im I') (H' := H') rfl q.eI rfl fun a f => by
    obtain ⟨a1, a2, a3, a4⟩ := (R.slot k).fr f
    have nf : ¬ T2.fp H v (.rc p κ ts) a := fun z => R.dis k j a hk f (inj a z)
    refine ⟨?_, (q.ag a a4 nf).trans a1, a2, a3⟩
    cases e : H a with
    | none => exact absurd e a4
    | some o => exact q.eH a o e (fun z => a3 ((R.gfp a).mp z)) nf
  have h0 : ∀ a o, w.H0 a = some o → H a = some o ∧ ¬ S.fp g a ∧ ¬ T2.fp H v (.rc p κ ts) a := fun a o e => by
    refine ⟨R.e0 a o e, fun z => ?_, fun z => ?_⟩
    · have := R.f0 a ((R.gfp a).mp z)
      rw [e] at this; cases this
    · rw [(own a z).2.1] at e; cases e
  exact {
    e0 := fun a o e => by
      obtain ⟨h1, h2, h3⟩ := h0 a o e
      exact q.eH a o h1 h2 h3
    eI := q.sub
    ag := fun a o e => by
      obtain ⟨h1, h2, h3⟩ := h0 a o e
      exact (q.ag a (by rw [h1]; simp) h3).trans (R.ag a o e)
    ge := R.ge.trans q.eI
    gfp := fun a => (q.fp' a).trans (R.gfp a)
    grt := q.rt.trans R.grt
    gok := q.ok
    fI := fun a ha => (q.ag a (S.dom R.gok ((R.gfp a).mpr ha)) fun z => (own a z).2.2 ha).trans (R.fI a ha)
    f0 := R.f0
    len := by rw [List.length_set]; exact R.len
    slot := fun k => by
      rw [at_set]
      by_cases h : k = j ∧ j < env.length
      · rw [if_pos h, h.1]
        refine ⟨v, sj, q.rok, fun a f => ?_⟩
        obtain ⟨b1, b2, b3⟩ := q.rfp a f
        refine ⟨b1, ?_, fun z => b3 ((R.gfp a).mpr z)⟩
        rcases b2 with z | z
        · exact (own a z).2.1
        · exact R.e0.free z
      · rw [if_neg h]
        exact (kp k fun z => h ⟨z, hj⟩).1
    dis := fun k l a hkl f1 f2 => by
      have hn : ∀ l, l ≠ j → fpt H' σ l (env.at l) a → ¬ fpt H' σ j (.tr (.rc p κ' ts')) a := fun l hl f f' => by
        obtain ⟨u, e1, f'⟩ := f'
        rw [sj] at e1; cases e1
        have f := ((kp l hl).2 a).mp f
        rcases (q.rfp a f').2.1 with z | z
        · exact R.dis l j a hl f (inj a z)
        · exact ((R.slot l).fr f).2.2.2 z
      rw [at_set] at f1 f2
      by_cases hk : k = j ∧ j < env.length
      · have hl : ¬ (l = j ∧ j < env.length) := fun z => hkl (hk.1.trans z.1.symm)
        rw [if_pos hk, hk.1] at f1
        rw [if_neg hl] at f2
        exact hn l (fun z => hl ⟨z, hj⟩) f2 f1
      · rw [if_neg hk] at f1
        by_cases hl : l = j ∧ j < env.length
        · rw [if_pos hl, hl.1] at f2
          exact hn k (fun z => hk ⟨z, hj⟩) f1 f2
        · rw [if_neg hl] at f2
          exact R.dis k l a hkl (((kp k fun z => hk ⟨z, hj⟩).2 a).mp f1) (((kp l fun z => hl ⟨z, hj⟩).2 a).mp f2) }
/-! ### statements that may raise -/
inductive CtX where
  | nm (c : Ct) | xc (C : Addr) | xw (x wd : Str)
/-- what takes an exception of the class that is named x here, whose word is wd -/
def XwP (K : PySem.W.Frag) (W : WX) (x wd : Str) (σ : St) (H : Hp) : Prop := ∀ (C d : Addr), PySem.W.nsIn K mainGlobals x = some (some (.ref C)) → H d = some (.xd [(("word" : Str), .str wd)]) → SOk wd → W (.ref C) (some d) σ H
abbrev MX (G : Type) := Env → G → Option (CtX × Env × G)
def PostX {G : Type} (K : PySem.W.Frag) (S : Gs G) (W : WX) (w : Wd) (env' : Env) (g' : G) (D : Ends) : CtX → Prop
  | .nm c => Post K S w env' g' D c
  | .xc C => ∀ σ' I' H', Same w.I I' → Rel K S (w.im I') env' g' σ' H' → W (.ref C) none σ' H'
  | .xw x wd => ∀ σ' I' H', Same w.I I' → Rel K S (w.im I') env' g' σ' H' → XwP K W x wd σ' H'
theorem PostX.mono {W : WX} {D : Ends} {c : CtX} (s : Same w.I I') (h : PostX K S W w env' g' D c) : PostX K S W (w.im I') env' g' D c := by
  cases c with
  | nm c => exact Post.mono s h
  | xc C => exact fun σ' I2 H2 s2 R => h σ' I2 H2 (s.trans s2) R
  | xw x wd => exact fun σ' I2 H2 s2 R => h σ' I2 H2 (s.trans s2) R
def tSx {G : Type} (K : PySem.W.Frag) (S : Gs G) (W : WX) (m : MX G) : TS := fun D σ H => ∃ w env g c env' g', Rel K S w env g σ H ∧ m env g = some (c, env', g') ∧ PostX K S W w env' g' D c
abbrev DSx (X : Cx) (S : Gs G) (W : WX) (st : Stmt) (m : MX G) : Prop := PS X st (tSx X.K S W m)
abbrev DBx (X : Cx) (S : Gs G) (W : WX) (st : List Stmt) (m : MX G) : Prop := PSs X st (tSx X.K S W m)
def mNm (m : MS G) : MX G := fun env g => (m env g).map fun r => (.nm r.1, r.2.1, r.2.2)
theorem dsx_of {W : WX} (h : DS X S st m) : DSx X S W st (mNm m) := PS.imp h fun D σ H ⟨w, env, g, c, env', g', R, e, k⟩ => by
  obtain ⟨r, e1, e2⟩ := Option.map_eq_some_iff.mp e
  cases e2
  exact ⟨w, env, g, r.1, r.2.1, r.2.2, R, e1, k⟩
def mSeqX (m1 m2 : MX G) : MX G := fun env g => match m1 env g with
  | some (.nm .nx, env1, g1) => m2 env1 g1
  | r => r
theorem dbx_nil {W : WX} : DBx X S W [] (mNm mSkip) := PSs.imp pss_nil fun D σ H ⟨w, env, g, c, env', g', R, e, k⟩ => by
  cases e
  exact k σ w.I H (Same.refl _) R
theorem dbx_cons {W : WX} {rest : List Stmt} {m1 m2 : MX G} (h1 : DSx X S W st m1) (h2 : DBx X S W rest m2) : DBx X S W (st :: rest) (mSeqX m1 m2) := PSs.imp (pss_cons h1 h2) fun D σ H ⟨w, env, g, c, env', g', R, e, k⟩ => by
  unfold mSeqX at e
  split at e
  · rename_i env1 g1 e1
    exact ⟨w, env, g, .nm .nx, env1, g1, R, e1, fun σ' I' H' s' R' => ⟨w.im I', env1, g1, c, env', g', R', e, k.mono s'⟩⟩
  · rename_i h
    refine ⟨w, env, g, c, env', g', R, e, ?_⟩
    cases c with
    | xc C => exact k
    | xw x wd => exact k
    | nm c =>
      cases c with
      | nx => exact absurd e (h env' g')
      | _ => exact k
theorem dbx_one {W : WX} {m1 : MX G} (h1 : DSx X S W st m1) : DBx X S W [st] m1 := PSs.imp (pss_one h1) fun D σ H h => h
def mIfX (mt : MT G) (m1 m2 : MX G) : MX G := fun env g => bD (mt env g) fun b g1 => if b = true then m1 env g1 else m2 env g1
theorem dsx_if {W : WX} {t : Expr} {body orelse : List Stmt} {m1 m2 : MX G} (ht : DT X S t mt) (h1 : DBx X S W body m1) (h2 : DBx X S W orelse m2) : DSx X S W (.If t body orelse pos) (mIfX mt m1 m2) := PS.imp (ps_if ht h1 h2) fun D σ H ⟨w, env, g, c, env', g', R, e, k⟩ => by
  obtain ⟨b, g1, e1, e⟩ := bD_some e
  refine ⟨w, env, g, b, g1, R, e1, fun I' H' s' R' => ?_⟩
  cases b with
  | true => exact ⟨w.im I', env, g1, c, env', g', R', e, k.mono s'⟩
  | false => exact ⟨w.im I', env, g1, c, env', g', R', e, k.mono s'⟩
end
end Pd

/-! Pf: such defs, and calls of them. -/
namespace Pd
open PySem PySem.Spec L2
open Classical
section
variable {G : Type} {X : Cx} {S : Gs G} {a b c e : Expr} {es : List Expr} {pos : Pos} {ma mb me mi : ME G} {mt mu : MT G} {ml : ML G} {tg : Expr} {st : Stmt} {m : MX G}
variable {K : PySem.W.Frag} {w : Wd} {env env' : Env} {g g' : G} {σ : St} {H H' I I' : Hp}
abbrev RsR (G : Type) := Option (Option Addr × Addr × RK × List T1 × G)
def recR (o : Option Addr) (e : Env) (g : G) : RsR G := match e.at 0 with
  | .tr (.rc p κ ts) => some (o, p, κ, ts, g)
  | _ => none
def runR (N n : Nat) (m : MX G) (as : List SV) (g : G) : RsR G := if as.length = n ∧ n ≤ N then match m (startE N as) g with
  | some (.nm .nx, e, g1) => recR none e g1
  | some (.nm (.re .none), e, g1) => recR none e g1
  | some (.xc C, e, g1) => recR (some C) e g1
  | _ => none
  else none
def RsEnd (Q : VK) (E : XK) (H' : Hp) : Option Addr → Prop
  | none => Q .non H'
  | some C => E (.ref C) none H'
def spR {G : Type} (K : PySem.W.Frag) (S : Gs G) (F : List SV → G → RsR G) : Sp := fun vs H Q E => ∃ I g v us p κ ts as o κ' ts' g', vs = v :: us ∧ Same I H ∧ S.ok g H ∧ (∀ a, S.fp g a → I a = none) ∧ T2Ok K I H v (.rc p κ ts) ∧ (∀ a, T2.fp H v (.rc p κ ts) a → I a = none ∧ ¬ S.fp g a) ∧
  ArgsOk K I (S.root g) us as ∧ F (.tr (.rc p κ ts) :: as) g = some (o, p, κ', ts', g') ∧ ∀ I' H', Rst K S v p κ ts κ' ts' I H g I' H' g' → RsEnd Q E H' o
/-- the frame at such a def's entry -/
theorem start_own {N : List Str} {v : V} {us : List V} {p : Addr} {κ : RK} {ts : List T1} {as : List SV} (sI : Same I H) (gok : S.ok g H) (fI : ∀ a, S.fp g a → I a = none) (ok : T2Ok K I H v (.rc p κ ts)) (own : ∀ a, T2.fp H v (.rc p κ ts) a → I a = none ∧ ¬ S.fp g a) (ra : ArgsOk K I (S.root g) us as)
    (hl : as.length + 1 ≤ N.length) : Rel K S ⟨fun a => if S.fp g a ∨ T2.fp H v (.rc p κ ts) a then none else H a, I, I, S.fp g, S.root g⟩ (startE N.length (.tr (.rc p κ ts) :: as)) g (start N (v :: us)) H := by
  have ra' : ArgsOk K I (S.root g) (v :: us) (.raw v :: as) := .cons rfl ra
  have R0 : Rel K S ⟨fun a => if S.fp g a ∨ T2.fp H v (.rc p κ ts) a then none else H a, I, I, S.fp g, S.root g⟩ (startE N.length (.raw v :: as)) g (start N (v :: us)) H :=
    start_rel (rt := S.root g) ⟨fun a => if S.fp g a ∨ T2.fp H v (.rc p κ ts) a then none else H a, I, I, S.fp g, S.root g⟩ rfl ra' hl (fun a o q => by
      have q : (if S.fp g a ∨ T2.fp H v (.rc p κ ts) a then none else H a) = some o := q
      split at q
      · cases q
      · exact q) sI (fun _ _ _ => rfl) (Same.refl _) (fun _ => Iff.rfl) rfl gok fI (fun a z => if_pos (.inl z))
  have s0 : (start N (v :: us))[0]? = some (some v) := rfl
  have R1 := R0.writeN (j := 0) (sv := .tr (.rc p κ ts)) (H' := H) (slot_lt R0 s0) (fun a z => absurd rfl z) (fun a o e z => by rw [e] at z; cases z)
    ⟨v, s0, ok, fun a f => ⟨(own a f).1, if_pos (.inr f), (own a f).2⟩⟩ (fun a l _ _ f => (start_slot (H := H) (w := ⟨fun a => if S.fp g a ∨ T2.fp H v (.rc p κ ts) a then none else H a, I, I, S.fp g, S.root g⟩) rfl ra' hl l).2 a f)
  exact R1
/-- what its end tells -/
theorem rst_of {v : V} {p : Addr} {κ κ' : RK} {ts ts' : List T1} (fI : ∀ a, S.fp g a → I a = none) (ok : T2Ok K I H v (.rc p κ ts)) (own : ∀ a, T2.fp H v (.rc p κ ts) a → I a = none ∧ ¬ S.fp g a) (e0 : env'.at 0 = .tr (.rc p κ' ts')) (s' : Same I I')
    (R' : Rel K S (Wd.im ⟨fun a => if S.fp g a ∨ T2.fp H v (.rc p κ ts) a then none else H a, I, I, S.fp g, S.root g⟩ I') env' g' σ H') : Rst K S v p κ ts κ' ts' I H g I' H' g' := by
  have q := R'.slot 0
  rw [e0] at q
  obtain ⟨v', s0, ok', own'⟩ := q
  have ev : v' = v := by
    obtain ⟨_, e1, _⟩ := ok
    obtain ⟨_, e2, _⟩ := ok'
    rw [e1, e2]
  subst ev
  have h0 : ∀ a o, H a = some o → ¬ S.fp g a → ¬ T2.fp H v' (.rc p κ ts) a → (fun a => if S.fp g a ∨ T2.fp H v' (.rc p κ ts) a then none else H a) a = some o := fun a o e h1 h2 => (if_neg fun z => z.elim h1 h2).trans e
  exact {
    eI := s'
    eH := fun a o e h1 h2 => R'.e0 a o (h0 a o e h1 h2)
    sub := R'.eI
    ag := fun a ha h2 => by
      by_cases z : S.fp g a
      · exact (R'.fI a z).trans (fI a z).symm
      · cases e : H a with
        | none => exact absurd e ha
        | some o => exact R'.ag a o (h0 a o e z h2)
    fp' := R'.gfp
    rt := R'.grt
    ok := R'.gok
    rok := ok'
    rfp := fun a f => by
      obtain ⟨b1, b2, b3⟩ := own' a f
      have b2 : (if S.fp g a ∨ T2.fp H v' (.rc p κ ts) a then none else H a) = none := b2
      refine ⟨b1, ?_, b3⟩
      split at b2
      · rename_i h
        exact .inl (h.resolve_left b3)
      · exact .inr b2 }
variable {P : Program} {wd : World} {mg : Str → Option Value} {base : Heap}
theorem runR_len {N n : Nat} {as : List SV} {r} (h : runR N n m as g = some r) : as.length = n ∧ n ≤ N := by
  unfold runR at h
  split at h
  · rename_i q; exact q
  · cases h
theorem recR_some {o o' : Option Addr} {e : Env} {g g' : G} {p : Addr} {κ : RK} {ts : List T1} (h : recR o e g = some (o', p, κ, ts, g')) : o' = o ∧ g' = g ∧ e.at 0 = .tr (.rc p κ ts) := by
  unfold recR at h
  split at h
  · rename_i e0; cases h; exact ⟨rfl, rfl, e0⟩
  · cases h
theorem run_rec {N : List Str} {n : Nat} {as : List SV} {v : V} {us : List V} {p : Addr} {κ κ' : RK} {ts ts' : List T1} {o : Option Addr} {W : WX} {Q : VK} (fI : ∀ a, S.fp g a → I a = none) (ok : T2Ok K I H v (.rc p κ ts)) (own : ∀ a, T2.fp H v (.rc p κ ts) a → I a = none ∧ ¬ S.fp g a)
    (R : Rel K S ⟨fun a => if S.fp g a ∨ T2.fp H v (.rc p κ ts) a then none else H a, I, I, S.fp g, S.root g⟩ (startE N.length (.tr (.rc p κ ts) :: as)) g (start N (v :: us)) H)
    (h : runR N.length n m (.tr (.rc p κ ts) :: as) g = some (o, p, κ', ts', g')) (k : ∀ I' H' σ', Rst K S v p κ ts κ' ts' I H g I' H' g' → RsEnd Q (fun cls d H => W cls d σ' H) H' o) : tSx K S W m { nx := fun _ H' => Q .non H', rt := Q } (start N (v :: us)) H := by
  obtain ⟨hl, hn⟩ := runR_len h
  unfold runR at h
  rw [if_pos ⟨hl, hn⟩] at h
  split at h
  · rename_i e1 g1 e
    obtain ⟨rfl, rfl, e0⟩ := recR_some h
    exact ⟨_, _, g, .nm .nx, e1, _, R, e, fun σ' I' H' s' R' => k I' H' σ' (rst_of fI ok own e0 s' R')⟩
  · rename_i e1 g1 e
    obtain ⟨rfl, rfl, e0⟩ := recR_some h
    exact ⟨_, _, g, .nm (.re .none), e1, _, R, e, fun v' σ' I' H' s' R' pv => by
      cases pv
      exact k I' H' σ' (rst_of fI ok own e0 s' R')⟩
  · rename_i C e1 g1 e
    obtain ⟨rfl, rfl, e0⟩ := recR_some h
    exact ⟨_, _, g, .xc C, e1, _, R, e, fun σ' I' H' s' R' => k I' H' σ' (rst_of fI ok own e0 s' R')⟩
  · cases h
/-- the body of a def that may raise -/
abbrev BodyX (P : Program) (wd : World) (K : PySem.W.Frag) (mg : Str → Option Value) (base : Heap) (N : List Str) (qual : Str) (st : Stmt) (f : Addr) (k : Nat) (S : Gs G) (m : MX G) : Prop :=
  ∀ (cdv : Value) (A : Around) (outer : List PySem.Env) (s : Shared) (H : Hp) (E : XK), Room k (A.deeper (PyProof.Rows.envOfC qual (defScope st) s.heap.objs.size f cdv)) →
    PSs (cxOf (L2.CX P wd) P wd K mg base N qual (defScope st) f cdv A outer s H E) (defBody st) (tSx K S (fun cls d _ H => E cls d H) m)
theorem fn_recX {x qual : Str} {st : Stmt} {f : Addr} {fd : FuncData} {N ps : List Str} {k : Nat} (F : Fun K x qual st f fd) (Sc : FnScope N ps (defScope st)) (hb : BodyX P wd K mg base N qual st f k S m) :
    FnOk P wd K mg base (L2.CX P wd) (k + 1) f fd ps (spR K S (runR N.length ps.length m)) := by
  refine F.okX Sc (fun vs H Q E h => ?_) (fun cdv A outer s H vs Q E hr h => ?_)
  · obtain ⟨I, g, v, us, p, κ, ts, as, o, κ', ts', g', rfl, _, _, _, _, _, ra, e, _⟩ := h
    have := (runR_len e).1
    rw [List.length_cons] at this
    rw [List.length_cons, ra.len, this]
  · obtain ⟨I, g, v, us, p, κ, ts, as, o, κ', ts', g', rfl, sI, gok, fI, ok, own, ra, e, kk⟩ := h
    have hl := runR_len e
    rw [List.length_cons] at hl
    exact ⟨_, hb cdv A outer s H E hr, run_rec (W := fun cls d _ H => E cls d H) fI ok own (start_own sI gok fI ok own ra (by omega)) e fun I' H' _ r => kk I' H' r⟩
/-- .. that raises nothing -/
theorem fn_rec {x qual : Str} {st : Stmt} {f : Addr} {fd : FuncData} {N ps : List Str} {k : Nat} {m : MS G} (F : Fun K x qual st f fd) (Sc : FnScope N ps (defScope st)) (hb : Body P wd K mg base N qual st f k S m) :
    FnOk P wd K mg base CX0 (k + 1) f fd ps (spR K S (runR N.length ps.length (mNm m))) := by
  refine F.ok Sc (fun vs H Q E h => ?_) (fun cdv A outer s H vs Q E hr h => ?_)
  · obtain ⟨I, g, v, us, p, κ, ts, as, o, κ', ts', g', rfl, _, _, _, _, _, ra, e, _⟩ := h
    have := (runR_len e).1
    rw [List.length_cons] at this
    rw [List.length_cons, ra.len, this]
  · obtain ⟨I, g, v, us, p, κ, ts, as, o, κ', ts', g', rfl, sI, gok, fI, ok, own, ra, e, kk⟩ := h
    have hl := runR_len e
    rw [List.length_cons] at hl
    refine ⟨_, hb cdv A outer s H E hr, ?_⟩
    obtain ⟨w, env, g0, c, env', g1, R, e1, q⟩ := run_rec (W := fun cls d _ H => E cls d H) fI ok own (start_own sI gok fI ok own ra (by omega)) e fun I' H' _ r => kk I' H' r
    obtain ⟨r, e2, e3⟩ := Option.map_eq_some_iff.mp e1
    cases e3
    exact ⟨w, env, g0, r.1, _, _, R, e2, q⟩
/-! ### a new list from a ghost def -/
def spGN {G : Type} (K : PySem.W.Frag) (S : Gs G) (F : List SV → G → Option (List D × G)) : Sp := fun vs H Q _ => ∃ I g as ds g', Same I H ∧ S.ok g H ∧ (∀ a, S.fp g a → I a = none) ∧ ArgsOk K I (S.root g) vs as ∧ F as g = some (ds, g') ∧
  ∀ p us I' H', Gst S I H g I' H' g' → H p = none → I' p = none → H' p = some (.lst us) → RpA K I' us ds → ds.length ≤ sizeLine → Q (.ref p) H'
def runGN (N n : Nat) (m : MS G) (as : List SV) (g : G) : Option (List D × G) := (runS N n m as g).bind fun c => c.1.fresh.map (·, c.2)
theorem fn_ghostN {x qual : Str} {st : Stmt} {f : Addr} {fd : FuncData} {N ps : List Str} {k : Nat} {m : MS G} (F : Fun K x qual st f fd) (Sc : FnScope N ps (defScope st)) (hb : Body P wd K mg base N qual st f k S m) :
    FnOk P wd K mg base CX0 (k + 1) f fd ps (spGN K S (runGN N.length ps.length m)) := by
  refine F.ok Sc (fun vs H Q E h => ?_) (fun cdv A outer s H vs Q E hr h => ?_)
  · obtain ⟨I, g, as, d, g', _, _, _, ra, e, _⟩ := h
    obtain ⟨c, e1, _⟩ := Option.bind_eq_some_iff.mp e
    have q := (runS_len (c.1, c.2) e1).1
    rw [ra.len, q]
  · obtain ⟨I, g, as, d, g', sI, gok, fI, ra, e, kk⟩ := h
    obtain ⟨⟨c, g1⟩, e1, e2⟩ := Option.bind_eq_some_iff.mp e
    have hl := runS_len _ e1
    refine ⟨_, hb cdv A outer s H E hr, ?_⟩
    have h0 : Same (fun a => if S.fp g a then none else H a) H := fun a o q => by
      have q : (if S.fp g a then none else H a) = some o := q
      split at q
      · cases q
      · exact q
    have R : Rel K S ⟨fun a => if S.fp g a then none else H a, I, I, S.fp g, S.root g⟩ (startE N.length as) g (start N vs) H :=
      start_rel (rt := S.root g) ⟨fun a => if S.fp g a then none else H a, I, I, S.fp g, S.root g⟩ rfl ra (by rw [hl.1]; exact hl.2) h0 sI (fun _ _ _ => rfl) (Same.refl _) (fun _ => Iff.rfl) rfl gok fI (fun a z => if_pos z)
    refine run_body (c := c) (g' := g1) R e1 ?_
    have e2 : (c.fresh).map (·, g1) = some (d, g') := e2
    cases c with
    | rl ds' =>
      cases e2
      refine fun p us env' σ' I' H' s' R' n hp rb z => kk p us I' H' {
        eI := s'
        eH := fun a o q nf => R'.e0 a o (show (if S.fp g a then none else H a) = some o by rw [if_neg nf]; exact q)
        sub := R'.eI
        ag := fun a ha => by
          by_cases z : S.fp g a
          · exact (R'.fI a z).trans (fI a z).symm
          · cases q : H a with
            | none => exact absurd q ha
            | some o => exact R'.ag a o (show (if S.fp g a then none else H a) = some o by rw [if_neg z]; exact q)
        fp' := R'.gfp
        rt := R'.grt
        ok := R'.gok } ?_ n.i hp rb z
      have h1 : (if S.fp g p then none else H p) = none := n.h0
      split at h1
      · rename_i z; exact absurd z n.f
      · exact h1
    | _ => cases e2
def mCallGN (F : List SV → G → Option (List D × G)) (mg : MG G) : ML G := fun env g => bD (mg env g) fun as g1 => F as g1
theorem Rel.nobG {p : Addr} (R : Rel K S w env g σ H) (h : H p = none) (q : Gst S w.I H g I' H' g') (hi : I' p = none) : Nob (w.im I') env σ H' p where
  i := hi
  h0 := R.e0.free h
  f := fun z => S.dom R.gok ((R.gfp p).mpr z) h
  o := fun i f => by
    have kp := (R.slot i).keep (σ' := σ) (w' := w.im I') (H' := H') rfl q.eI rfl fun a f => by
      obtain ⟨a1, a2, a3, a4⟩ := (R.slot i).fr f
      refine ⟨?_, (q.ag a a4).trans a1, a2, a3⟩
      cases e : H a with
      | none => exact absurd e a4
      | some o => exact q.eH a o e fun z => a3 ((R.gfp a).mp z)
    exact ((R.slot i).fr ((kp.2 p).mp f)).2.2.2 h
theorem df_callGN {x : Str} {F : List SV → G → Option (List D × G)} {p : Pos} {mg : MG G}
    (run : PE X (.Call (.Name x p) (e :: es) [] pos) (tCall (spGN X.K S F) [] E0 (tG X.K S mg))) : DF X S (.Call (.Name x p) (e :: es) [] pos) (mCallGN F mg) := PE.imp run fun σ H Q q => by
  obtain ⟨w, env, g, d, g', R, e, k⟩ := q
  obtain ⟨as, g1, e1, e⟩ := bD_some e
  refine ⟨w, env, g, as, g1, R, e1, fun vs I1 H1 s1 R1 p1 => ?_⟩
  refine ⟨I1, g1, as, d, g', R1.eI, R1.gok, fun a ha => R1.fI a ((R1.gfp a).mp ha), ?_, e, fun p us I' H' ps h0 hi hp ra z => k p us I' H' (s1.trans ps.eI) (R1.gst ps) (R1.nobG h0 ps hi) hp ra z⟩
  rw [List.append_nil, R1.grt]
  exact p1
end
end Pd

/-! Pf: methods called. -/
namespace Pd
open PySem PySem.Spec L2
open Classical
/-- a method of the class at C -/
structure DfnM (K : PySem.W.Frag) (C : Addr) (x qual : Str) (st : Stmt) (ps : List Str) : Prop where
  ex : ∃ f fd, Fun K x qual st f fd ∧ Meth K C x f ∧ Binds K fd ps []
/-- .. with its promise -/
structure DefM (P : Program) (wd : World) (K : PySem.W.Frag) (mg : Str → Option Value) (base : Heap) (CX : CXT) (C : Addr) (x : Str) (ps : List Str) (k : Nat) (sp : Sp) : Prop where
  ex : ∃ f fd, FnOk P wd K mg base CX k f fd ps sp ∧ Meth K C x f ∧ Binds K fd ps []
/-- a def that may raise, by its name -/
structure DefX (P : Program) (wd : World) (K : PySem.W.Frag) (mg : Str → Option Value) (base : Heap) (x : Str) (ps : List Str) (k : Nat) (sp : Sp) : Prop where
  ex : ∃ f fd, FnOk P wd K mg base (L2.CX P wd) k f fd ps sp ∧ mg x = some (.ref f) ∧ PySem.W.keepIn K (.ref f) = true ∧ Binds K fd ps []
section
variable {G : Type} {S : Gs G} {P : Program} {wd : World} {K : PySem.W.Frag} {mg : Str → Option Value} {base : Heap} {C : Addr}
theorem defm_rec {x qual : Str} {st : Stmt} {N ps : List Str} {k : Nat} {m : MS G} (h : DfnM K C x qual st ps) (Sc : FnScope N ps (defScope st)) (hb : ∀ f, Body P wd K mg base N qual st f k S m) : DefM P wd K mg base CX0 C x ps (k + 1) (spR K S (runR N.length ps.length (mNm m))) := by
  obtain ⟨f, fd, F, hm, hB⟩ := h.ex
  exact ⟨f, fd, fn_rec F Sc (hb f), hm, hB⟩
theorem defm_recX {x qual : Str} {st : Stmt} {N ps : List Str} {k : Nat} {m : MX G} (h : DfnM K C x qual st ps) (Sc : FnScope N ps (defScope st)) (hb : ∀ f, BodyX P wd K mg base N qual st f k S m) : DefM P wd K mg base (L2.CX P wd) C x ps (k + 1) (spR K S (runR N.length ps.length m)) := by
  obtain ⟨f, fd, F, hm, hB⟩ := h.ex
  exact ⟨f, fd, fn_recX F Sc (hb f), hm, hB⟩
theorem defm_ghost {x qual : Str} {st : Stmt} {N ps : List Str} {k : Nat} {m : MS G} (h : DfnM K C x qual st ps) (Sc : FnScope N ps (defScope st)) (hb : ∀ f, Body P wd K mg base N qual st f k S m) : DefM P wd K mg base CX0 C x ps (k + 1) (spG K S (runG N.length ps.length m)) := by
  obtain ⟨f, fd, F, hm, hB⟩ := h.ex
  exact ⟨f, fd, fn_ghost F Sc (hb f), hm, hB⟩
theorem defm_ghostN {x qual : Str} {st : Stmt} {N ps : List Str} {k : Nat} {m : MS G} (h : DfnM K C x qual st ps) (Sc : FnScope N ps (defScope st)) (hb : ∀ f, Body P wd K mg base N qual st f k S m) : DefM P wd K mg base CX0 C x ps (k + 1) (spGN K S (runGN N.length ps.length m)) := by
  obtain ⟨f, fd, F, hm, hB⟩ := h.ex
  exact ⟨f, fd, fn_ghostN F Sc (hb f), hm, hB⟩
theorem def_rec {x qual : Str} {st : Stmt} {N ps : List Str} {k : Nat} {m : MS G} (h : Dfn K mg x qual st ps) (Sc : FnScope N ps (defScope st)) (hb : ∀ f, Body P wd K mg base N qual st f k S m) : Def1 P wd K mg base x ps (k + 1) (spR K S (runR N.length ps.length (mNm m))) := by
  obtain ⟨f, fd, F, hm, hB⟩ := h.ex
  exact ⟨f, fd, fn_rec F Sc (hb f), hm, F.kp, hB⟩
end
section
variable {G : Type} {X : Cx} {S : Gs G} {a b c e : Expr} {es : List Expr} {pos : Pos} {ma mb me mi : ME G} {mt mu : MT G} {ml : ML G} {tg : Expr} {st : Stmt} {m : MX G} {mg' : MG G}
variable {K : PySem.W.Frag} {w : Wd} {env env' : Env} {g g' : G} {σ : St} {H H' I I' : Hp}
theorem zip_none {α : Type} : ∀ {ns : List Str} {vs : List α} {f : Str}, f ∉ ns → (ns.zip vs).lookup f = none
  | [], _, _, _ => by simp [List.lookup]
  | _ :: _, [], _, _ => by simp [List.lookup]
  | x :: ns, v :: vs, f, h => by
    have ne : (f == x) = false := beq_false_of_ne fun z => h (z ▸ List.mem_cons_self ..)
    rw [List.zip_cons_cons]
    simp only [List.lookup, ne]
    exact zip_none fun z => h (List.mem_cons_of_mem _ z)
/-- o.m(e, ..), what is raised is wished for at the caller's slots -/
theorem pe_methS {CX : CXT} {k : Nat} {f C : Addr} {fd : FuncData} {ps : List Str} {sp : Sp} {E : St → XK} {o : Expr} {m : Str} {apos : Pos} {ta : TE} {t : TA} {pl : Sem Bool} (he : PE X o ta) (c : Cls X.K C) (hm : Meth X.K C m f) (F : FnOk X.prog X.w X.K X.mg X.base CX k f fd ps sp) (hr : Room k X.A) (hb : Binds X.K fd ps [])
    (hx : ∀ σ, PassesAt CX X σ (E σ)) (ha : PA X (e :: es) t)
    (hst : starEach (e :: es) X.env = (false, eval e X.env) :: starEach es X.env := by rfl) (hpl : (backTo pos (starEach es X.env)).any (·.1) = false := by rfl)
    (ht : eval (.Call (.Attribute o m apos) (e :: es) [] pos) X.env = (do
      let ov ← eval o X.env
      standAt apos.atName
      let (f, first) ← holding [ov] (getMethod ov m pl)
      callWith pos f first (backTo pos (starEach (e :: es) X.env)) (backToKw pos (keywordEach [] X.env))) := by rfl) :
    PE X (.Call (.Attribute o m apos) (e :: es) [] pos) (fun σ H Q => tMeth C m sp [] (E σ) ta t σ H Q) := by
  refine ⟨fun pins s σ H Q I h => ?_⟩
  refine PySem.W.methodCall_KW (pl := pl) (thn (he.run pins s σ H _ I h) fun u s1 ⟨x, H1, I1, rx, a, dx, fs, ex, ea, l, q⟩ => ?_) ht
  subst ex
  obtain rfl : u = Value.ref a := rx
  refine getmeth_ok I1 ea c hm l ?_
  refine PySem.W.callWith_K (first := [.ref a]) (h₀ := X.base) I.ok.mod.kin hm.kp (thn (ha.run pos pins s1 σ H1 _ I1 q) fun us s2 ⟨vs, H2, I2, r, q2⟩ => ⟨I2.kIn, ?_⟩) hst hpl
  have q2 : sp (V.ref a :: (vs ++ [])) H2 Q (E σ) := q2
  rw [List.append_nil] at q2
  exact run_fnS (us := .ref a :: us) (vs := .ref a :: vs) F hr hb (hx σ) I2 (.cons rfl r) q2
theorem pe_methS0 {CX : CXT} {k : Nat} {f C : Addr} {fd : FuncData} {ps : List Str} {sp : Sp} {E : St → XK} {o : Expr} {m : Str} {apos : Pos} {ta : TE} {pl : Sem Bool} (he : PE X o ta) (c : Cls X.K C) (hm : Meth X.K C m f) (F : FnOk X.prog X.w X.K X.mg X.base CX k f fd ps sp) (hr : Room k X.A) (hb : Binds X.K fd ps [])
    (hx : ∀ σ, PassesAt CX X σ (E σ))
    (ht : eval (.Call (.Attribute o m apos) [] [] pos) X.env = (do
      let ov ← eval o X.env
      standAt apos.atName
      let (f, first) ← holding [ov] (getMethod ov m pl)
      callWith pos f first (backTo pos (starEach [] X.env)) (backToKw pos (keywordEach [] X.env))) := by rfl) :
    PE X (.Call (.Attribute o m apos) [] [] pos) (fun σ H Q => tMeth C m sp [] (E σ) ta tNil σ H Q) := by
  refine ⟨fun pins s σ H Q I h => ?_⟩
  refine PySem.W.methodCall_KW (pl := pl) (thn (he.run pins s σ H _ I h) fun u s1 ⟨x, H1, I1, rx, a, dx, fs, ex, ea, l, q⟩ => ?_) ht
  subst ex
  obtain rfl : u = Value.ref a := rx
  refine getmeth_ok I1 ea c hm l ?_
  exact PySem.W.callWith_K0 (first := [.ref a]) I1.kIn hm.kp (run_fnS (us := [.ref a]) (vs := [.ref a]) F hr hb (hx σ) I1 (.cons rfl .nil) q)
/-! ### a method that changes its object -/
noncomputable def mMethX (κ : RK) (j : Nat) (F : List SV → G → RsR G) (mg : MG G) : MX G := fun env g => match env.at j with
  | .tr (.rc p k ts) => if k = κ then bD (mg env g) fun as g1 => match F (.tr (.rc p k ts) :: as) g1 with
    | some (o, p', κ', ts', g2) => if p' = p then match o with
      | none => some (.nm .nx, env.set j (.tr (.rc p κ' ts')), g2)
      | some C => some (.xc C, env.set j (.tr (.rc p κ' ts')), g2) else none
    | none => none else none
  | _ => none
noncomputable def mMeth (κ : RK) (j : Nat) (F : List SV → G → RsR G) (mg : MG G) : MS G := fun env g => match env.at j with
  | .tr (.rc p k ts) => if k = κ then bD (mg env g) fun as g1 => match F (.tr (.rc p k ts) :: as) g1 with
    | some (none, p', κ', ts', g2) => if p' = p then some (.nx, env.set j (.tr (.rc p κ' ts')), g2) else none
    | _ => none else none
  | _ => none
/-- what such a call is handed -/
theorem Rel.hand {j : Nat} {p : Addr} {κ κ' : RK} {ts ts' : List T1} {vs : List V} {as : List SV} {o : Option Addr} {F : List SV → G → RsR G} {Q : VK} {E : XK} (R : Rel K S w env g σ H) (ej : env.at j = .tr (.rc p κ ts)) (sj : σ[j]? = some (some (.ref p))) (ra : ArgsOk K w.I w.rt vs as)
    (e : F (.tr (.rc p κ ts) :: as) g = some (o, p, κ', ts', g')) (k : ∀ I' H', Same w.I I' → Rel K S (w.im I') (env.set j (.tr (.rc p κ' ts'))) g' σ H' → RsEnd Q E H' o) : spR K S F (.ref p :: vs) H Q E := by
  have qj := R.slot j
  rw [ej] at qj
  obtain ⟨u, e1, ok, own⟩ := qj
  rw [sj] at e1; cases e1
  exact ⟨w.I, g, .ref p, vs, p, κ, ts, as, o, κ', ts', g', rfl, R.eI, R.gok, fun a ha => R.fI a ((R.gfp a).mp ha), ok, fun a f => ⟨(own a f).1, fun z => (own a f).2.2 ((R.gfp a).mp z)⟩, by rw [R.grt]; exact ra, e, fun I' H' q => k I' H' q.eI (R.rst ej sj q)⟩
theorem dsx_meth {W : WX} {C : Addr} {ns ps : List Str} {x m : Str} {xp ap cp : Pos} {k : Nat} {F : List SV → G → RsR G} (j : Nat) (tk : Takes X W) (cl : Cls X.K C) (h : DefM X.prog X.w X.K X.mg X.base (L2.CX X.prog X.w) C m ps k (spR X.K S F)) (hr : Room k X.A) (ha : DG X S (e :: es) mg') (hm : m ∉ ns := by decide)
    (hN : X.N[j]? = some x := by rfl) (hv : Vis X.env.scope x := by first | exact Or.inl rfl | exact Or.inr (Or.inl rfl) | exact Or.inr (Or.inr rfl)) (hd : (x == ("__debug__" : Str)) = false := by decide) (hcd : (x == ("__classdict__" : Str)) = false := by decide)
    {pl : Sem Bool} (hst : starEach (e :: es) X.env = (false, eval e X.env) :: starEach es X.env := by rfl) (hpl : (backTo cp (starEach es X.env)).any (·.1) = false := by rfl)
    (ht : eval (.Call (.Attribute (.Name x xp) m ap) (e :: es) [] cp) X.env = (do
      let ov ← eval (.Name x xp) X.env
      standAt ap.atName
      let (f, first) ← holding [ov] (getMethod ov m pl)
      callWith cp f first (backTo cp (starEach (e :: es) X.env)) (backToKw cp (keywordEach [] X.env))) := by rfl)
    (hsw : swapsWith (.Call (.Attribute (.Name x xp) m ap) (e :: es) [] cp) none pos.line X.env = pure false := by rfl) :
    DSx X S W (.Expr (.Call (.Attribute (.Name x xp) m ap) (e :: es) [] cp) pos) (mMethX (.ob C ns) j F mg') := by
  obtain ⟨f, fd, FF, hM, hB⟩ := h.ex
  refine PS.imp (ps_expr (pe_methS (E := WE W) (pe_var hN hv hd hcd) cl hM FF hr hB (fun σ => passAt tk σ) ha hst hpl ht) hsw) fun D σ H ⟨w, env, g, c, env', g', R, e, q⟩ => ?_
  unfold mMethX at e
  split at e
  case h_2 => cases e
  rename_i p kk ts ej
  split at e
  case isFalse => cases e
  rename_i hk
  subst hk
  obtain ⟨as, g1, e1, e⟩ := bD_some e
  split at e
  case h_2 => cases e
  rename_i o p' κ' ts' g2 ef
  split at e
  case isFalse => cases e
  rename_i hp'
  subst hp'
  obtain ⟨vs0, sj, ⟨_, dx, e2, _⟩, _⟩ := R.rc ej
  refine ⟨_, sj, p', dx, _, rfl, e2, zip_none hm, w, env, g, as, g1, R, e1, fun vs I1 H1 s1 R1 p1 => ?_⟩
  show spR X.K S F (V.ref _ :: (vs ++ [])) H1 _ _
  rw [List.append_nil]
  refine R1.hand ej sj p1 ef fun I' H' s' R' => ?_
  cases o with
  | none => cases e; exact q σ I' H' (Same.trans s1 s') R'
  | some C => cases e; exact q σ I' H' (Same.trans s1 s') R'
theorem dsx_meth0 {W : WX} {C : Addr} {ns ps : List Str} {x m : Str} {xp ap cp : Pos} {k : Nat} {F : List SV → G → RsR G} (j : Nat) (tk : Takes X W) (cl : Cls X.K C) (h : DefM X.prog X.w X.K X.mg X.base (L2.CX X.prog X.w) C m ps k (spR X.K S F)) (hr : Room k X.A) (hm : m ∉ ns := by decide)
    (hN : X.N[j]? = some x := by rfl) (hv : Vis X.env.scope x := by first | exact Or.inl rfl | exact Or.inr (Or.inl rfl) | exact Or.inr (Or.inr rfl)) (hd : (x == ("__debug__" : Str)) = false := by decide) (hcd : (x == ("__classdict__" : Str)) = false := by decide)
    {pl : Sem Bool} (ht : eval (.Call (.Attribute (.Name x xp) m ap) [] [] cp) X.env = (do
      let ov ← eval (.Name x xp) X.env
      standAt ap.atName
      let (f, first) ← holding [ov] (getMethod ov m pl)
      callWith cp f first (backTo cp (starEach [] X.env)) (backToKw cp (keywordEach [] X.env))) := by rfl)
    (hsw : swapsWith (.Call (.Attribute (.Name x xp) m ap) [] [] cp) none pos.line X.env = pure false := by rfl) :
    DSx X S W (.Expr (.Call (.Attribute (.Name x xp) m ap) [] [] cp) pos) (mMethX (.ob C ns) j F gNil) := by
  obtain ⟨f, fd, FF, hM, hB⟩ := h.ex
  refine PS.imp (ps_expr (pe_methS0 (E := WE W) (pe_var hN hv hd hcd) cl hM FF hr hB (fun σ => passAt tk σ) ht) hsw) fun D σ H ⟨w, env, g, c, env', g', R, e, q⟩ => ?_
  unfold mMethX at e
  split at e
  case h_2 => cases e
  rename_i p kk ts ej
  split at e
  case isFalse => cases e
  rename_i hk
  subst hk
  obtain ⟨as, g1, e1, e⟩ := bD_some e
  cases e1
  split at e
  case h_2 => cases e
  rename_i o p' κ' ts' g2 ef
  split at e
  case isFalse => cases e
  rename_i hp'
  subst hp'
  obtain ⟨vs0, sj, ⟨_, dx, e2, _⟩, _⟩ := R.rc ej
  refine ⟨_, sj, p', dx, _, rfl, e2, zip_none hm, ?_⟩
  refine R.hand ej sj .nil ef fun I' H' s' R' => ?_
  cases o with
  | none => cases e; exact q σ I' H' s' R'
  | some C => cases e; exact q σ I' H' s' R'
theorem ds_meth {C : Addr} {ns ps : List Str} {x m : Str} {xp ap cp : Pos} {k : Nat} {F : List SV → G → RsR G} (j : Nat) (cl : Cls X.K C) (h : DefM X.prog X.w X.K X.mg X.base CX0 C m ps k (spR X.K S F)) (hr : Room k X.A) (ha : DG X S (e :: es) mg') (hm : m ∉ ns := by decide)
    (hN : X.N[j]? = some x := by rfl) (hv : Vis X.env.scope x := by first | exact Or.inl rfl | exact Or.inr (Or.inl rfl) | exact Or.inr (Or.inr rfl)) (hd : (x == ("__debug__" : Str)) = false := by decide) (hcd : (x == ("__classdict__" : Str)) = false := by decide)
    {pl : Sem Bool} (hst : starEach (e :: es) X.env = (false, eval e X.env) :: starEach es X.env := by rfl) (hpl : (backTo cp (starEach es X.env)).any (·.1) = false := by rfl)
    (ht : eval (.Call (.Attribute (.Name x xp) m ap) (e :: es) [] cp) X.env = (do
      let ov ← eval (.Name x xp) X.env
      standAt ap.atName
      let (f, first) ← holding [ov] (getMethod ov m pl)
      callWith cp f first (backTo cp (starEach (e :: es) X.env)) (backToKw cp (keywordEach [] X.env))) := by rfl)
    (hsw : swapsWith (.Call (.Attribute (.Name x xp) m ap) (e :: es) [] cp) none pos.line X.env = pure false := by rfl) :
    DS X S (.Expr (.Call (.Attribute (.Name x xp) m ap) (e :: es) [] cp) pos) (mMeth (.ob C ns) j F mg') := by
  obtain ⟨f, fd, FF, hM, hB⟩ := h.ex
  refine PS.imp (ps_expr (pe_meth (E := E0) (pe_var hN hv hd hcd) cl hM FF hr hB .nil pass0 ha hst hpl ht) hsw) fun D σ H ⟨w, env, g, c, env', g', R, e, q⟩ => ?_
  unfold mMeth at e
  split at e
  case h_2 => cases e
  rename_i p kk ts ej
  split at e
  case isFalse => cases e
  rename_i hk
  subst hk
  obtain ⟨as, g1, e1, e⟩ := bD_some e
  split at e
  case h_2 => cases e
  rename_i p' κ' ts' g2 ef
  split at e
  case isFalse => cases e
  rename_i hp'
  subst hp'
  cases e
  obtain ⟨vs0, sj, ⟨_, dx, e2, _⟩, _⟩ := R.rc ej
  refine ⟨_, sj, p', dx, _, rfl, e2, zip_none hm, w, env, g, as, g1, R, e1, fun vs I1 H1 s1 R1 p1 => ?_⟩
  show spR X.K S F (V.ref _ :: (vs ++ [])) H1 _ _
  rw [List.append_nil]
  exact R1.hand (o := none) ej sj p1 ef fun I' H' s' R' => q σ I' H' (Same.trans s1 s') R'
/-- f(x, e, ..), x a record -/
theorem ds_recf {f x : Str} {xp fp cp : Pos} {κ : RK} {ps : List Str} {k : Nat} {F : List SV → G → RsR G} (j : Nat) (h : Def1 X.prog X.w X.K X.mg X.base f ps k (spR X.K S F)) (hr : Room k X.A) (hg : Gl X f) (ha : DG X S es mg')
    (hN : X.N[j]? = some x := by rfl) (hv : Vis X.env.scope x := by first | exact Or.inl rfl | exact Or.inr (Or.inl rfl) | exact Or.inr (Or.inr rfl)) (hd : (x == ("__debug__" : Str)) = false := by decide) (hcd : (x == ("__classdict__" : Str)) = false := by decide)
    (hdb : (f == ("__debug__" : Str)) = false := by decide) (hs : starEach (.Name x xp :: es) X.env = (false, eval (.Name x xp) X.env) :: starEach es X.env := by rfl) (hpl : (backTo cp (starEach es X.env)).any (·.1) = false := by rfl)
    (hsw : swapsWith (.Call (.Name f fp) (.Name x xp :: es) [] cp) none pos.line X.env = pure false := by rfl) :
    DS X S (.Expr (.Call (.Name f fp) (.Name x xp :: es) [] cp) pos) (mMeth κ j F mg') := by
  obtain ⟨ff, fd, FF, hm, hk, hB⟩ := h.ex
  refine PS.imp (ps_expr (pe_call FF hr hg hm hk hB .nil pass0 (pa_cons (pe_var hN hv hd hcd) ha hs) hdb hs hpl) hsw) fun D σ H ⟨w, env, g, c, env', g', R, e, q⟩ => ?_
  unfold mMeth at e
  split at e
  case h_2 => cases e
  rename_i p kk ts ej
  split at e
  case isFalse => cases e
  rename_i hk
  subst hk
  obtain ⟨as, g1, e1, e⟩ := bD_some e
  split at e
  case h_2 => cases e
  rename_i p' κ' ts' g2 ef
  split at e
  case isFalse => cases e
  rename_i hp'
  subst hp'
  cases e
  obtain ⟨vs0, sj, _⟩ := R.rc ej
  refine ⟨_, sj, w, env, g, as, g1, R, e1, fun vs I1 H1 s1 R1 p1 => ?_⟩
  show spR X.K S F (V.ref _ :: (vs ++ [])) H1 _ _
  rw [List.append_nil]
  exact R1.hand (o := none) ej sj p1 ef fun I' H' s' R' => q σ I' H' (Same.trans s1 s') R'
/-! ### a method that only looks -/
noncomputable def mRMeth (κ : RK) (j : Nat) (F : List SV → G → Option (D × G)) (mg : MG G) : ME G := fun env g => match env.at j with
  | .rz k ts => if k = κ then bD (mg env g) fun as g1 => F (.rz k ts :: as) g1 else none
  | _ => none
noncomputable def mRMethN (κ : RK) (j : Nat) (F : List SV → G → Option (List D × G)) (mg : MG G) : ML G := fun env g => match env.at j with
  | .rz k ts => if k = κ then bD (mg env g) fun as g1 => F (.rz k ts :: as) g1 else none
  | _ => none
theorem de_rmeth {C : Addr} {ns ps : List Str} {x m : Str} {xp ap : Pos} {k : Nat} {F : List SV → G → Option (D × G)} (j : Nat) (cl : Cls X.K C) (h : DefM X.prog X.w X.K X.mg X.base CX0 C m ps k (spG X.K S F)) (hr : Room k X.A) (ha : DG X S (e :: es) mg') (hm : m ∉ ns := by decide)
    (hN : X.N[j]? = some x := by rfl) (hv : Vis X.env.scope x := by first | exact Or.inl rfl | exact Or.inr (Or.inl rfl) | exact Or.inr (Or.inr rfl)) (hd : (x == ("__debug__" : Str)) = false := by decide) (hcd : (x == ("__classdict__" : Str)) = false := by decide)
    {pl : Sem Bool} (hst : starEach (e :: es) X.env = (false, eval e X.env) :: starEach es X.env := by rfl) (hpl : (backTo pos (starEach es X.env)).any (·.1) = false := by rfl)
    (ht : eval (.Call (.Attribute (.Name x xp) m ap) (e :: es) [] pos) X.env = (do
      let ov ← eval (.Name x xp) X.env
      standAt ap.atName
      let (f, first) ← holding [ov] (getMethod ov m pl)
      callWith pos f first (backTo pos (starEach (e :: es) X.env)) (backToKw pos (keywordEach [] X.env))) := by rfl) :
    DE X S (.Call (.Attribute (.Name x xp) m ap) (e :: es) [] pos) (mRMeth (.ob C ns) j F mg') := by
  obtain ⟨f, fd, FF, hM, hB⟩ := h.ex
  refine PE.imp (pe_meth (E := E0) (pe_var hN hv hd hcd) cl hM FF hr hB .nil pass0 ha hst hpl ht) fun σ H Q ⟨w, env, g, d, g', R, e, q⟩ => ?_
  unfold mRMeth at e
  split at e
  case h_2 => cases e
  rename_i kk ts ej
  split at e
  case isFalse => cases e
  rename_i hk
  subst hk
  obtain ⟨as, g1, e1, e⟩ := bD_some e
  have qj := R.slot j
  rw [ej] at qj
  obtain ⟨v, sj, ok⟩ := qj
  have ok' := ok
  obtain ⟨p, vs0, rfl, ⟨_, dx, e2, _⟩, _⟩ := ok'
  refine ⟨_, sj, p, dx, _, rfl, R.eI _ _ e2, zip_none hm, w, env, g, as, g1, R, e1, fun vs I1 H1 s1 R1 p1 => ?_⟩
  show spG X.K S F (V.ref _ :: (vs ++ [])) H1 _ _
  rw [List.append_nil]
  exact ⟨I1, g1, _, d, g', R1.eI, R1.gok, fun a ha => R1.fI a ((R1.gfp a).mp ha), .cons (a := .rz (.ob C ns) ts) (ok.mono s1) (by rw [R1.grt]; exact p1), e, fun u I' H' ps r => q u I' H' (Same.trans s1 ps.eI) (R1.gst ps) r⟩
theorem de_rmeth0 {C : Addr} {ns ps : List Str} {x m : Str} {xp ap : Pos} {k : Nat} {F : List SV → G → Option (D × G)} (j : Nat) (cl : Cls X.K C) (h : DefM X.prog X.w X.K X.mg X.base CX0 C m ps k (spG X.K S F)) (hr : Room k X.A) (hm : m ∉ ns := by decide)
    (hN : X.N[j]? = some x := by rfl) (hv : Vis X.env.scope x := by first | exact Or.inl rfl | exact Or.inr (Or.inl rfl) | exact Or.inr (Or.inr rfl)) (hd : (x == ("__debug__" : Str)) = false := by decide) (hcd : (x == ("__classdict__" : Str)) = false := by decide)
    {pl : Sem Bool} (ht : eval (.Call (.Attribute (.Name x xp) m ap) [] [] pos) X.env = (do
      let ov ← eval (.Name x xp) X.env
      standAt ap.atName
      let (f, first) ← holding [ov] (getMethod ov m pl)
      callWith pos f first (backTo pos (starEach [] X.env)) (backToKw pos (keywordEach [] X.env))) := by rfl) :
    DE X S (.Call (.Attribute (.Name x xp) m ap) [] [] pos) (mRMeth (.ob C ns) j F gNil) := by
  obtain ⟨f, fd, FF, hM, hB⟩ := h.ex
  refine PE.imp (pe_meth0 (E := E0) (pe_var hN hv hd hcd) cl hM FF hr hB .nil pass0 ht) fun σ H Q ⟨w, env, g, d, g', R, e, q⟩ => ?_
  unfold mRMeth at e
  split at e
  case h_2 => cases e
  rename_i kk ts ej
  split at e
  case isFalse => cases e
  rename_i hk
  subst hk
  obtain ⟨as, g1, e1, e⟩ := bD_some e
  cases e1
  have qj := R.slot j
  rw [ej] at qj
  obtain ⟨v, sj, ok⟩ := qj
  have ok' := ok
  obtain ⟨p, vs0, rfl, ⟨_, dx, e2, _⟩, _⟩ := ok'
  refine ⟨_, sj, p, dx, _, rfl, R.eI _ _ e2, zip_none hm, ?_⟩
  exact ⟨w.I, g, _, d, g', R.eI, R.gok, fun a ha => R.fI a ((R.gfp a).mp ha), .cons (a := .rz (.ob C ns) ts) ok .nil, e, fun u I' H' ps r => q u I' H' ps.eI (R.gst ps) r⟩
theorem df_rmeth {C : Addr} {ns ps : List Str} {x m : Str} {xp ap : Pos} {k : Nat} {F : List SV → G → Option (List D × G)} (j : Nat) (cl : Cls X.K C) (h : DefM X.prog X.w X.K X.mg X.base CX0 C m ps k (spGN X.K S F)) (hr : Room k X.A) (ha : DG X S (e :: es) mg') (hm : m ∉ ns := by decide)
    (hN : X.N[j]? = some x := by rfl) (hv : Vis X.env.scope x := by first | exact Or.inl rfl | exact Or.inr (Or.inl rfl) | exact Or.inr (Or.inr rfl)) (hd : (x == ("__debug__" : Str)) = false := by decide) (hcd : (x == ("__classdict__" : Str)) = false := by decide)
    {pl : Sem Bool} (hst : starEach (e :: es) X.env = (false, eval e X.env) :: starEach es X.env := by rfl) (hpl : (backTo pos (starEach es X.env)).any (·.1) = false := by rfl)
    (ht : eval (.Call (.Attribute (.Name x xp) m ap) (e :: es) [] pos) X.env = (do
      let ov ← eval (.Name x xp) X.env
      standAt ap.atName
      let (f, first) ← holding [ov] (getMethod ov m pl)
      callWith pos f first (backTo pos (starEach (e :: es) X.env)) (backToKw pos (keywordEach [] X.env))) := by rfl) :
    DF X S (.Call (.Attribute (.Name x xp) m ap) (e :: es) [] pos) (mRMethN (.ob C ns) j F mg') := by
  obtain ⟨f, fd, FF, hM, hB⟩ := h.ex
  refine PE.imp (pe_meth (E := E0) (pe_var hN hv hd hcd) cl hM FF hr hB .nil pass0 ha hst hpl ht) fun σ H Q ⟨w, env, g, d, g', R, e, q⟩ => ?_
  unfold mRMethN at e
  split at e
  case h_2 => cases e
  rename_i kk ts ej
  split at e
  case isFalse => cases e
  rename_i hk
  subst hk
  obtain ⟨as, g1, e1, e⟩ := bD_some e
  have qj := R.slot j
  rw [ej] at qj
  obtain ⟨v, sj, ok⟩ := qj
  have ok' := ok
  obtain ⟨p, vs0, rfl, ⟨_, dx, e2, _⟩, _⟩ := ok'
  refine ⟨_, sj, p, dx, _, rfl, R.eI _ _ e2, zip_none hm, w, env, g, as, g1, R, e1, fun vs I1 H1 s1 R1 p1 => ?_⟩
  show spGN X.K S F (V.ref _ :: (vs ++ [])) H1 _ _
  rw [List.append_nil]
  exact ⟨I1, g1, _, d, g', R1.eI, R1.gok, fun a ha => R1.fI a ((R1.gfp a).mp ha), .cons (a := .rz (.ob C ns) ts) (ok.mono s1) (by rw [R1.grt]; exact p1), e, fun p us I' H' ps h0 hi hp ra z => q p us I' H' (Same.trans s1 ps.eI) (R1.gst ps) (R1.nobG h0 ps hi) hp ra z⟩
end
end Pd

/-! Pf: new records. -/
namespace Pd
open PySem PySem.Spec L2
open Classical
section
variable {G : Type} {X : Cx} {S : Gs G} {a b c e : Expr} {es : List Expr} {pos : Pos} {ma mb me mi : ME G} {mt mu : MT G} {ml : ML G} {tg : Expr} {st : Stmt} {m : MX G} {mg' : MG G} {rest : List Stmt}
variable {K : PySem.W.Frag} {w : Wd} {env env' : Env} {g g' : G} {σ : St} {H H' I I' : Hp}
/-- nothing is known of the slots -/
theorem at_repl (n i : Nat) : Env.at (List.replicate n SV.un) i = .un := by
  show (List.replicate n SV.un).getD i .un = .un
  rw [List.getD_eq_getElem?_getD, List.getElem?_replicate]
  split <;> rfl
theorem Rel.forgetA (R : Rel K S w env g σ H) : Rel K S w (List.replicate env.length .un) g σ H := { R with
  len := by rw [List.length_replicate]; exact R.len
  slot := fun i => by rw [at_repl]; trivial
  dis := fun i j a _ f => by rw [at_repl] at f; exact f.elim }
theorem Post.forget {D : Ends} {c : Ct} {n : Nat} (h : Post K S w (List.replicate n .un) g' D c) (hl : env'.length = n) : Post K S w env' g' D c := by
  subst hl
  cases c with
  | nx => exact fun σ' I' H' s R => h σ' I' H' s R.forgetA
  | br => exact fun σ' I' H' s R => h σ' I' H' s R.forgetA
  | co => exact fun σ' I' H' s R => h σ' I' H' s R.forgetA
  | re d => exact fun v σ' I' H' s R p => h v σ' I' H' s R.forgetA p
  | rl ds => exact fun p vs σ' I' H' s R n hp ra z => h p vs σ' I' H' s R.forgetA ⟨n.i, n.h0, n.f, fun i f => by rw [at_repl] at f; exact f⟩ hp ra z
theorem upd_fix {H : Hp} {p : Addr} {o : HO} (h : H p = some o) : upd H p o = H := by
  funext a
  by_cases z : a = p
  · rw [z, upd_same, h]
  · rw [upd_ne z]
theorem Rel.unheld {p : Addr} {o : HO} (R : Rel K S (w.hold p o) env g σ H) (n0 : w.H0 p = none) (nI : w.I0 p = none) : Rel K S w env g σ H ∧ Nob w env σ H p ∧ H p = some o := by
  obtain ⟨h1, h2, h3⟩ := R.unhold (u := o) n0 nI
  rw [upd_fix h3] at h1 h2
  exact ⟨h1, h2, h3⟩
/-! ### x = C(e, ..) -/
noncomputable def mMake (C : Addr) (j : Nat) (F : List SV → G → RsR G) (mg : MG G) (rest : Addr → MS G) : MS G := fun env g => bD (mg env g) fun as g1 =>
  if h : j < env.length ∧ ∃ r : Ct × G, ∀ p, ∃ κ ts g2 e', F (.tr (.rc p (.ob C []) []) :: as) g1 = some (none, p, κ, ts, g2) ∧ rest p (env.set j (.tr (.rc p κ ts))) g2 = some (r.1, e', r.2) ∧ e'.length = env.length
  then some ((Classical.choose h.2).1, List.replicate env.length .un, (Classical.choose h.2).2) else none
theorem db_make {C : Addr} {j k : Nat} {x cn : Str} {xp cp : Pos} {f : Addr} {fd : FuncData} {ps : List Str} {F : List SV → G → RsR G} {mrest : Addr → MS G} (hN : X.N.Nodup) (hi : X.N[j]? = some x) (hx : Loc X.env.scope x) (M : Mk X.K C f) (FF : FnOk X.prog X.w X.K X.mg X.base CX0 k f fd ps (spR X.K S F)) (hB : Binds X.K fd ps []) (hr : Room (k + 1) X.A) (hg : Gl X cn) (hm : X.mg cn = some (.ref C))
    (ha : DG X S (e :: es) mg') (hrest : ∀ p, DB X S rest (mrest p)) (hdb : (cn == ("__debug__" : Str)) = false := by decide)
    (hst : starEach (e :: es) X.env = (false, eval e X.env) :: starEach es X.env := by rfl) (hpl : (backTo cp (starEach es X.env)).any (·.1) = false := by rfl)
    (hs : swapsWith (.Call (.Name cn p) (e :: es) [] cp) (some (.Name x xp)) pos.line X.env = pure false := by rfl)
    (hf : X.fn x = true ∨ X.env.scope.names.lookup x = some .local := by first | exact .inl rfl | exact .inr rfl | assumption) :
    DB X S (.Assign [.Name x xp] (.Call (.Name cn p) (e :: es) [] cp) pos :: rest) (mMake C j F mg' mrest) := by
  have hR : PSs X rest (fun D σ H => ∃ p, tS X.K S (mrest p) D σ H) := ⟨fun pins s σ H D I ⟨p, q⟩ => (hrest p).run pins s σ H D I q⟩
  refine PSs.imp (pss_cons (ps_set hN hi hx (pe_make (E := E0) M FF hr hg hm hB .nil pass0 ha hdb hst hpl) hs hf) hR) fun D σ H ⟨w, env, g, c, env', g', R, e, q⟩ => ?_
  obtain ⟨as, g1, e1, e⟩ := bD_some e
  split at e
  case isFalse => cases e
  rename_i h
  have hj := h.1
  have hr := Classical.choose_spec h.2
  generalize Classical.choose h.2 = r at hr e
  cases e
  refine ⟨w, env, g, as, g1, R, e1, fun vs I1 H1 s1 R1 p1 => fun y dx ny nd ne => ?_⟩
  obtain ⟨κ, ts, g2, e', ef, er, el⟩ := hr y
  have hy : upd (upd H1 dx (.own y)) y (.ins C dx []) y = some (.ins C dx []) := upd_same
  have hdx : upd (upd H1 dx (.own y)) y (.ins C dx []) dx = some (.own y) := (upd_ne ne).trans upd_same
  have s3 : Same H1 (upd (upd H1 dx (.own y)) y (.ins C dx [])) := Same.trans (same_new nd) (same_new ((upd_ne (Ne.symm ne)).trans ny))
  have R3 : Rel X.K S (w.im I1) env g1 σ (upd (upd H1 dx (.own y)) y (.ins C dx [])) := (R1.alloc nd).alloc ((upd_ne (Ne.symm ne)).trans ny)
  have n1 := R1.nobS ny s3
  have n2 := R1.nobS nd s3
  have fpn : ∀ a, T2.fp (upd (upd H1 dx (.own y)) y (.ins C dx [])) (.ref y) (.rc y (.ob C []) []) a → a = y ∨ a = dx := fun a f => by
    rcases f with f | ⟨us, n, u, t, _, _, e2, _⟩
    · rcases f with f | ⟨C', fs, f⟩
      · exact .inl f
      · rw [hy] at f; cases f; exact .inr rfl
    · simp at e2
  have ok : T2Ok X.K I1 (upd (upd H1 dx (.own y)) y (.ins C dx [])) (.ref y) (.rc y (.ob C []) []) := ⟨[], rfl, ⟨rfl, dx, hy, hdx⟩, rfl, Nat.zero_le _, List.nodup_nil, fun k u t e1 e2 => by simp at e2, fun k l u u' t t' a _ e1 e2 e3 e4 => by simp at e3⟩
  have nobs : ∀ a, T2.fp (upd (upd H1 dx (.own y)) y (.ins C dx [])) (.ref y) (.rc y (.ob C []) []) a → Nob (w.im I1) env σ (upd (upd H1 dx (.own y)) y (.ins C dx [])) a := fun a f => by
    rcases fpn a f with rfl | rfl
    · exact n1
    · exact n2
  have R4 := R3.putT (i := j) (v := .ref y) (t := .rc y (.ob C []) []) ok nobs
  have ej : Env.at (env.set j (.tr (.rc y (.ob C []) []))) j = .tr (.rc y (.ob C []) []) := by rw [at_set, if_pos ⟨rfl, hj⟩]
  have sj : (σ.set j (some (V.ref y)))[j]? = some (some (.ref y)) := List.getElem?_set_self (by rw [R.len]; exact hj)
  show spR X.K S F (V.ref y :: (vs ++ [])) _ _ _
  rw [List.append_nil]
  refine ⟨I1, g1, .ref y, vs, y, .ob C [], [], as, none, κ, ts, g2, rfl, R3.eI, R3.gok, fun a ha => R3.fI a ((R3.gfp a).mp ha), ok, fun a f => ⟨(nobs a f).i, fun z => (nobs a f).f ((R3.gfp a).mp z)⟩, by rw [R3.grt]; exact p1, ef, fun I' H' rs => ⟨rfl, y, ?_⟩⟩
  have R5 := R4.rst ej sj rs
  rw [List.set_set] at R5
  exact ⟨w.im I', _, g2, r.1, e', r.2, R5, er, (Post.forget q el).mono (Same.trans s1 rs.eI)⟩
/-! ### x = {'f': a dict, 'g': a list} -/
noncomputable def mMakeDt (f1 f2 : Str) (j : Nat) (mk : MK G) (ml : ML G) (rest : Addr → MS G) : MS G := fun env g => bD (mk env g) fun kvs g1 => bD (ml env g1) fun ds g2 =>
  if h : j < env.length ∧ ∃ r : Ct × G, ∀ p, ∃ e', rest p (env.set j (.tr (.rc p (.dt [f1, f2]) [.dc kvs, .ls ds]))) g2 = some (r.1, e', r.2) ∧ e'.length = env.length
  then some ((Classical.choose h.2).1, List.replicate env.length .un, (Classical.choose h.2).2) else none
theorem db_makeDt {j : Nat} {x f1 f2 : Str} {xp dp p1 p2 : Pos} {k1 k2} {v1 v2 : Expr} {mk : MK G} {mrest : Addr → MS G} (hN : X.N.Nodup) (hi : X.N[j]? = some x) (hx : Loc X.env.scope x) (h1 : DK X S v1 mk) (h2 : DF X S v2 ml) (hne : f1 ≠ f2) (hrest : ∀ p, DB X S rest (mrest p))
    (hs : swapsWith (.Dict [some (.Constant (.str f1) k1 p1), some (.Constant (.str f2) k2 p2)] [v1, v2] dp) (some (.Name x xp)) pos.line X.env = pure false := by rfl)
    (hf : X.fn x = true ∨ X.env.scope.names.lookup x = some .local := by first | exact .inl rfl | exact .inr rfl | assumption) :
    DB X S (.Assign [.Name x xp] (.Dict [some (.Constant (.str f1) k1 p1), some (.Constant (.str f2) k2 p2)] [v1, v2] dp) pos :: rest) (mMakeDt f1 f2 j mk ml mrest) := by
  have hR : PSs X rest (fun D σ H => ∃ p, tS X.K S (mrest p) D σ H) := ⟨fun pins s σ H D I ⟨p, q⟩ => (hrest p).run pins s σ H D I q⟩
  refine PSs.imp (pss_cons (ps_set hN hi hx (pe_disp (pps_cons pe_str h1 (pps_cons pe_str h2 pps_nil)) rfl rfl (by simp) (by simp)) hs hf) hR) fun D σ H ⟨w, env, g, c, env', g', R, e, q⟩ => ?_
  obtain ⟨kvs, g1, e1, e⟩ := bD_some e
  obtain ⟨ds, g2, e2, e⟩ := bD_some e
  split at e
  case isFalse => cases e
  rename_i h
  have hj := h.1
  have hr := Classical.choose_spec h.2
  generalize Classical.choose h.2 = r at hr e
  cases e
  intro y h0
  obtain ⟨e', er, el⟩ := hr y
  have n := R.nob (o := .dK []) h0
  have R1 := (R.alloc (o := .dK []) h0).hold n upd_same
  refine ⟨w.hold y (.dK []), env, g, kvs, g1, R1, e1, fun q1 us I1 H1 s1 R2 nq hq hk ra hz => ?_⟩
  have R3 := R2.hold nq hq
  refine ⟨((w.hold y (.dK [])).im I1).hold q1 (.dK us), env, g1, ds, _, R3, e2, fun l vs I2 H2 s2 R4 nl hl ra2 hz2 => ?_⟩
  have s2 : Same I1 I2 := s2
  have nq0 : upd w.H0 y (.dK []) q1 = none := nq.h0
  have nq1 : q1 ≠ y := fun z => by rw [z, upd_same] at nq0; cases nq0
  have nl0 : upd (upd w.H0 y (.dK [])) q1 (.dK us) l = none := nl.h0
  have nl1 : l ≠ q1 := fun z => by rw [z, upd_same] at nl0; cases nl0
  have nl2 : l ≠ y := fun z => by rw [upd_ne nl1, z, upd_same] at nl0; cases nl0
  have R4' : Rel X.K S (((w.hold y (.dK [])).im I2).hold q1 (.dK us)) env g2 σ H2 := R4
  obtain ⟨R5, nq5, hq5⟩ := R4'.unheld nq.h0 (R.ge.free (s1.free nq.i))
  have R5' : Rel X.K S ((w.im I2).hold y (.dK [])) env g2 σ H2 := R5
  obtain ⟨R6, ny6, hy6⟩ := R5'.unhold (u := .dK (mergeK [] [(Sum.inr f1, V.ref q1), (Sum.inr f2, V.ref l)])) n.h0 (R.ge.free n.i)
  have em : mergeK [] [((Sum.inr f1 : Key), V.ref q1), (Sum.inr f2, V.ref l)] = [(Sum.inr f1, V.ref q1), (Sum.inr f2, V.ref l)] := merge_nd _ [] (by
    show ([Sum.inr f1, Sum.inr f2] : List Key).Nodup
    simp
    exact hne)
  rw [em] at R6 ny6
  refine ⟨hy6, [(Sum.inr f1, V.ref q1), (Sum.inr f2, V.ref l)], rfl, Nat.le_of_ble_eq_true rfl, y, ?_⟩
  rw [em]
  have H6q : upd H2 y (.dK [((Sum.inr f1 : Key), V.ref q1), (Sum.inr f2, V.ref l)]) q1 = some (.dK us) := (upd_ne nq1).trans hq5
  have H6l : upd H2 y (.dK [((Sum.inr f1 : Key), V.ref q1), (Sum.inr f2, V.ref l)]) l = some (.lst vs) := (upd_ne nl2).trans hl
  -- nobody's
  have up : ∀ {a : Addr}, a ≠ y → (w.im I2).I a = none → (w.im I2).H0 a = none → ¬ w.fp a → (∀ i, ¬ fpt H2 σ i (env.at i) a) → Nob (w.im I2) env σ (upd H2 y (.dK [((Sum.inr f1 : Key), V.ref q1), (Sum.inr f2, V.ref l)])) a := fun {a} na i1 i2 i3 i4 => ⟨i1, i2, i3, fun i f => by
    have kp := (R5.slot i).keep (σ' := σ) (w' := w.im I2) (H' := upd H2 y (.dK [((Sum.inr f1 : Key), V.ref q1), (Sum.inr f2, V.ref l)])) rfl (Same.refl _) rfl fun b fb => by
      obtain ⟨b1, b2, b3, b4⟩ := (R5.slot i).fr fb
      have b2 : upd w.H0 y (.dK []) b = none := b2
      have nb : b ≠ y := fun z => by rw [z, upd_same] at b2; cases b2
      exact ⟨upd_ne nb, b1, (upd_ne nb).symm.trans b2, b3⟩
    exact i4 i ((kp.2 a).mp f)⟩
  have nq6 := up nq1 nq5.i ((upd_ne nq1).symm.trans (show upd w.H0 y (.dK []) q1 = none from nq5.h0)) nq5.f nq5.o
  have nl6 := up nl2 nl.i ((upd_ne nl2).symm.trans ((upd_ne nl1).symm.trans nl0)) nl.f nl.o
  have hrec : RecAt (upd H2 y (.dK [((Sum.inr f1 : Key), V.ref q1), (Sum.inr f2, V.ref l)])) y (.dt [f1, f2]) [V.ref q1, V.ref l] := ⟨rfl, upd_same⟩
  have el2 : ∀ (k : Nat) (u : V) (t : T1), [V.ref q1, V.ref l][k]? = some u → [T1.dc kvs, T1.ls ds][k]? = some t → (k = 0 ∧ u = .ref q1 ∧ t = .dc kvs) ∨ (k = 1 ∧ u = .ref l ∧ t = .ls ds) := fun k u t e1 e2 => by
    match k with
    | 0 => simp at e1 e2; exact .inl ⟨rfl, e1.symm, e2.symm⟩
    | 1 => simp at e1 e2; exact .inr ⟨rfl, e1.symm, e2.symm⟩
    | k + 2 => simp at e1
  have rf : ∀ a, RecFp (upd H2 y (.dK [((Sum.inr f1 : Key), V.ref q1), (Sum.inr f2, V.ref l)])) y a → a = y := fun a f => by
    rcases f with f | ⟨C, fs, f⟩
    · exact f
    · rw [upd_same] at f; cases f
  have R7 := R6.putT (i := j) (v := .ref y) (t := .rc y (.dt [f1, f2]) [.dc kvs, .ls ds]) ⟨_, rfl, hrec, rfl, Nat.le_of_ble_eq_true rfl, by show ([f1, f2] : List Str).Nodup; simp; exact hne, fun k u t e1 e2 => by
      rcases el2 k u t e1 e2 with ⟨_, rfl, rfl⟩ | ⟨_, rfl, rfl⟩
      · exact ⟨⟨q1, us, rfl, H6q, hk, RpA.mono s2 ra, hz⟩, fun a f ⟨_, z⟩ => by rw [rf a f] at z; cases z; exact nq1 rfl⟩
      · exact ⟨⟨l, vs, rfl, H6l, ra2, hz2⟩, fun a f ⟨_, z⟩ => by rw [rf a f] at z; cases z; exact nl2 rfl⟩, fun k m u u' t t' a nkm e1 e2 e3 e4 f f' => by
      obtain ⟨_, f⟩ := f
      obtain ⟨_, f'⟩ := f'
      rcases el2 k u t e1 e3 with ⟨rfl, rfl, rfl⟩ | ⟨rfl, rfl, rfl⟩ <;> rcases el2 m u' t' e2 e4 with ⟨rfl, rfl, rfl⟩ | ⟨rfl, rfl, rfl⟩
      · exact nkm rfl
      · cases f; cases f'; exact nl1 rfl
      · cases f; cases f'; exact nl1 rfl
      · exact nkm rfl⟩ (fun a f => by
      rcases f with f | ⟨us', k, u, t, hq', e1, e2, f⟩
      · rw [rf a f]; exact ny6
      · rw [hq'.uni hrec] at e1
        obtain ⟨_, f⟩ := f
        rcases el2 k u t e1 e2 with ⟨_, rfl, rfl⟩ | ⟨_, rfl, rfl⟩
        · cases f; exact nq6
        · cases f; exact nl6)
  exact ⟨w.im I2, _, g2, r.1, e', r.2, R7, er, (Post.forget q el).mono (Same.trans s1 s2)⟩
end
end Pd

/-! Pg: super().__init__(e) where an exception is made. -/
namespace Pd
open PySem PySem.Spec PySem.W L2
/-- what the written part tells of such a class: C, its cell cc, its __init__ at f with the code at cda -/
structure SupK (P : Program) (K : PySem.W.Frag) (C f cc cda : Addr) (fd : FuncData) : Prop where
  oex : OexC K C
  fn : ∃ oc od osl, K.lookup f = some ⟨oc, od, .func fd, osl⟩
  cell : ∃ cl cld csl, K.lookup cc = some ⟨cl, cld, .cell (some (.ref C)), csl⟩
  code : ∃ ccl cdd vs ccs file tf, K.lookup cda = some ⟨ccl, cdd, .fields vs, ccs⟩ ∧ vs[2]? = some (.str file tf) ∧ ((P.main.file : Str) == file) = true
  cls : ∃ cd, clsIn K C = some cd
  sub : mroIn K C (.ref C) = some true
  subB : subIn K (.ref C) (.type "ValueError") = some true
  sup : ks_superIn K C C "__init__" = some (some (.builtin "ValueError.__init__"))
  opq : nsIn K cStatics "thirdparty.any" = some none
  top : (P.main.scope.names.lookup ("super" : Str)).isSome = false
section
variable {X : Cx} {C f cc cda a : Addr} {fd : FuncData} {ar : Arg} {pins : List (Addr × Obj)} {σ : St} {H : Hp} {s : Shared} {i : Nat} {e : Expr} {es : List Expr} {ta : TA} {p0 p1 ap pos : Pos} {body : List Stmt}
theorem cls_obj {K : PySem.W.Frag} {h : Heap} {cd : ClassData} (X : K.In h) (hc : clsIn K C = some cd) : ∃ oC, h.get? C = some oC ∧ oC.data = .cls cd := by
  unfold clsIn at hc
  split at hc
  · rename_i c d cd' sl ho
    cases hc
    exact ⟨_, X _ _ ho, rfl⟩
  · cases hc
theorem super_init (T : SupK X.prog X.K C f cc cda fd) (I : Inv X pins σ H s) (hg : Gl X "super") (hm : X.mg "super" = none) (hkc : X.env.kindOf "__class__" = some .free) (hcc : X.env.cells.lookup ("__class__" : Str) = some cc) (hfu : X.env.func = some f) (hco : X.env.code = .ref cda)
    (hp : (fd.params.posonlyargs ++ fd.params.args).head? = some ar) (hN : X.N[i]? = some ar.arg) (hka : X.env.kindOf ar.arg = some .local) (hv : Vis X.env.scope ar.arg) (si : σ[i]? = some (some (.ref a))) (ha : H a = some (exo a C none)) (hargs : PA X (e :: es) ta)
    (hr : ta σ H fun vs H1 => vs.length ≤ 1000 ∧ H1 = H) (hst : starEach (e :: es) X.env = (false, eval e X.env) :: starEach es X.env) (hpl : (backTo pos (starEach es X.env)).any (·.1) = false) {pl : Sem Bool}
    (he : eval (.Call (.Attribute (.Call (.Name "super" p0) [] [] p1) "__init__" ap) (e :: es) [] pos) X.env = (do
      let ov ← attributeBase (.Call (.Name "super" p0) [] [] p1) "__init__" X.env (eval (.Call (.Name "super" p0) [] [] p1) X.env)
      standAt ap.atName
      let (f, first) ← holding [ov] (getMethod ov "__init__" pl)
      callWith pos f first (backTo pos (starEach (e :: es) X.env)) [])) :
    _root_.PySem.wpAt (model X.prog X.w) X.A (.func body X.env) (eval (.Call (.Attribute (.Call (.Name "super" p0) [] [] p1) "__init__" ap) (e :: es) [] pos) X.env) (fun _ s' => Inv X pins σ H s') X.xe s := by
  obtain ⟨oc, od, osl, lf⟩ := T.fn
  obtain ⟨cl, cld, csl, lc⟩ := T.cell
  obtain ⟨ccl, cdd, vs, ccs, file, tf, lcd, hvs, hfile⟩ := T.code
  obtain ⟨cd, hcd⟩ := T.cls
  obtain ⟨mb, hb1, hb2⟩ := I.mod.blt
  refine ks_wpAt_MethodCall (ks_wpAt_super_base (env := X.env) hg hkc (by decide) hfu (I.kIn _ _ lf) rfl hp hco (I.kIn _ _ lcd) rfl hvs hfile T.top ?_) he
  -- super
  refine ks_loadName_global I.ok.kind hg (Calls.loadGlobal_builtin (by rw [I.ok.glob]; exact I.mod.glob.keeps I.bk) hm (by rw [I.ok.blt]; exact hb1.keeps I.bk) ((hb2 "super" (by decide)).trans (show bootBuiltins "super" = some (.type "super") by decide +kernel)) ⟨rfl, ?_⟩)
  -- __class__
  refine wpAny_loadName_free I.ok.kind hkc hcc ⟨_, I.kIn _ _ lc, rfl⟩ ?_
  -- self
  obtain ⟨m, hn, hl⟩ := I.loc
  obtain ⟨u, ru, lk⟩ := hl i ar.arg (.ref a) hN si hv
  obtain rfl : u = Value.ref a := ru
  have hma : m ar.arg = some (.ref a) := by
    rcases lk with ⟨_, h⟩ | ⟨h, _⟩
    · exact h
    · rcases h with h | h <;> (rw [hka] at h; cases h)
  refine wpAny_loadName_local I.ok.kind hka hn hma ?_
  obtain ⟨oC, hC, hCd⟩ := cls_obj I.kIn hcd
  obtain ⟨t1, ho⟩ := exo_at I.hok ha
  obtain ⟨hh, g, d, t, os⟩ := s
  refine ks_wpAny_isType_cls hC hCd ⟨rfl, ?_⟩
  refine ks_wpAny_call_super hC hCd ho rfl (fun c z => nomatch z) (looks_mroIn I.kIn T.sub) (fun h' e1 k1 => ?_)
  have I1 := ClX.pin_new (t' := t) (a := hh.objs.size) I k1 (Nat.le_refl _) e1 (fun v z => nomatch z)
  have hso := ClX.pin_at I1
  obtain ⟨t2, ho1⟩ := exo_at I1.hok ha
  have IA : InstAt h' a { cls := .ref C, dict := none, data := .fields #[.ref t2, .none, .none, .none, .bool false, .none] } C none := ⟨ho1, rfl, rfl, trivial⟩
  have hIs : Looks (model X.prog X.w) h' (isInstance (.ref a) (.type "ValueError")) true := IA.type.andThen (looks_subIn I1.kIn T.subB)
  have hsup := T.sup
  unfold ks_superIn at hsup
  rw [hcd] at hsup
  refine kxs_getMethod kxs_ValueError hso (looks_opaque I1.kIn T.opq) (l₀ := cd.mro) ?_ rfl I1.kIn hsup hIs (ks_ne I1.kIn IA hcd) (by decide) ?_
  · exact fun A Q E s k q => wpAny_bind ((looks_clsIn I1.kIn hcd) A _ E s k (wpAny_pure q))
  have k2 : ∀ b o, h'.get? b = some o → (h'.push (kxs_mw "ValueError.__init__" a)).get? b = some o := fun b o z => Heap.get?_push_of_some _ z
  have I2 := ClX.pin_new (t' := t + 1) (a := h'.objs.size) (o := kxs_mw "ValueError.__init__" a) (h' := h'.push (kxs_mw "ValueError.__init__" a)) I1 k2 (Nat.le_refl _) (Heap.get?_push_at rfl rfl) (fun v z => nomatch z)
  refine kxs_callWith (i := "ValueError.__init__") (x := a) (by rw [hst]; show (false || (backTo pos (starEach es X.env)).any (·.1)) = false; rw [hpl]; rfl) ?_
  have hA := hargs.run pos _ _ σ H _ I2 hr
  rw [hst] at hA ⊢
  refine Calls.evalArgs_plain (thn hA fun us s3 ⟨ws, H1, I3, rv, hlen, eH⟩ => ?_)
  subst eH
  refine ⟨ClX.pin_at I3, ?_⟩
  obtain ⟨nm, q, N, bs, bm, sn, sub, ab, col, dd, k0, k1, k2, k3, k5, hCK, hbm⟩ := T.oex.cls
  obtain ⟨t3, ho3⟩ := exo_at I3.hok ha
  have hu := ClX.pin_at I3
  obtain ⟨h3, g3, d3, tk3, os3⟩ := s3
  show wpAny _ _ (call (.ref h'.objs.size) ([] ++ us)) _ _ _
  refine wpAny_call (codeAny_of_tree ?_)
  show wpAny _ X.A.in1 (callAny (.ref h'.objs.size) ⟨us, []⟩) _ _ _
  simp only [callAny]
  refine wpAny_bind (wpAny_load hu ?_)
  simp only [kxs_mw, show (Value.type "method-wrapper" == Value.type "method" || Value.type "method-wrapper" == Value.type "builtin_function_or_method" || Value.type "method-wrapper" == Value.type "method-wrapper") = true by decide, if_true]
  refine KFB.if_so (by decide) ?_
  refine wpAny_bind (check_bound_init F.excBase_ValueError.toExcCallFacts (I3.kIn _ _ hCK) ho3 rfl ?_)
  refine wpAny_bind (wpAny_pure (wpAny_pure ?_))
  refine ⟨plainId_quiet F.excBase_ValueError.init.plain _, codeAny_builtin F.excBase_ValueError.initEntry ?_⟩
  refine exc_init_tree (cls := .ref C) (t0 := t3) (dv := none) (c2 := .none) (c3 := .none) (b4 := .bool false) ho3 (by rw [← rv.length, sizeLine_eq]; omega) fun h4 k4 e4 _ => ?_
  have J := I3.write (t' := tk3) (x := a) (e := a) (o := exo a C none) (by rw [ha]; exact True.intro) (.inl rfl) k4 ⟨_, e4⟩ (exo_ok e4)
  have eu : upd H1 a (exo a C none) = H1 := upd_fix ha
  rw [eu] at J
  exact ClX.unpin (ClX.unpin J)
end
end Pd

/-! Pg: a class whose __init__ says super().__init__('..' + w) and keeps w. -/
namespace Pd
open PySem PySem.Spec PySem.W L2 NdefX
/-- what its __init__ promises -/
def spSup (C : Addr) (fld : Str) : Sp := fun vs H Q _ => ∃ (a : Addr) (s : Str), vs = [.ref a, .str s] ∧ s.length ≤ 100 ∧ H a = some (exo a C none) ∧ ∀ dx, H dx = none → dx ≠ a → Q .non (upd (upd H dx (exd dx [(fld, .str s)])) a (exo a C (some dx)))
theorem fn_super {P : Program} {w : World} {K : PySem.W.Frag} {mg : Str → Option Value} {base : Heap} {C f cc : Addr} {F : NF} {doc pm ctv : Value} {fld ws : Str} {j : Nat} {p0 p1 ap p2 p3 p4 p5 p6 p7 p8 p9 p10 : Pos} {msg : Str} {ar : Arg} {k : Nat}
    (T : SupK P K C f cc F.c (F.fd doc pm ctv)) (hcode : codeIn K (.ref F.c) F.qual = true) (hcl : F.cl = [(("__class__" : Str), cc)]) (S : NScope ["self", ws, "__class__"] ["self", ws] ["__class__"] F.scope)
    (hbody : F.body = [.Expr (.Call (.Attribute (.Call (.Name "super" p0) [] [] p1) "__init__" ap) [.BinOp (.Constant (.str msg) j p2) .Add (.Name ws p3) p4] [] p5) p6, .Assign [.Attribute (.Name "self" p7) fld p8] (.Name ws p9) p10])
    (hm : mg "super" = none) (hg : F.scope.names.lookup ("super" : Str) = some .globalImplicit) (har : (F.params.posonlyargs ++ F.params.args).head? = some ar) (har2 : ar.arg = "self") (hfld : findIn K (.ref C) fld = some none) (hmsg : msg.length ≤ 1000)
    (h1 : (ws == ("__debug__" : Str)) = false) (h2 : (ws == ("__classdict__" : Str)) = false) (hb : Binds K (F.fd doc pm ctv) ["self", ws] []) (hev : ∀ env : PySem.Env, ∃ pl : Sem Bool, eval (.Call (.Attribute (.Call (.Name "super" p0) [] [] p1) "__init__" ap) [.BinOp (.Constant (.str msg) j p2) .Add (.Name ws p3) p4] [] p5) env = (do
      let ov ← attributeBase (.Call (.Name "super" p0) [] [] p1) "__init__" env (eval (.Call (.Name "super" p0) [] [] p1) env)
      standAt ap.atName
      let (f, first) ← holding [ov] (getMethod ov "__init__" pl)
      callWith p5 f first (backTo p5 (starEach [.BinOp (.Constant (.str msg) j p2) .Add (.Name ws p3) p4] env)) [])) : FnOk P w K mg base CX0 (k + 1) f (F.fd doc pm ctv) ["self", ws] (spSup C fld) := by
  refine ⟨fun vs H Q E ⟨a, s, e, _⟩ => by rw [e]; rfl, fun A outer s H args us vs Q E hr e0 hbd r hsp => ?_⟩
  obtain ⟨a, str, rfl, hlen, ha, kk⟩ := hsp
  have KX : K.In s.heap := e0.mod.kin.keeps fun b o e => (e0.bs b o e).1
  have lim : s.heap.NoLimit := e0.mod.nolimit.keeps fun b o e => (e0.bs b o e).1
  obtain ⟨oc, od, osl, lk⟩ := T.fn
  obtain ⟨cl, cld, csl, lc⟩ := T.cell
  have hcc : s.heap.get? cc = some ⟨cl, cld, .cell (some (.ref C)), csl⟩ := KX _ _ lc
  have hH : H cc = none := (e0.bs cc _ (e0.mod.kin _ _ lc)).2
  have hcl1 : ∀ y c, F.cl.lookup y = some c → y = "__class__" ∧ c = cc := fun y c e => by
    rw [hcl] at e
    by_cases z : y = "__class__"
    · subst z
      simp [List.lookup] at e
      exact ⟨rfl, e.symm⟩
    · have ne : (y == ("__class__" : Str)) = false := beq_false_of_ne z
      simp only [List.lookup, ne] at e
      cases e
  have CA : CellsAt F.cl ["__class__"] [none] s.heap H := {
    len := rfl
    all := fun y c e => by
      obtain ⟨_, rfl⟩ := hcl1 y c e
      exact ⟨hH, _, _, hcc, rfl⟩
    inj := fun x y c e1 e2 => (hcl1 x c e1).1.trans (hcl1 y c e2).1.symm
    has := fun i y e => by
      cases i with
      | zero =>
        simp at e; subst e
        refine ⟨cc, by rw [hcl]; simp [List.lookup], fun v e => ?_⟩
        simp at e
      | succ i => simp at e }
  refine codeAny_call_function hr.depth (KX _ _ lk) rfl S.co S.gen rfl (codeRec_of KX hcode) (hbd _ _ _ _ ?_)
  refine wpAny_newFunctionEnv S.nocell (fun ⟨n, _⟩ hy => S.par n (List.of_mem_zip hy).1) (fun h₁ hns hsb => ⟨lim.fresh _ hsb, ?_⟩) S.kind
  show codeAny _ _ (.func F.body (envF F f s.heap.objs.size)) _ _
  refine ks_codeAny_funcAt ?_
  have kp : ∀ b o, s.heap.get? b = some o → h₁.get? b = some o := fun b o e => hsb.extBut b o (Nat.ne_of_lt (Heap.lt_size e)) (Heap.get?_push_of_some _ e)
  have I : L2.Inv (ncx CX0 P w K mg base ["self", ws, "__class__"] F f A outer s H E) [] (startF ["self", ws, "__class__"] [.ref a, .str str] [none]) H { s with heap := h₁, toks := s.toks + ((["self", ws] : List Str).zip us).length } := inv_startN S hr.hd e0 rfl r CA hns kp
  have gl : Gl (ncx CX0 P w K mg base ["self", ws, "__class__"] F f A outer s H E) "super" := hg
  have ex : ∀ y : Str, (ncx CX0 P w K mg base ["self", ws, "__class__"] F f A outer s H E).env.kindOf y = F.scope.names.lookup y := fun y => rfl
  have pS : F.scope.names.lookup ("self" : Str) = some .local := S.par "self" (by simp)
  have pW : F.scope.names.lookup ws = some .local := S.par ws (by simp)
  have pC : F.scope.names.lookup ("__class__" : Str) = some .free := S.frk "__class__" (by simp)
  rw [hbody]
  obtain ⟨pl, hev⟩ := hev (ncx CX0 P w K mg base ["self", ws, "__class__"] F f A outer s H E).env
  refine ks_wpAt_execs_cons (ks_wpAt_Expr_any (PySem.wpAt_mono (super_init (C := C) (f := f) (cc := cc) (cda := F.c) (fd := F.fd doc pm ctv) (ar := ar) (i := 0) (a := a) T I gl hm pC (by show F.cl.lookup _ = _; rw [hcl]; simp [List.lookup]) rfl rfl har (by rw [har2]; rfl) (by rw [har2]; exact pS) (by rw [har2]; exact .inl pS) rfl
    ha (pa_cons (pe_op op_add_str pe_str (pe_var (i := 1) rfl (.inl pW) h1 h2)) pa_nil rfl) ?rd rfl rfl hev) (fun v s' J => ?_) fun _ _ z => z) (by show (F.scope.kind == .module && _) = false; rw [S.kind]; rfl) rfl)
  case rd => exact ⟨.str str, rfl, msg, str, rfl, rfl, by rw [sizeLine_eq]; omega, Nat.le_of_ble_eq_true rfl, rfl⟩
  -- self.fld = w
  refine wpAt_of_wpAny ?_
  have hps : PSs (ncx CX0 P w K mg base ["self", ws, "__class__"] F f A outer s H E) [.Assign [.Attribute (.Name "self" p7) fld p8] (.Name ws p9) p10] _ := pss_one (ps_ost (pe_var (i := 0) rfl (.inl pS)) (pe_var (i := 1) rfl (.inl pW) h1 h2) rfl)
  refine wpAny_mono (hps.run [] s' (startF ["self", ws, "__class__"] [.ref a, .str str] [none]) H { nx := fun _ H' => Q .non H', rt := Q } J ?rd2) (fun fl s3 hs => ?_) fun _ _ z => z
  case rd2 => exact ⟨.str str, rfl, .ref a, rfl, a, C, rfl, T.oex, hfld, .inl ⟨ha, kk⟩⟩
  have fin : ∀ {σ' : St} {H' : Hp} {v : V} {u : Value}, L2.Inv (ncx CX0 P w K mg base ["self", ws, "__class__"] F f A outer s H E) [] σ' H' s3 → L2.RelV v u → Q v H' → CE outer P w H s Q u s3 :=
    fun {σ' H' v u} J rv q => ⟨v, H', J.os, J.bare, J.base, J.hok, rv, q⟩
  cases fl with
  | ret u =>
    obtain ⟨v, σ', H', J, rv, q⟩ := hs
    exact fin J rv q
  | next =>
    obtain ⟨σ', H', J, q⟩ := hs
    exact fin (v := V.non) (u := Value.none) J rfl q
  | brk =>
    obtain ⟨_, _, _, q⟩ := hs
    exact False.elim q
  | cont =>
    obtain ⟨_, _, _, q⟩ := hs
    exact False.elim q
end Pd

/-! Pg: expressions that may raise an exception with a word; defs that do. -/
namespace Pd
open PySem PySem.Spec PySem.W L2
open Classical
abbrev MEX (G : Type) := Env → G → Option (Except Str D × G)
abbrev MLX (G : Type) := Env → G → Option (Except Str (List D) × G)
section
variable {G : Type} {X : Cx} {S : Gs G} {a b c e : Expr} {es : List Expr} {pos : Pos} {ma mb me mi : ME G} {mt mu : MT G} {ml : ML G} {tg : Expr} {st : Stmt} {mx : MEX G} {mlx : MLX G}
variable {K : PySem.W.Frag} {w : Wd} {env env' : Env} {g g' : G} {σ : St} {H H' I I' : Hp} {W : WX} {x : Str}
def ResE (K : PySem.W.Frag) (S : Gs G) (W : WX) (x : Str) (w : Wd) (env : Env) (g' : G) (σ : St) (Q : VK) : Except Str D → Prop
  | .ok d => ∀ v I' H', Same w.I I' → Rel K S (w.im I') env g' σ H' → Rp K I' v d → Q v H'
  | .error wd => ∀ I' H', Same w.I I' → Rel K S (w.im I') env g' σ H' → XwP K W x wd σ H'
def ResF (K : PySem.W.Frag) (S : Gs G) (W : WX) (x : Str) (w : Wd) (env : Env) (g' : G) (σ : St) (Q : VK) : Except Str (List D) → Prop
  | .ok d => ∀ p vs I' H', Same w.I I' → Rel K S (w.im I') env g' σ H' → Nob (w.im I') env σ H' p → H' p = some (.lst vs) → RpA K I' vs d → d.length ≤ sizeLine → Q (.ref p) H'
  | .error wd => ∀ I' H', Same w.I I' → Rel K S (w.im I') env g' σ H' → XwP K W x wd σ H'
def tEX (K : PySem.W.Frag) (S : Gs G) (W : WX) (x : Str) (m : MEX G) : TE := fun σ H Q => ∃ w env g r g', Rel K S w env g σ H ∧ m env g = some (r, g') ∧ ResE K S W x w env g' σ Q r
def tFX (K : PySem.W.Frag) (S : Gs G) (W : WX) (x : Str) (m : MLX G) : TE := fun σ H Q => ∃ w env g r g', Rel K S w env g σ H ∧ m env g = some (r, g') ∧ ResF K S W x w env g' σ Q r
abbrev DEX (X : Cx) (S : Gs G) (W : WX) (x : Str) (e : Expr) (m : MEX G) : Prop := PE X e (tEX X.K S W x m)
abbrev DFX (X : Cx) (S : Gs G) (W : WX) (x : Str) (e : Expr) (m : MLX G) : Prop := PE X e (tFX X.K S W x m)
def mLX (ml : MLX G) : MEX G := fun env g => match ml env g with
  | some (.ok ds, g1) => some (.ok (.list ds), g1)
  | some (.error wd, g1) => some (.error wd, g1)
  | none => none
theorem dex_fresh (h : DFX X S W x e mlx) : DEX X S W x e (mLX mlx) := PE.imp h fun σ H Q ⟨w, env, g, r, g', R, e, k⟩ => by
  unfold mLX at e
  split at e
  · rename_i ds g1 e1
    cases e
    exact ⟨w, env, g, .ok ds, g', R, e1, fun p vs I' H' s' R' n hp ra z => k (.ref p) _ H' (Same.trans s' (same_new n.i)) (R'.freeze n hp) (.lst upd_same (ra.mono (same_new n.i)) z)⟩
  · rename_i wd g1 e1
    cases e
    exact ⟨w, env, g, .error wd, g', R, e1, fun I' H' s' R' => k I' H' s' R'⟩
  · cases e
/-- a + b: b may raise -/
def mCatX (ma : ME G) (mb : MEX G) : MLX G := fun env g => bD (ma env g) fun x g1 => match mb env g1 with
  | some (.ok y, g2) => match x, y with
    | .list xs, .list ys => if xs.length + ys.length ≤ sizeLine then some (.ok (xs ++ ys), g2) else none
    | _, _ => none
  | some (.error wd, g2) => some (.error wd, g2)
  | none => none
theorem dfx_cat (ha : DE X S a ma) (hb : DEX X S W x b mx) : DFX X S W x (.BinOp a .Add b pos) (mCatX ma mx) := PE.imp (pe_op op_cat ha hb) fun σ H Q ⟨w, env, g, r, g', R, e, k⟩ => by
  obtain ⟨d, g1, e1, e⟩ := bD_some e
  split at e
  · rename_i y g2 e2
    split at e
    · rename_i xs ys
      split at e
      · rename_i hz
        cases e
        refine ⟨w, env, g, _, g1, R, e1, fun v I1 H1 s1 R1 p1 => ⟨w.im I1, env, g1, _, g', R1, e2, fun u I2 H2 s2 R2 p2 => ?_⟩⟩
        have s2 : Same I1 I2 := s2
        cases p1 with
        | lst hp ra _ =>
          cases p2 with
          | lst hq rb _ =>
            exact ⟨_, _, _, _, rfl, rfl, R2.eI _ _ (s2 _ _ hp), R2.eI _ _ hq, by rw [ra.len, rb.len]; exact hz, fun p h0 => k p _ I2 _ (s1.trans s2) (R2.alloc h0) (R2.nob h0) upd_same ((ra.mono s2).append rb) (by rw [List.length_append]; exact hz)⟩
      · cases e
    · cases e
  · rename_i wd g2 e2
    cases e
    exact ⟨w, env, g, _, g1, R, e1, fun v I1 H1 s1 R1 p1 => ⟨w.im I1, env, g1, .error wd, g', R1, e2, fun I2 H2 s2 R2 => k I2 H2 (s1.trans s2) R2⟩⟩
  · cases e
/-! ### calls of defs that may raise -/
def spNX (K : PySem.W.Frag) (x : Str) (F : List D → Option (Except Str (List D))) : Sp := fun vs H Q E => ∃ I ds r, Same I H ∧ RpA K I vs ds ∧ F ds = some r ∧ match r with
  | .ok d => ∀ p us I' H', Pst I H I' H' → H p = none → I' p = none → H' p = some (.lst us) → RpA K I' us d → d.length ≤ sizeLine → Q (.ref p) H'
  | .error wd => ∀ I' H', Pst I H I' H' → ∀ (C d : Addr), PySem.W.nsIn K mainGlobals x = some (some (.ref C)) → H' d = some (.xd [(("word" : Str), .str wd)]) → SOk wd → E (.ref C) (some d) H'
def spPX (K : PySem.W.Frag) (x : Str) (F : List D → Option (Except Str D)) : Sp := fun vs H Q E => ∃ I ds r, Same I H ∧ RpA K I vs ds ∧ F ds = some r ∧ match r with
  | .ok d => ∀ v I' H', Pst I H I' H' → Rp K I' v d → Q v H'
  | .error wd => ∀ I' H', Pst I H I' H' → ∀ (C d : Addr), PySem.W.nsIn K mainGlobals x = some (some (.ref C)) → H' d = some (.xd [(("word" : Str), .str wd)]) → SOk wd → E (.ref C) (some d) H'
structure Def1X (P : Program) (wd : World) (K : PySem.W.Frag) (mg : Str → Option Value) (base : Heap) (y : Str) (ps : List Str) (k : Nat) (sp : Sp) : Prop where
  ex : ∃ f fd, FnOk P wd K mg base (L2.CX P wd) k f fd ps sp ∧ mg y = some (.ref f) ∧ PySem.W.keepIn K (.ref f) = true ∧ Binds K fd ps []
def mCallX {α : Type} (F : List D → Option α) (ml : ML G) : Env → G → Option (α × G) := fun env g => bD (ml env g) fun ds g1 => (F ds).map (·, g1)
theorem call_NX {y : Str} {ps : List Str} {k : Nat} {F : List D → Option (Except Str (List D))} {p : Pos} (tk : Takes X W) (h : Def1X X.prog X.w X.K X.mg X.base y ps k (spNX X.K x F)) (hr : Room k X.A) (hg : Gl X y) (ha : DA X S (e :: es) ml) (hdb : (y == ("__debug__" : Str)) = false := by decide)
    (he : starEach (e :: es) X.env = (false, eval e X.env) :: starEach es X.env := by rfl) (hpl : (backTo pos (starEach es X.env)).any (·.1) = false := by rfl) : DFX X S W x (.Call (.Name y p) (e :: es) [] pos) (mCallX F ml) := by
  obtain ⟨f, fd, FF, hm, hk, hB⟩ := h.ex
  refine PE.imp (pe_callS (E := WE W) FF hr hg hm hk hB (fun σ => passAt tk σ) ha hdb he hpl) fun σ H Q q => ?_
  obtain ⟨w, env, g, r, g', R, e, k⟩ := q
  obtain ⟨xs, g1, e1, e⟩ := bD_some e
  obtain ⟨e3, rfl⟩ := map_some e
  refine ⟨w, env, g, xs, g', R, e1, fun vs I1 H1 s1 R1 p1 => ?_⟩
  refine ⟨I1, xs, r, R1.eI, p1, e3, ?_⟩
  cases r with
  | ok d => exact fun p us I' H' ps h0 hi hp ra z => k p us I' H' (s1.trans ps.eI) (R1.pst ps) (R1.nobP h0 ps hi) hp ra z
  | error wd => exact fun I' H' ps => k I' H' (s1.trans ps.eI) (R1.pst ps)
theorem call_PX {y : Str} {ps : List Str} {k : Nat} {F : List D → Option (Except Str D)} {p : Pos} (tk : Takes X W) (h : Def1X X.prog X.w X.K X.mg X.base y ps k (spPX X.K x F)) (hr : Room k X.A) (hg : Gl X y) (ha : DA X S (e :: es) ml) (hdb : (y == ("__debug__" : Str)) = false := by decide)
    (he : starEach (e :: es) X.env = (false, eval e X.env) :: starEach es X.env := by rfl) (hpl : (backTo pos (starEach es X.env)).any (·.1) = false := by rfl) : DEX X S W x (.Call (.Name y p) (e :: es) [] pos) (mCallX F ml) := by
  obtain ⟨f, fd, FF, hm, hk, hB⟩ := h.ex
  refine PE.imp (pe_callS (E := WE W) FF hr hg hm hk hB (fun σ => passAt tk σ) ha hdb he hpl) fun σ H Q q => ?_
  obtain ⟨w, env, g, r, g', R, e, k⟩ := q
  obtain ⟨xs, g1, e1, e⟩ := bD_some e
  obtain ⟨e3, rfl⟩ := map_some e
  refine ⟨w, env, g, xs, g', R, e1, fun vs I1 H1 s1 R1 p1 => ?_⟩
  refine ⟨I1, xs, r, R1.eI, p1, e3, ?_⟩
  cases r with
  | ok d => exact fun v I' H' ps r => k v I' H' (s1.trans ps.eI) (R1.pst ps) r
  | error wd => exact fun I' H' ps => k I' H' (s1.trans ps.eI) (R1.pst ps)
/-- .. that does not raise -/
theorem passX0 : Passes (L2.CX X.prog X.w) X (fun _ _ _ => False) := fun _ _ _ _ _ _ _ c => by
  obtain ⟨_, _, _, _, _, _, _, _, _, _, _, _, z⟩ := c
  exact z.elim
def okF {α : Type} (F : List D → Option (Except Str α)) (ds : List D) : Option α := match F ds with
  | some (.ok z) => some z
  | _ => none
theorem okF_some {α : Type} {F : List D → Option (Except Str α)} {ds : List D} {z : α} (h : okF F ds = some z) : F ds = some (.ok z) := by
  unfold okF at h
  split at h
  · rename_i e; cases h; exact e
  · cases h
theorem call_NXok {y : Str} {ps : List Str} {k : Nat} {F : List D → Option (Except Str (List D))} {p : Pos} (h : Def1X X.prog X.w X.K X.mg X.base y ps k (spNX X.K x F)) (hr : Room k X.A) (hg : Gl X y) (ha : DA X S (e :: es) ml) (hdb : (y == ("__debug__" : Str)) = false := by decide)
    (he : starEach (e :: es) X.env = (false, eval e X.env) :: starEach es X.env := by rfl) (hpl : (backTo pos (starEach es X.env)).any (·.1) = false := by rfl) : DF X S (.Call (.Name y p) (e :: es) [] pos) (mCallF (okF F) ml) := by
  obtain ⟨f, fd, FF, hm, hk, hB⟩ := h.ex
  refine PE.imp (pe_call FF hr hg hm hk hB .nil passX0 ha hdb he hpl) fun σ H Q q => ?_
  obtain ⟨w, env, g, d, g', R, e, k⟩ := q
  obtain ⟨xs, g1, e1, e⟩ := bD_some e
  obtain ⟨e3, rfl⟩ := map_some e
  refine ⟨w, env, g, xs, g', R, e1, fun vs I1 H1 s1 R1 p1 => ?_⟩
  exact ⟨I1, xs, .ok d, R1.eI, by rw [List.append_nil]; exact p1, okF_some e3, fun p us I' H' ps h0 hi hp ra z => k p us I' H' (s1.trans ps.eI) (R1.pst ps) (R1.nobP h0 ps hi) hp ra z⟩
theorem call_PXok {y : Str} {ps : List Str} {k : Nat} {F : List D → Option (Except Str D)} {p : Pos} (h : Def1X X.prog X.w X.K X.mg X.base y ps k (spPX X.K x F)) (hr : Room k X.A) (hg : Gl X y) (ha : DA X S (e :: es) ml) (hdb : (y == ("__debug__" : Str)) = false := by decide)
    (he : starEach (e :: es) X.env = (false, eval e X.env) :: starEach es X.env := by rfl) (hpl : (backTo pos (starEach es X.env)).any (·.1) = false := by rfl) : DE X S (.Call (.Name y p) (e :: es) [] pos) (mCall (okF F) ml) := by
  obtain ⟨f, fd, FF, hm, hk, hB⟩ := h.ex
  refine PE.imp (pe_call FF hr hg hm hk hB .nil passX0 ha hdb he hpl) fun σ H Q q => ?_
  obtain ⟨w, env, g, d, g', R, e, k⟩ := q
  obtain ⟨xs, g1, e1, e⟩ := bD_some e
  obtain ⟨e3, rfl⟩ := map_some e
  refine ⟨w, env, g, xs, g', R, e1, fun vs I1 H1 s1 R1 p1 => ?_⟩
  exact ⟨I1, xs, .ok d, R1.eI, by rw [List.append_nil]; exact p1, okF_some e3, fun v I' H' ps r => k v I' H' (s1.trans ps.eI) (R1.pst ps) r⟩
/-! ### statements -/
def mRetFX (x : Str) (ml : MLX G) : MX G := fun env g => match ml env g with
  | some (.ok ds, g1) => some (.nm (.rl ds), env, g1)
  | some (.error wd, g1) => some (.xw x wd, env, g1)
  | none => none
theorem dsx_retF (h : DFX X S W x e mlx) : DSx X S W (.Return (some e) pos) (mRetFX x mlx) := PS.imp (ps_ret h) fun D σ H ⟨w, env, g, c, env', g', R, e, k⟩ => by
  unfold mRetFX at e
  split at e
  · rename_i ds g1 e1
    cases e
    exact ⟨w, env, g, .ok ds, g', R, e1, fun p vs I' H' s' R' n hp ra hz => k p vs σ I' H' s' R' n hp ra hz⟩
  · rename_i wd g1 e1
    cases e
    exact ⟨w, env, g, .error wd, g', R, e1, fun I' H' s' R' => k σ I' H' s' R'⟩
  · cases e
def mDropX (x : Str) (me : MEX G) : MX G := fun env g => match me env g with
  | some (.ok _, g1) => some (.nm .nx, env, g1)
  | some (.error wd, g1) => some (.xw x wd, env, g1)
  | none => none
theorem dsx_expr (h : DEX X S W x e mx) (hs : swapsWith e none pos.line X.env = pure false := by rfl) : DSx X S W (.Expr e pos) (mDropX x mx) := PS.imp (ps_expr h hs) fun D σ H ⟨w, env, g, c, env', g', R, e, k⟩ => by
  unfold mDropX at e
  split at e
  · rename_i ds g1 e1
    cases e
    exact ⟨w, env, g, .ok ds, g', R, e1, fun v I' H' s' R' p => k σ I' H' s' R'⟩
  · rename_i wd g1 e1
    cases e
    exact ⟨w, env, g, .error wd, g', R, e1, fun I' H' s' R' => k σ I' H' s' R'⟩
  · cases e
end
end Pd

/-! Pg: raise, extend, for, try; defs that may raise. -/
namespace Pd
open PySem PySem.Spec PySem.W L2
open Classical
section
variable {G : Type} {X : Cx} {S : Gs G} {a b c e : Expr} {es : List Expr} {pos : Pos} {ma mb me mi : ME G} {mt mu : MT G} {ml : ML G} {tg iter : Expr} {st : Stmt} {mx : MEX G} {mlx : MLX G} {body : List Stmt}
variable {K : PySem.W.Frag} {w : Wd} {env env' : Env} {g g' : G} {σ : St} {H H' I I' : Hp} {W : WX} {x : Str}
/-- a class over ValueError whose __init__ keeps a word -/
structure Exw (P : Program) (wd : World) (K : PySem.W.Frag) (mg : Str → Option Value) (base : Heap) (x : Str) (k : Nat) : Prop where
  ex : ∃ (C fI : Addr) (fd : FuncData), OexC K C ∧ findIn K (.ref C) "__init__" = some (some (.ref fI)) ∧ typeIn K (.ref fI) = some (.type "function") ∧ FnOk P wd K mg base CX0 k fI fd ["self", "word"] (spSup C "word") ∧ Binds K fd ["self", "word"] [] ∧
    mg x = some (.ref C) ∧ nsIn K mainGlobals x = some (some (.ref C)) ∧ XfC K C ∧ findIn K (.ref C) "word" = some none ∧ exmOne K (.ref C) (.ref C) = some true
def mRaise (x : Str) (me : ME G) : MX G := fun env g => bD (me env g) fun d g1 => match d with
  | .str wd => if wd.length ≤ 100 then some (.xw x wd, env, g1) else none
  | _ => none
theorem dsx_raise {k : Nat} {p cp : Pos} (hc : X.calm = true) (tk : Takes X W) (sx : Exw X.prog X.w X.K X.mg X.base x k) (hr : Room (k + 1) X.A) (hg : Gl X x) (he : DE X S e me) (hdb : (x == ("__debug__" : Str)) = false := by decide)
    (hst : starEach [e] X.env = (false, eval e X.env) :: starEach [] X.env := by rfl) (hpl : (backTo cp (starEach [] X.env)).any (·.1) = false := by rfl) : DSx X S W (.Raise (some (.Call (.Name x p) [e] [] cp)) none pos) (mRaise x me) := by
  obtain ⟨C, fI, fd, T, iC, tI, F1, hB, hm, hn, _⟩ := sx.ex
  refine PS.imp (ps_raise hc tk (pmk_oex T iC tI F1 hr hB .nil pass0 hg hm (da_cons (S := S) he da_nil hst) hdb hst hpl)) fun D σ H ⟨w, env, g, c, env', g', R, e, k⟩ => ?_
  obtain ⟨d, g1, e1, e⟩ := bD_some e
  split at e
  case h_2 => cases e
  rename_i wd
  split at e
  case isFalse => cases e
  rename_i hz
  cases e
  refine ⟨w, env, g, [.str wd], g', R, ?_, fun us I1 H1 s1 R1 ra => ?_⟩
  · show bD (me env g) (fun x g1 => bD (mNil env g1) fun xs g2 => some (x :: xs, g2)) = some ([.str wd], g')
    rw [e1]; rfl
  cases ra with
  | cons r q =>
    cases q
    cases r with
    | str hx =>
      refine ⟨by show 1 ≤ 1000; decide, fun a ha => ?_⟩
      refine ⟨a, wd, rfl, hz, upd_same, fun dx h0 hne => ?_⟩
      rw [upd_ne hne] at h0
      refine ⟨rfl, dx, _, upd_same, (upd_ne hne).trans upd_same, h0, ?_⟩
      have eH : upd (del (upd (upd (upd H1 a (exo a C none)) dx (exd dx [(("word" : Str), .str wd)])) a (exo a C (some dx))) a) dx (.xd [(("word" : Str), .str wd)]) = upd H1 dx (.xd [(("word" : Str), .str wd)]) := by
        funext b
        by_cases h1 : b = dx
        · subst h1; rw [upd_same, upd_same]
        · rw [upd_ne h1, upd_ne h1]
          by_cases h2 : b = a
          · subst h2; rw [del_same, ha]
          · rw [del_ne h2, upd_ne h2, upd_ne h1, upd_ne h2]
      rw [eH]
      exact k σ I1 _ s1 (R1.alloc h0) C dx hn upd_same hx
/-- x.extend(e), e may raise -/
def mExtX (x : Str) (j : Nat) (me : MEX G) : MX G := fun env g => match me env g with
  | some (.ok d, g1) => match env.at j, d with
    | .ow ds, .list es => if ds.length + es.length ≤ sizeLine then some (.nm .nx, env.set j (.ow (ds ++ es)), g1) else none
    | _, _ => none
  | some (.error wd, g1) => match env.at j with
    | .ow ds => some (.xw x wd, env, g1)
    | _ => none
  | none => none
theorem dsx_extend (j : Nat) {y : Str} {xp ap cp : Pos} (he : DEX X S W x e mx) (hN : X.N[j]? = some y := by rfl) (hv : Vis X.env.scope y := by first | exact Or.inl rfl | exact Or.inr (Or.inl rfl) | exact Or.inr (Or.inr rfl)) (hd : (y == ("__debug__" : Str)) = false := by decide)
    (hcd : (y == ("__classdict__" : Str)) = false := by decide)
    (hbase : attributeBase (.Name y xp) "extend" X.env (eval (.Name y xp) X.env) = eval (.Name y xp) X.env := by rfl)
    (hfew : ((backTo cp (starEach [e] X.env)).all (fun x => !x.1) && (backToKw cp (keywordEach [] X.env)).all (fun x => x.1.isSome)
      && decide ([e].length + ([] : List Keyword).length + (if ([] : List Keyword).isEmpty then 0 else 1) < 30)) = true := by rfl)
    (hline : (ap.endLine == cp.line) = true := by rfl) (hs : starEach [e] X.env = (false, eval e X.env) :: starEach [] X.env := by rfl) (hplain : (backTo cp (starEach [] X.env)).any (·.1) = false := by rfl)
    (hsw : swapsWith (.Call (.Attribute (.Name y xp) "extend" ap) [e] [] cp) none pos.line X.env = pure false := by rfl) :
    DSx X S W (.Expr (.Call (.Attribute (.Name y xp) "extend" ap) [e] [] cp) pos) (mExtX x j mx) :=
  PS.imp (ps_expr (pe_bm PySem.F.plainAttrs_list PySem.F.slot_list_extend PySem.F.type_list_extend mt_extend (pe_var hN hv hd hcd) (pa_cons he pa_nil hs) hbase hfew hline hs hplain) hsw) fun D σ H ⟨w, env, g, c, env', g', R, e, k⟩ => by
    unfold mExtX at e
    split at e
    · rename_i d g1 e1
      split at e
      · rename_i ds es ej
        split at e
        · rename_i hz
          cases e
          obtain ⟨p, vs, sj, hp, _⟩ := R.own ej
          refine ⟨_, sj, .inl ⟨rfl, vs, SqL.of hp⟩, w, env, g, _, g', R, e1, fun u I' H' s' R' r => ?_⟩
          obtain ⟨p', us, sj', hp', hi, h0, hf, rb, hy⟩ := R'.own ej
          rw [sj] at sj'
          cases sj'
          cases r with
          | lst hq rc hx =>
            refine ⟨p, _, us, _, rfl, rfl, hp', R'.eI _ _ hq, by rw [rb.len, rc.len]; exact hz, ?_⟩
            exact k σ I' _ s' (R'.setOw ej sj hp' hi h0 hf (rb.append rc) (by rw [List.length_append]; exact hz))
        · cases e
      · cases e
    · rename_i wd g1 e1
      split at e
      · rename_i ds ej
        cases e
        obtain ⟨p, vs, sj, hp, _⟩ := R.own ej
        exact ⟨_, sj, .inl ⟨rfl, vs, SqL.of hp⟩, w, env, g, .error wd, g', R, e1, fun I' H' s' R' => k σ I' H' s' R'⟩
      · cases e
    · cases e
/-! ### for, the body may raise -/
def loopX (b : MTg G) (mb : MX G) : List D → Env → G → Option (CtX × Env × G)
  | [], env, g => some (.nm .nx, env, g)
  | d :: ds, env, g => match b d env g with
    | none => none
    | some (env1, g1) => match mb env1 g1 with
      | none => none
      | some (.nm .nx, e, g2) => loopX b mb ds e g2
      | some (.nm .co, e, g2) => loopX b mb ds e g2
      | some (.nm .br, e, g2) => some (.nm .nx, e, g2)
      | some (.nm (.re d), e, g2) => some (.nm (.re d), e, g2)
      | some (.nm (.rl d), e, g2) => some (.nm (.rl d), e, g2)
      | some (.xc C, e, g2) => some (.xc C, e, g2)
      | some (.xw x wd, e, g2) => some (.xw x wd, e, g2)
def mForX (ml : ML G) (b : MTg G) (mb : MX G) : MX G := fun env g => bD (ml env g) fun ds g1 => loopX b mb ds env g1
theorem ts_forX {idx : List Nat} {bt : MTg G} {mb : MX G} {D : Ends} (h : tSx X.K S W (mForX ml bt mb) D σ H) : tFor (tI X.K S ml) (tTg X.K S idx bt) (tSx X.K S W mb) D σ H := by
  obtain ⟨w, env, g, c, env', g', R, e, k⟩ := h
  obtain ⟨ds, g1, e1, e⟩ := bD_some e
  refine ⟨w, env, g, ds, g1, R, e1, fun J I1 H1 s1 R1 ok hz => ?_⟩
  refine ⟨fun i m σ2 H2 => m = ds.length - i ∧ i ≤ ds.length ∧ ∃ I2 env2 g2, Same I1 I2 ∧ Rel X.K S (w.im I2) env2 g2 σ2 H2 ∧ loopX bt mb (ds.drop i) env2 g2 = some (c, env', g'), ⟨ds.length, by omega, Nat.zero_le _, I1, env, g1, Same.refl _, R1, e⟩, ?_⟩
  rintro i m σ2 H2 ⟨rfl, hi, I2, env2, g2, s2, R2, e2⟩
  by_cases hlt : i < ds.length
  · refine .inr ⟨ok.go i I2 H2 hlt s2 R2.eI, fun σ' H' => i + 1 ≤ ds.length ∧ ∃ I2 env2 g2, Same I1 I2 ∧ Rel X.K S (w.im I2) env2 g2 σ' H' ∧ loopX bt mb (ds.drop (i + 1)) env2 g2 = some (c, env', g'), fun σ' H' ⟨q1, q⟩ => ⟨ds.length - (i + 1), by omega, rfl, q1, q⟩, fun x H' y => ?_⟩
    have hd : ds[i]? = some ds[i] := by simp [hlt]
    obtain ⟨I3, ps, r⟩ := ok.yl i I2 H2 x H' _ hd s2 R2.eI y
    rw [List.drop_eq_getElem_cons hlt] at e2
    unfold loopX at e2
    cases eb : bt ds[i] env2 g2 with
    | none => rw [eb] at e2; cases e2
    | some eg =>
      obtain ⟨env3, g3⟩ := eg
      rw [eb] at e2
      dsimp only at e2
      refine ⟨w.im I3, env2, g2, ds[i], env3, g3, R2.pst ps, r, eb, fun σ3 I4 H3 s4 R3 _ _ => ?_⟩
      cases em : mb env3 g3 with
      | none => rw [em] at e2; cases e2
      | some r4 =>
        obtain ⟨c4, env4, g4⟩ := r4
        rw [em] at e2
        have s3 : Same I1 I4 := (s2.trans ps.eI).trans s4
        refine ⟨w.im I4, env3, g3, c4, env4, g4, R3, em, ?_⟩
        cases c4 with
        | xc C => cases e2; exact fun σ' I5 H5 s5 R5 => k σ' I5 H5 (s1.trans (s3.trans s5)) R5
        | xw y wd => cases e2; exact fun σ' I5 H5 s5 R5 => k σ' I5 H5 (s1.trans (s3.trans s5)) R5
        | nm c4 =>
          cases c4 with
          | nx => exact fun σ' I5 H5 s5 R5 => ⟨by omega, I5, env4, g4, s3.trans s5, R5, e2⟩
          | co => exact fun σ' I5 H5 s5 R5 => ⟨by omega, I5, env4, g4, s3.trans s5, R5, e2⟩
          | br => cases e2; exact fun σ' I5 H5 s5 R5 => k σ' I5 H5 (s1.trans (s3.trans s5)) R5
          | re d => cases e2; exact fun v σ' I5 H5 s5 R5 p => k v σ' I5 H5 (s1.trans (s3.trans s5)) R5 p
          | rl d => cases e2; exact fun p vs σ' I5 H5 s5 R5 n hp ra z => k p vs σ' I5 H5 (s1.trans (s3.trans s5)) R5 n hp ra z
  · have hi' : i = ds.length := by omega
    subst hi'
    rw [List.drop_length] at e2
    cases e2
    exact .inl ⟨ok.st _ I2 H2 (Nat.le_refl _) s2 R2.eI, k σ2 I2 H2 (s1.trans s2) R2⟩
theorem dsx_for {idx : List Nat} {bt : MTg G} {mb : MX G} (hp : PassesOwn (model X.prog X.w) X.A X.env X.xe) (hc : X.calm = true) (hi : DI X S tg iter ml) (hg : DTg X S tg idx bt) (hb : DBx X S W body mb)
    (hs : ∀ x, foldedSetIterable iter X.env x = pure x := by intro _; rfl) : DSx X S W (.For tg iter body [] pos) (mForX ml bt mb) := PS.imp (ps_for hp hc hi hg.pg hb hs) fun _ _ _ h => ts_forX h
/-- a tuple or a list -/
def mItQ (ma : ME G) : ML G := fun env g => bD (ma env g) fun x g1 => match x with
  | .list ds => some (ds, g1)
  | .tuple ds => some (ds, g1)
  | _ => none
theorem di_seq (ha : DE X S a ma) : DI X S tg a (mItQ ma) := ⟨fun pins s σ H R I ⟨w, env, g, ds, g', Re, e, k⟩ => by
  obtain ⟨x, g1, e1, e⟩ := bD_some e
  cases x with
  | list xs => exact (di_list (S := S) ha).run pins s σ H R I ⟨w, env, g, ds, g', Re, by unfold mItL; rw [e1]; exact e, k⟩
  | tuple xs => exact (di_tup (S := S) ha).run pins s σ H R I ⟨w, env, g, ds, g', Re, by unfold mItT; rw [e1]; exact e, k⟩
  | _ => cases e⟩
/-! ### defs that may raise -/
def runNX (x : Str) (N n : Nat) (m : MX Unit) (ds : List D) : Option (Except Str (List D)) := if ds.length = n ∧ n ≤ N then match m (startE N (ds.map .sh)) () with
  | some (.nm (.rl zs), _, _) => some (.ok zs)
  | some (.xw y wd, _, _) => if y = x then some (.error wd) else none
  | _ => none
  else none
def runPX (x : Str) (N n : Nat) (m : MX Unit) (ds : List D) : Option (Except Str D) := if ds.length = n ∧ n ≤ N then match m (startE N (ds.map .sh)) () with
  | some (.nm (.re d), _, _) => some (.ok d)
  | some (.xw y wd, _, _) => if y = x then some (.error wd) else none
  | _ => none
  else none
variable {P : Program} {wd : World} {mg : Str → Option Value} {base : Heap}
theorem start_pure {N : List Str} {vs : List V} {ds : List D} (sI : Same I H) (ra : RpA K I vs ds) (hl : ds.length ≤ N.length) : Rel K G0 ⟨H, I, I, fun _ => False, .non⟩ (startE N.length (ds.map .sh)) () (start N vs) H :=
  start_rel (rt := .non) ⟨H, I, I, fun _ => False, .non⟩ rfl (ArgsOk.of_rp ra) (by rw [List.length_map]; exact hl) (Same.refl _) sI (fun _ _ _ => rfl) (Same.refl _) (fun _ => Iff.rfl) rfl trivial (fun _ z => z.elim) (fun _ z => z.elim)
theorem end_pure {u : Unit} (s' : Same I I') (R' : Rel K G0 (Wd.im ⟨H, I, I, fun _ => False, .non⟩ I') env' u σ H') : Pst I H I' H' := ⟨s', R'.e0, R'.eI, fun a ha => by
  cases q : H a with
  | none => exact absurd q ha
  | some o => exact R'.ag a o q⟩
theorem fn_NX {y qual : Str} {st : Stmt} {f : Addr} {fd : FuncData} {N ps : List Str} {k : Nat} {m : MX Unit} (F : Fun K y qual st f fd) (Sc : FnScope N ps (defScope st)) (hb : BodyX P wd K mg base N qual st f k G0 m) :
    FnOk P wd K mg base (L2.CX P wd) (k + 1) f fd ps (spNX K x (runNX x N.length ps.length m)) := by
  refine F.okX Sc (fun vs H Q E h => ?_) (fun cdv A outer s H vs Q E hr h => ?_)
  · obtain ⟨I, ds, r, _, ra, e, _⟩ := h
    unfold runNX at e
    split at e
    · rename_i q; rw [ra.len, q.1]
    · cases e
  · obtain ⟨I, ds, r, sI, ra, e, kk⟩ := h
    unfold runNX at e
    split at e
    case isFalse => cases e
    rename_i hl
    refine ⟨_, hb cdv A outer s H E hr, ?_⟩
    have R := start_pure (N := N) sI ra (by rw [hl.1]; exact hl.2)
    split at e
    · rename_i zs e1 u em
      cases e
      exact ⟨_, _, (), _, _, _, R, em, fun p us σ' I' H' s' R' n hp rb z => kk p us I' H' (end_pure s' R') n.h0 n.i hp rb z⟩
    · rename_i y wd e1 u em
      split at e
      · rename_i hy
        subst hy
        cases e
        exact ⟨_, _, (), _, _, _, R, em, fun σ' I' H' s' R' => fun C d h1 h2 h3 => kk I' H' (end_pure s' R') C d h1 h2 h3⟩
      · cases e
    · cases e
theorem fn_PX {y qual : Str} {st : Stmt} {f : Addr} {fd : FuncData} {N ps : List Str} {k : Nat} {m : MX Unit} (F : Fun K y qual st f fd) (Sc : FnScope N ps (defScope st)) (hb : BodyX P wd K mg base N qual st f k G0 m) :
    FnOk P wd K mg base (L2.CX P wd) (k + 1) f fd ps (spPX K x (runPX x N.length ps.length m)) := by
  refine F.okX Sc (fun vs H Q E h => ?_) (fun cdv A outer s H vs Q E hr h => ?_)
  · obtain ⟨I, ds, r, _, ra, e, _⟩ := h
    unfold runPX at e
    split at e
    · rename_i q; rw [ra.len, q.1]
    · cases e
  · obtain ⟨I, ds, r, sI, ra, e, kk⟩ := h
    unfold runPX at e
    split at e
    case isFalse => cases e
    rename_i hl
    refine ⟨_, hb cdv A outer s H E hr, ?_⟩
    have R := start_pure (N := N) sI ra (by rw [hl.1]; exact hl.2)
    split at e
    · rename_i zs e1 u em
      cases e
      exact ⟨_, _, (), _, _, _, R, em, fun v σ' I' H' s' R' r => kk v I' H' (end_pure s' R') r⟩
    · rename_i y wd e1 u em
      split at e
      · rename_i hy
        subst hy
        cases e
        exact ⟨_, _, (), _, _, _, R, em, fun σ' I' H' s' R' => fun C d h1 h2 h3 => kk I' H' (end_pure s' R') C d h1 h2 h3⟩
      · cases e
    · cases e
theorem def_NX {y qual : Str} {st : Stmt} {N ps : List Str} {k : Nat} {m : MX Unit} (h : Dfn K mg y qual st ps) (Sc : FnScope N ps (defScope st)) (hb : ∀ f, BodyX P wd K mg base N qual st f k G0 m) : Def1X P wd K mg base y ps (k + 1) (spNX K x (runNX x N.length ps.length m)) := by
  obtain ⟨f, fd, F, hm, hB⟩ := h.ex
  exact ⟨f, fd, fn_NX F Sc (hb f), hm, F.kp, hB⟩
theorem def_PX {y qual : Str} {st : Stmt} {N ps : List Str} {k : Nat} {m : MX Unit} (h : Dfn K mg y qual st ps) (Sc : FnScope N ps (defScope st)) (hb : ∀ f, BodyX P wd K mg base N qual st f k G0 m) : Def1X P wd K mg base y ps (k + 1) (spPX K x (runPX x N.length ps.length m)) := by
  obtain ⟨f, fd, F, hm, hB⟩ := h.ex
  exact ⟨f, fd, fn_PX F Sc (hb f), hm, F.kp, hB⟩
theorem Def1X.mono {y : Str} {ps : List Str} {j k : Nat} {sp : Sp} (h : Def1X P wd K mg base y ps j sp) (hk : j ≤ k) : Def1X P wd K mg base y ps k sp := by
  obtain ⟨f, fd, F, r⟩ := h.ex
  exact ⟨f, fd, F.mono hk, r⟩
end
end Pd

/-! Pg: try, an empty dict, a dict display that is asked at once. -/
namespace Pd
open PySem PySem.Spec PySem.W L2
open Classical
section
variable {G : Type} {X : Cx} {S : Gs G} {a b c e : Expr} {es : List Expr} {pos : Pos} {ma mb me mi : ME G} {mt mu : MT G} {ml : ML G} {tg iter : Expr} {st : Stmt} {mx : MEX G} {mlx : MLX G} {body : List Stmt}
variable {K : PySem.W.Frag} {w : Wd} {env env' : Env} {g g' : G} {σ : St} {H H' I I' : Hp} {W : WX} {x : Str}
/-- try: body, except x as n: return n.word -/
def mTryW (x : Str) (i : Nat) (m : MX G) : MS G := fun env g => match m env g with
  | some (.nm c, e, g1) => some (c, e, g1)
  | some (.xw y wd, e, g1) => if y = x ∧ i < e.length then some (.re (.str wd), e, g1) else none
  | _ => none
theorem ds_try {i k : Nat} {n : Str} {m : MX G} {np np2 ap rp pos' : Pos} (hs : X.stack = X.env :: X.outer) (hf : X.env.frame = some X.env.locals) (hN : X.N.Nodup) (hi : X.N[i]? = some n) (hln : X.env.kindOf n = some .local) (sx : Exw X.prog X.w X.K X.mg X.base x k) (hg : Gl X x)
    (hb : ∀ (W : WX) (pn : List (Addr × Obj)) (xe : Value → Shared → Prop), Takes (X.tr pn xe) W → PassesOwn (model X.prog X.w) X.A X.env xe → DBx (X.tr pn xe) S W body m)
    (hdb : (x == ("__debug__" : Str)) = false := by decide) (hd : (n == ("__debug__" : Str)) = false := by decide) (hcd : (n == ("__classdict__" : Str)) = false := by decide)
    (hab : attributeBase (.Name n np2) "word" X.env (eval (.Name n np2) X.env) = eval (.Name n np2) X.env := by rfl) :
    DS X S (.Try body [.ExceptHandler (some (.Name x np)) (some n) [.Return (some (.Attribute (.Name n np2) "word" ap)) rp] pos'] [] [] pos) (mTryW x i m) := by
  obtain ⟨C, fI, fd, T, iC, tI, F1, hB, hm, hn, XF, hno, te⟩ := sx.ex
  refine PS.imp (ps_try_as (tb := fun W => tSx X.K S W m) (ts := fun a cls d => tRet (tXf a cls d C "word" (tVar i))) hs hf hN hi hln ⟨hg, hdb, .inl hm⟩ takes0 (fun W pn xe tk po => hb W pn xe tk po) (fun a oe cls d pn hz hf => pss_one (ps_ret (pe_xf XF hno hz hf (pe_var (X := X.suite a ((a, oe) :: pn)) hi (.inl hln) hd hcd) hab)))) fun D σ H ⟨w, env, g, c, env', g', R, e, k⟩ => ?_
  unfold mTryW at e
  split at e
  · rename_i c1 e1 g1 em
    cases e
    exact ⟨w, env, g, .nm c, env', g', R, em, k⟩
  · rename_i y wd e1 g1 em
    split at e
    · rename_i hy
      obtain ⟨rfl, hl⟩ := hy
      cases e
      refine ⟨w, env, g, .xw y wd, env', g', R, em, fun σ' I' H' s' R' => fun C' d hC hd' hs => ?_⟩
      rw [hn] at hC
      cases hC
      refine ⟨true, te, fun _ a ha => ?_, fun z => by cases z⟩
      refine ⟨.ref a, ?_, rfl, rfl, d, _, .str wd, rfl, hd', rfl, k (.str wd) σ' I' H' s' R' (.str hs)⟩
      rw [List.getElem?_set_self (by rw [R'.len]; exact hl)]
    · cases e
  · cases e
/-! ### {} -/
def mEmp : ME G := fun _ g => some (EMP, g)
theorem de_emp : DE X S (.Dict [] [] pos) mEmp := PE.imp pe_dnewT fun σ H Q ⟨w, env, g, d, g', R, e, k⟩ => by
  cases e
  exact fun p h0 => k (.ref p) _ _ (same_new (R.eI.free h0)) (R.pst (Pst.new R.eI h0)) (.emp upd_same)
/-! ### {n: d, ..}[e] -/
def tKi {G : Type} (K : PySem.W.Frag) (S : Gs G) (ks : List Int) (ml : ML G) : St → Hp → (List (V × V) → Hp → Prop) → Prop := fun σ H Q => ∃ w env g ds g', Rel K S w env g σ H ∧ ml env g = some (ds, g') ∧ ds.length = ks.length ∧
  ∀ vs I' H', Same w.I I' → Rel K S (w.im I') env g' σ H' → RpA K I' vs ds → Q ((ks.zip vs).map fun p => (V.int p.1, p.2)) H'
structure DPi {G : Type} (X : Cx) (S : Gs G) (pos : Pos) (keys : List (Option Expr)) (values : List Expr) (ks : List Int) (ml : ML G) : Prop where
  pp : ∃ trs, PPs X pos keys values trs ∧ ∀ σ H Q, tKi X.K S ks ml σ H Q → tPairs trs σ H Q
theorem dpi_nil : DPi X S pos [] [] [] mNil := ⟨[], pps_nil, fun σ H Q ⟨w, env, g, ds, g', R, e, _, k⟩ => by
  cases e
  exact k [] w.I H (Same.refl _) R .nil⟩
theorem dpi_cons {k : Int} {ke : Expr} {keys : List (Option Expr)} {v : Expr} {values : List Expr} {ks : List Int} {mv : ME G} (hk : DE X S ke (mC (.int k))) (hv : DE X S v mv) (hr : DPi X S pos keys values ks ml) : DPi X S pos (some ke :: keys) (v :: values) (k :: ks) (mCons mv ml) := by
  obtain ⟨trs, hp, ht⟩ := hr.pp
  refine ⟨_, pps_cons hk hv hp, fun σ H Q ⟨w, env, g, ds, g', R, e, hl, kk⟩ => ?_⟩
  obtain ⟨x, g1, e1, e⟩ := bD_some e
  obtain ⟨xs, g2, e2, e⟩ := bD_some e
  cases e
  refine ⟨w, env, g, .int k, g, R, rfl, fun u0 I0 H0 s0 R0 p0 => ?_⟩
  cases p0
  refine ⟨w.im I0, env, g, x, g1, R0, e1, fun u I1 H1 s1 R1 p1 => ht _ _ _ ⟨w.im I1, env, g1, xs, g', R1, e2, Nat.succ.inj hl, fun vs I2 H2 s2 R2 ra => kk (u :: vs) I2 H2 ((Same.trans s0 s1).trans s2) R2 (.cons (p1.mono s2) ra)⟩⟩
def atK (ks : List Int) (ds : List D) (i : Int) : Option D := findK ((ks.zip ds).map fun q => ((Sum.inl q.1 : Key), q.2)) (Sum.inl i)
def mDictIx (ks : List Int) (ml : ML G) (mi : ME G) : ME G := fun env g => bD (ml env g) fun ds g1 => if ds.length = ks.length then bD (mi env g1) fun y g2 => match y with
  | .int i => (atK ks ds i).map (·, g2)
  | _ => none
  else none
theorem de_dictIx {dp : Pos} {keys : List (Option Expr)} {values : List Expr} {ks : List Int} (hu : X.A.units + 65 < cLine) (hd : DPi X S dp keys values ks ml) (hi : DE X S b mi) (hks : ks.Nodup ∧ ks.length ≤ 15) (hall : keys.all (·.isSome) = true := by rfl) (hl : keys.length = values.length := by rfl) (h0 : keys ≠ [] := by simp) (h15 : keys.length ≤ 15 := by decide)
    (hs : NoSl b := by exact fun _ _ => rfl) : DE X S (.Subscript (.Dict keys values dp) b pos) (mDictIx ks ml mi) := by
  obtain ⟨trs, hp, ht⟩ := hd.pp
  refine PE.imp (pe_dget (by omega) (pe_disp hp hall hl h0 h15) hi hs) fun σ H Q h => ?_
  obtain ⟨w, env, g, d, g', R, e, k⟩ := h
  obtain ⟨ds, g1, e1, e⟩ := bD_some e
  split at e
  case isFalse => cases e
  rename_i hlen
  obtain ⟨y, g2, e2, e⟩ := bD_some e
  split at e
  case h_2 => cases e
  rename_i i
  obtain ⟨ef, rfl⟩ := map_some e
  intro p h0
  have n := R.nob (o := .dK []) h0
  have R1 := (R.alloc (o := .dK []) h0).hold n upd_same
  refine ht _ _ _ ⟨w.hold p (.dK []), env, g, ds, g1, R1, e1, hlen, fun vs I1 H1 s1 R2 ra => ?_⟩
  have hvl : ks.length = vs.length := by rw [ra.len, hlen]
  let kvs : List (Key × V) := (ks.zip vs).map fun q => (Sum.inl q.1, q.2)
  let kds : List (Key × D) := (ks.zip ds).map fun q => (Sum.inl q.1, q.2)
  have hk1 : kvs.map (·.1) = ks.map Sum.inl := by
    show ((ks.zip vs).map fun q => ((Sum.inl q.1 : Key), q.2)).map (·.1) = _
    rw [List.map_map]
    have : ((·.1) ∘ fun q : Int × V => ((Sum.inl q.1 : Key), q.2)) = (Sum.inl ∘ (·.1)) := rfl
    rw [this, ← List.map_map, zip_fst hvl]
  have hk2 : kvs.map (·.2) = vs := by
    show ((ks.zip vs).map fun q => ((Sum.inl q.1 : Key), q.2)).map (·.2) = _
    rw [List.map_map]
    exact zip_snd hvl
  have hd1 : kds.map (·.1) = ks.map Sum.inl := by
    show ((ks.zip ds).map fun q => ((Sum.inl q.1 : Key), q.2)).map (·.1) = _
    rw [List.map_map]
    have : ((·.1) ∘ fun q : Int × D => ((Sum.inl q.1 : Key), q.2)) = (Sum.inl ∘ (·.1)) := rfl
    rw [this, ← List.map_map, zip_fst hlen.symm]
  have hd2 : kds.map (·.2) = ds := by
    show ((ks.zip ds).map fun q => ((Sum.inl q.1 : Key), q.2)).map (·.2) = _
    rw [List.map_map]
    exact zip_snd hlen.symm
  have hm : mergeK [] kvs = kvs := merge_nd kvs [] (by
    rw [List.nil_append, hk1]
    exact List.pairwise_map.mpr (hks.1.imp fun h e => h (Sum.inl.inj e)))
  have R2' : Rel X.K S ((w.im I1).hold p (.dK [])) env g1 σ H1 := R2
  obtain ⟨R3, n3, hp1⟩ := R2'.unhold (u := .dK (mergeK [] kvs)) n.h0 (R.ge.free n.i)
  refine ⟨hp1, kvs, ?_, ?_, ?_⟩
  · show (ks.zip vs).map (fun q => (V.int q.1, q.2)) = ((ks.zip vs).map fun q => ((Sum.inl q.1 : Key), q.2)).map fun kv => (kV kv.1, kv.2)
    rw [List.map_map]
    rfl
  · show ((ks.zip vs).map _).length ≤ 15
    rw [List.length_map, List.length_zip]
    have := hks.2
    omega
  · have R4 := R3.hold n3 upd_same
    refine ⟨(w.im I1).hold p (.dK (mergeK [] kvs)), env, g1, .int i, g', R4, e2, fun u I2 H2 s2 R5 p2 => ?_⟩
    cases p2
    have R5' : Rel X.K S ((w.im I2).hold p (.dK (mergeK [] kvs))) env g' σ H2 := R5
    obtain ⟨R6, n6, hp2⟩ := R5'.unhold (u := .dK (mergeK [] kvs)) n.h0 (R.ge.free n.i)
    rw [upd_id hp2] at R6
    have ra2 : RpA X.K I2 (kvs.map (·.2)) (kds.map (·.2)) := by rw [hk2, hd2]; exact ra.mono s2
    obtain ⟨v, ev, rv⟩ := find_rp (k := Sum.inl i) (hk1.trans hd1.symm) ra2 ef
    refine ⟨p, v, rfl, ?_, k v I2 H2 (Same.trans s1 s2) R6 rv⟩
    rw [hm] at hp2
    exact .inl ⟨kvs, Sum.inl i, .inl hp2, rfl, ev.symm⟩
/-! ### defs that call themselves -/
variable {P : Program} {wd : World} {mg : Str → Option Value} {base : Heap}
theorem def_noX {y qual : Str} {st : Stmt} {N ps : List Str} {k : Nat} {sp : Sp} (h : Dfn K mg y qual st ps) (Sc : FnScope N ps (defScope st)) (hn : ∀ vs H Q E, ¬ sp vs H Q E) : Def1X P wd K mg base y ps (k + 1) sp := by
  obtain ⟨f, fd, F, hm, hB⟩ := h.ex
  exact ⟨f, fd, F.okX Sc (fun vs H Q E q => (hn _ _ _ _ q).elim) (fun cdv A outer s H vs Q E hr q => (hn _ _ _ _ q).elim), hm, F.kp, hB⟩
theorem spNX_no (vs : List V) (H : Hp) (Q : VK) (E : XK) : ¬ spNX K x (fun _ => none) vs H Q E := fun ⟨_, _, _, _, _, e, _⟩ => by cases e
theorem spPX_no (vs : List V) (H : Hp) (Q : VK) (E : XK) : ¬ spPX K x (fun _ => none) vs H Q E := fun ⟨_, _, _, _, _, e, _⟩ => by cases e
end
end Pd

/-! Pg: a class of one's own over ValueError, by what the written part tells. -/
namespace Pd
open PySem PySem.Spec PySem.W L2 NdefX
/-- a class's first statement -/
def clsFn : Stmt → Stmt
  | .ClassDef (body := b) .. => b.headD (.Pass ⟨0, 0, 0, 0⟩)
  | s => s
theorem exm_self {K : PySem.W.Frag} {C : Addr} (h1 : subIn K (.ref C) (.type "BaseException") = some true) (h2 : isClsIn K C = true) (h3 : typeIn K (.ref C) = some (.type "type")) (h4 : subIn K (.ref C) (.ref C) = some true) : exmOne K (.ref C) (.ref C) = some true := by
  have e1 : (subIn K (.ref C) (.type "BaseException") == some true) = true := by rw [h1] <;> rfl
  have e2 : ((clsIn K C).isSome && typeIn K (.ref C) == some (.type "type")) = true := by
    have h2' : (clsIn K C).isSome = true := h2
    rw [h2', h3] <;> rfl
  show (if (subIn K (.ref C) (.type "BaseException") == some true) = true then (if ((clsIn K C).isSome && typeIn K (.ref C) == some (.type "type")) = true then subIn K (.ref C) (.ref C) else none) else none) = some true
  rw [if_pos e1, if_pos e2]
  exact h4
theorem exw_mk {P : Program} {K : PySem.W.Frag} {mg : Str → Option Value} {h : Heap} {x qual : Str} {C f cc cda : Addr} {i : Stmt} (X : K.In h) (G : h.Ns mainGlobals mg)
    {nm q : Str} {N : Addr} {bs bm : List Value} {sn : List Str} {sub : List Value} {ab : Bool} {col : Option Bool} {dd : Option Addr} {m0 m1 m2 m3 m5 : Option Value} {od cld cdd : Option Addr} {osl csl ccs : Array (Option Value)} {oc doc pm ct cl ccl : Value} {vs : Array Value} {file : Str} {tf : Tok}
    (aC : nsIn K mainGlobals x = some (some (.ref C))) (xL : K.lookup C = some (excClassObj nm q C N bs bm true sn sub ab col dd m0 m1 m2 m3 m5 "ValueError.__new__")) (rv : PySem.HandSPX.refsVE bm = true)
    (sa : findIn K (.ref C) "__setattr__" = some (some (.builtin "object.__setattr__"))) (ga : findIn K (.ref C) "__getattribute__" = some (some (.builtin "BaseException.__getattribute__"))) (gg : findIn K (.ref C) "__getattr__" = some none) (nb : findIn K (.ref C) "word" = some none)
    (a1 : findIn K (.ref C) "__init__" = some (some (.ref f))) (t1 : typeIn K (.ref f) = some (.type "function"))
    (l1 : K.lookup f = some ⟨oc, od, .func (fnX "__init__" qual (defArgs i) (defBody i) (defScope i) [("__class__", cc)] .none .none doc pm none (.ref cda) ct), osl⟩) (c1 : codeIn K (.ref cda) qual = true)
    (kC : keepIn K (.ref C) = true) (eC : subIn K (.ref C) (.type "BaseException") = some true) (tC : typeIn K (.ref C) = some (.type "type")) (hC : hasDictIn K C = true) (iC : isClsIn K C = true) (sC : subIn K (.ref C) (.ref C) = some true)
    (lc : K.lookup cc = some ⟨cl, cld, .cell (some (.ref C)), csl⟩) (ld : K.lookup cda = some ⟨ccl, cdd, .fields vs, ccs⟩) (ev : vs[2]? = some (.str file tf)) (ef : ((P.main.file : Str) == file) = true) (et : (P.main.scope.names.lookup ("super" : Str)).isSome = false)
    (mr : mroIn K C (.ref C) = some true) (sB : subIn K (.ref C) (.type "ValueError") = some true) (su : ks_superIn K C C "__init__" = some (some (.builtin "ValueError.__init__"))) (oq : nsIn K cStatics "thirdparty.any" = some none) (zs : nsIn K mainGlobals "super" = some none)
    {p0 p1 ap p2 p3 p4 p5 p6 p7 p8 p9 p10 : Pos} {msg : Str} {j : Nat} {ar : Arg}
    (hbody : defBody i = [.Expr (.Call (.Attribute (.Call (.Name "super" p0) [] [] p1) "__init__" ap) [.BinOp (.Constant (.str msg) j p2) .Add (.Name "word" p3) p4] [] p5) p6, .Assign [.Attribute (.Name "self" p7) "word" p8] (.Name "word" p9) p10])
    (hS : nscB ["self", "word", "__class__"] ["self", "word"] ["__class__"] (defScope i) = true) (hg : (defScope i).names.lookup ("super" : Str) = some .globalImplicit) (har : ((defArgs i).posonlyargs ++ (defArgs i).args).head? = some ar) (har2 : ar.arg = "self") (hmsg : msg.length ≤ 1000)
    (hbi : ∀ us : List Value, us.length = (["self", "word"] : List Str).length → bindArgs (fnX "__init__" qual (defArgs i) (defBody i) (defScope i) [("__class__", cc)] .none .none doc pm none (.ref cda) ct) ⟨us, []⟩ = pure ((["self", "word"] : List Str).zip us))
    (hev : ∀ env : PySem.Env, ∃ pl : Sem Bool, eval (.Call (.Attribute (.Call (.Name "super" p0) [] [] p1) "__init__" ap) [.BinOp (.Constant (.str msg) j p2) .Add (.Name "word" p3) p4] [] p5) env = (do
      let ov ← attributeBase (.Call (.Name "super" p0) [] [] p1) "__init__" env (eval (.Call (.Name "super" p0) [] [] p1) env)
      standAt ap.atName
      let (f, first) ← holding [ov] (getMethod ov "__init__" pl)
      callWith p5 f first (backTo p5 (starEach [.BinOp (.Constant (.str msg) j p2) .Add (.Name "word" p3) p4] env)) []))
    (wd : World) (base : Heap) : Exw P wd K mg base x 1 := by
  have T0 : OexC K C := ⟨⟨nm, q, N, bs, bm, sn, sub, ab, col, dd, m0, m1, m2, m3, m5, xL, rv⟩, sa, eC, tC, kC⟩
  have hcl : ∃ cd, clsIn K C = some cd := by
    have h2 : (clsIn K C).isSome = true := iC
    exact Option.isSome_iff_exists.mp h2
  let F : NF := ⟨"__init__", qual, defArgs i, defBody i, defScope i, [("__class__", cc)], cda⟩
  have T : SupK P K C f cc F.c (F.fd doc pm ct) := { oex := T0, fn := ⟨oc, od, osl, l1⟩, cell := ⟨cl, cld, csl, lc⟩, code := ⟨ccl, cdd, vs, ccs, file, tf, ld, ev, ef⟩, cls := hcl, sub := mr, subB := sB, sup := su, opq := oq, top := et }
  have B : Binds K (F.fd doc pm ct) ["self", "word"] [] := .all hbi
  exact ⟨C, f, F.fd doc pm ct, T0, a1, t1, fn_super (k := 0) T c1 rfl (nscope_by hS) hbody (mg_none_of X G zs) hg har har2 nb hmsg (by decide) (by decide) B hev, B, mg_of X G aC, aC, ⟨ga, gg, eC, hC⟩, nb, exm_self eC iC tC sC⟩
end Pd

/-! Pg: plain tools for what may raise. -/
namespace Pd
open PySem
section
variable {G : Type} {env e1 e2 : Env} {g g1 g2 g3 : G} {m1 m2 : MX G} {m : MS G} {ma mb me : ME G} {mt : MT G} {ml : ML G} {mx : MEX G} {mlx : MLX G}
theorem sx_nx {r} (h1 : m1 env g = some (.nm .nx, e1, g1)) (h2 : m2 e1 g1 = r) : mSeqX m1 m2 env g = r := by unfold mSeqX; rw [h1]; exact h2
theorem sx_re {d : D} (h1 : m1 env g = some (.nm (.re d), e1, g1)) : mSeqX m1 m2 env g = some (.nm (.re d), e1, g1) := by unfold mSeqX; rw [h1]
theorem sx_rl {ds : List D} (h1 : m1 env g = some (.nm (.rl ds), e1, g1)) : mSeqX m1 m2 env g = some (.nm (.rl ds), e1, g1) := by unfold mSeqX; rw [h1]
theorem sx_xw {x wd : Str} (h1 : m1 env g = some (.xw x wd, e1, g1)) : mSeqX m1 m2 env g = some (.xw x wd, e1, g1) := by unfold mSeqX; rw [h1]
theorem nm_e {c : Ct} (h : m env g = some (c, e1, g1)) : mNm m env g = some (.nm c, e1, g1) := by unfold mNm; rw [h]; rfl
theorem ifx_t {r} (h : mt env g = some (true, g1)) (k : m1 env g1 = r) : mIfX mt m1 m2 env g = r := by unfold mIfX; rw [h]; exact k
theorem ifx_f {r} (h : mt env g = some (false, g1)) (k : m2 env g1 = r) : mIfX mt m1 m2 env g = r := by unfold mIfX; rw [h]; exact k
theorem raise_e {x wd : Str} (h : me env g = some (.str wd, g1)) (hl : wd.length ≤ 100) : mRaise x me env g = some (.xw x wd, env, g1) := by unfold mRaise; rw [h]; exact if_pos hl
theorem callx_e {α : Type} {F : List D → Option α} {xs : List D} {z : α} (ha : ml env g = some (xs, g1)) (h : F xs = some z) : mCallX F ml env g = some (z, g1) := by unfold mCallX; rw [ha]; dsimp only [bD]; rw [h]; rfl
theorem lx_ok {ds : List D} (h : mlx env g = some (.ok ds, g1)) : mLX mlx env g = some (.ok (.list ds), g1) := by unfold mLX; rw [h]
theorem lx_er {wd : Str} (h : mlx env g = some (.error wd, g1)) : mLX mlx env g = some (.error wd, g1) := by unfold mLX; rw [h]
theorem catx_ok {xs ys : List D} (ha : ma env g = some (.list xs, g1)) (hb : mx env g1 = some (.ok (.list ys), g2)) (hl : xs.length + ys.length ≤ sizeLine) : mCatX ma mx env g = some (.ok (xs ++ ys), g2) := by unfold mCatX; rw [ha]; dsimp only [bD]; rw [hb]; exact if_pos hl
theorem catx_er {x : D} {wd : Str} (ha : ma env g = some (x, g1)) (hb : mx env g1 = some (.error wd, g2)) : mCatX ma mx env g = some (.error wd, g2) := by unfold mCatX; rw [ha]; dsimp only [bD]; rw [hb]
theorem retfx_ok {x : Str} {ds : List D} (h : mlx env g = some (.ok ds, g1)) : mRetFX x mlx env g = some (.nm (.rl ds), env, g1) := by unfold mRetFX; rw [h]
theorem retfx_er {x wd : Str} (h : mlx env g = some (.error wd, g1)) : mRetFX x mlx env g = some (.xw x wd, env, g1) := by unfold mRetFX; rw [h]
theorem dropx_ok {x : Str} {d : D} (h : mx env g = some (.ok d, g1)) : mDropX x mx env g = some (.nm .nx, env, g1) := by unfold mDropX; rw [h]
theorem dropx_er {x wd : Str} (h : mx env g = some (.error wd, g1)) : mDropX x mx env g = some (.xw x wd, env, g1) := by unfold mDropX; rw [h]
theorem extx_ok {x : Str} {j : Nat} {ds es : List D} (h : mx env g = some (.ok (.list es), g1)) (hj : env.at j = .ow ds) (hl : ds.length + es.length ≤ sizeLine) : mExtX x j mx env g = some (.nm .nx, env.set j (.ow (ds ++ es)), g1) := by unfold mExtX; rw [h]; dsimp only; rw [hj]; exact if_pos hl
theorem extx_er {x wd : Str} {j : Nat} {ds : List D} (h : mx env g = some (.error wd, g1)) (hj : env.at j = .ow ds) : mExtX x j mx env g = some (.xw x wd, env, g1) := by unfold mExtX; rw [h]; dsimp only; rw [hj]
theorem forx_e {bt : MTg G} {mb : MX G} {ds : List D} {r} (h : ml env g = some (ds, g1)) (k : loopX bt mb ds env g1 = r) : mForX ml bt mb env g = r := by unfold mForX; rw [h]; exact k
theorem loopx_nx {bt : MTg G} {mb : MX G} {d : D} {ds : List D} {r} (h1 : bt d env g = some (e1, g1)) (h2 : mb e1 g1 = some (.nm .nx, e2, g2)) (h3 : loopX bt mb ds e2 g2 = r) : loopX bt mb (d :: ds) env g = r := by unfold loopX; rw [h1]; dsimp only; rw [h2]; exact h3
theorem loopx_xw {bt : MTg G} {mb : MX G} {d : D} {ds : List D} {x wd : Str} (h1 : bt d env g = some (e1, g1)) (h2 : mb e1 g1 = some (.xw x wd, e2, g2)) : loopX bt mb (d :: ds) env g = some (.xw x wd, e2, g2) := by unfold loopX; rw [h1]; dsimp only; rw [h2]
theorem wn_re {mb : MS G} {n : Nat} {d : D} (h : mt env g = some (true, g1)) (hb : mb env g1 = some (.re d, e1, g2)) : whileN mt mb (n + 1) env g = some (.re d, e1, g2) := by unfold whileN; rw [h]; dsimp only; rw [hb]
theorem itQ_l {xs : List D} (h : ma env g = some (.list xs, g1)) : mItQ ma env g = some (xs, g1) := by unfold mItQ; rw [h]
theorem itQ_t {xs : List D} (h : ma env g = some (.tuple xs, g1)) : mItQ ma env g = some (xs, g1) := by unfold mItQ; rw [h]
theorem isi2_e {T U : String} {x : D} {b : Bool} (ha : ma env g = some (x, g1)) (h : isTy2 T U x = some b) : mIsi2 T U ma env g = some (.bool b, g1) := by unfold mIsi2; rw [ha]; dsimp only [bD]; rw [h]; rfl
theorem dictIx_e {ks : List Int} {ds : List D} {i : Int} {d : D} (h : ml env g = some (ds, g1)) (hl : ds.length = ks.length) (hi : ma env g1 = some (.int i, g2)) (hk : atK ks ds i = some d) : mDictIx ks ml ma env g = some (d, g2) := by
  unfold mDictIx; rw [h]; dsimp only [bD]; rw [if_pos hl, hi]; dsimp only [bD]; rw [hk]; rfl
theorem tryw_xw {x wd : Str} {i : Nat} (h : m1 env g = some (.xw x wd, e1, g1)) (hi : i < e1.length) : mTryW x i m1 env g = some (.re (.str wd), e1, g1) := by unfold mTryW; rw [h]; exact if_pos ⟨rfl, hi⟩
theorem tryw_nm {x : Str} {c : Ct} {i : Nat} (h : m1 env g = some (.nm c, e1, g1)) : mTryW x i m1 env g = some (c, e1, g1) := by unfold mTryW; rw [h]
end
theorem runNX_ok {x : Str} {N n : Nat} {m : MX Unit} {ds zs : List D} {e : Env} {u : Unit} (h : m (startE N (ds.map .sh)) () = some (.nm (.rl zs), e, u)) (hn : ds.length = n ∧ n ≤ N := by exact ⟨rfl, by decide⟩) : runNX x N n m ds = some (.ok zs) := by unfold runNX; rw [if_pos hn, h]
theorem runNX_er {x : Str} {N n : Nat} {m : MX Unit} {ds : List D} {wd : Str} {e : Env} {u : Unit} (h : m (startE N (ds.map .sh)) () = some (.xw x wd, e, u)) (hn : ds.length = n ∧ n ≤ N := by exact ⟨rfl, by decide⟩) : runNX x N n m ds = some (.error wd) := by unfold runNX; rw [if_pos hn, h]; exact if_pos rfl
theorem runPX_ok {x : Str} {N n : Nat} {m : MX Unit} {ds : List D} {d : D} {e : Env} {u : Unit} (h : m (startE N (ds.map .sh)) () = some (.nm (.re d), e, u)) (hn : ds.length = n ∧ n ≤ N := by exact ⟨rfl, by decide⟩) : runPX x N n m ds = some (.ok d) := by unfold runPX; rw [if_pos hn, h]
theorem runPX_er {x : Str} {N n : Nat} {m : MX Unit} {ds : List D} {wd : Str} {e : Env} {u : Unit} (h : m (startE N (ds.map .sh)) () = some (.xw x wd, e, u)) (hn : ds.length = n ∧ n ≤ N := by exact ⟨rfl, by decide⟩) : runPX x N n m ds = some (.error wd) := by unfold runPX; rw [if_pos hn, h]; exact if_pos rfl
theorem okF_e {α : Type} {F : List D → Option (Except Str α)} {ds : List D} {z : α} (h : F ds = some (.ok z)) : okF F ds = some z := by unfold okF; rw [h]
end Pd

namespace K50
open PySem PySem.Spec L2 Pd
/-! ### the text by places -/
def top (i : Nat) : Stmt := PySem.Challenge.pw_plainserial_k50_whole_things_as_bytes.main.body.getD i (.Pass ⟨0, 0, 0, 0⟩)
abbrev s_number_bytes : Stmt := top 12
abbrev s_read_number : Stmt := top 13
abbrev s_signed_bytes : Stmt := top 14
abbrev s_read_signed : Stmt := top 15
abbrev s_text_bytes : Stmt := top 16
abbrev s_read_text : Stmt := top 17
abbrev s_bytes_of : Stmt := top 18
abbrev s_read_thing : Stmt := top 19
abbrev s_whole_thing : Stmt := top 20
abbrev s_thing_of : Stmt := top 21
abbrev s__law_state : Stmt := top 23
abbrev s__law_take : Stmt := top 24
abbrev s__law_number : Stmt := top 25
abbrev s__law_bytes : Stmt := top 26
abbrev s__law_text : Stmt := top 27
abbrev s__law_whole : Stmt := top 28
abbrev s__law_thing : Stmt := top 29
abbrev s__law_same : Stmt := top 30
abbrev s__law_refused : Stmt := top 31
abbrev s__law_none : Stmt := top 32
abbrev s_law : Stmt := top 33
abbrev s_ShapeError : Stmt := top 2
structure Txt (P : Program) (K : PySem.W.Frag) (mg : Str → Option Value) : Prop where
  d_number_bytes : Dfn K mg "number_bytes" "number_bytes" s_number_bytes ["number"]
  d_read_number : Dfn K mg "read_number" "read_number" s_read_number ["content", "at"]
  d_signed_bytes : Dfn K mg "signed_bytes" "signed_bytes" s_signed_bytes ["number"]
  d_read_signed : Dfn K mg "read_signed" "read_signed" s_read_signed ["content", "at"]
  d_text_bytes : Dfn K mg "text_bytes" "text_bytes" s_text_bytes ["text"]
  d_read_text : Dfn K mg "read_text" "read_text" s_read_text ["content", "at"]
  d_bytes_of : Dfn K mg "bytes_of" "bytes_of" s_bytes_of ["thing"]
  d_read_thing : Dfn K mg "read_thing" "read_thing" s_read_thing ["content", "at"]
  d_whole_thing : Dfn K mg "whole_thing" "whole_thing" s_whole_thing ["content"]
  d_thing_of : Dfn K mg "thing_of" "thing_of" s_thing_of ["content"]
  d__law_state : Dfn K mg "_law_state" "_law_state" s__law_state ["script"]
  d__law_take : Dfn K mg "_law_take" "_law_take" s__law_take ["state", "most"]
  d__law_number : Dfn K mg "_law_number" "_law_number" s__law_number ["number"]
  d__law_bytes : Dfn K mg "_law_bytes" "_law_bytes" s__law_bytes ["thing"]
  d__law_text : Dfn K mg "_law_text" "_law_text" s__law_text ["state", "most"]
  d__law_whole : Dfn K mg "_law_whole" "_law_whole" s__law_whole ["state"]
  d__law_thing : Dfn K mg "_law_thing" "_law_thing" s__law_thing ["state", "deep"]
  d__law_same : Dfn K mg "_law_same" "_law_same" s__law_same ["one", "other"]
  d__law_refused : Dfn K mg "_law_refused" "_law_refused" s__law_refused ["thing"]
  d__law_none : Dfn K mg "_law_none" "_law_none" s__law_none ["content"]
  c_FALSE : Cst K mg "FALSE" (.int 1)
  c_LIST : Cst K mg "LIST" (.int 6)
  c_NONE : Cst K mg "NONE" (.int 0)
  c_NUMBER : Cst K mg "NUMBER" (.int 3)
  c_SIGNS : Cst K mg "SIGNS" (.str " 0123456789_abcdefghijklmnopqrstuvwxyz'(),.*+-=<>\x0a!\"#$&/:;?@ABCDEFGHIJKLMNOPQRSTUVWXYZ[\\]^`{|}~")
  c_TEXT : Cst K mg "TEXT" (.int 4)
  c_TRUE : Cst K mg "TRUE" (.int 2)
  c_TUPLE : Cst K mg "TUPLE" (.int 5)
  z_abs : mg "abs" = none
  z_all : mg "all" = none
  z_bool : mg "bool" = none
  z_int : mg "int" = none
  z_isinstance : mg "isinstance" = none
  z_len : mg "len" = none
  z_list : mg "list" = none
  z_range : mg "range" = none
  z_str : mg "str" = none
  z_tuple : mg "tuple" = none
  x_ShapeError : ∀ (wd : World) (base : Heap), Exw P wd K mg base "ShapeError" 1
section
variable {P : Program} {wd : World} {K : PySem.W.Frag} {mg : Str → Option Value} {base : Heap}
/-! #### number_bytes -/
abbrev n_number_bytes : List Str := ["number", "found"]
theorem sc_number_bytes : FnScope n_number_bytes ["number"] (defScope s_number_bytes) := ⟨rfl, rfl, rfl, by decide +kernel, rfl, by decide +kernel, by decide +kernel⟩
def wt_number_bytes_1 : MT Unit := (mOpT dGtI (mVar 0) (mC (.int 127)))
def wb_number_bytes_2 : MS Unit := (mSeq (mApp 1 (mOp dAdd (mC (.int 128)) (mOp dMod (mVar 0) (mC (.int 128)))))
    (mSet 0 (mOp dDiv (mVar 0) (mC (.int 128)))))
noncomputable def m_number_bytes : MS Unit := (mSeq (mSetF 1 (mLst mNil))
    (mSeq (mWhile wt_number_bytes_1 wb_number_bytes_2)
    (mRetF (mCatOw 1 (mL (mLst (mCons (mVar 0) mNil)))))))
noncomputable def F_number_bytes : List D → Option D := runP 2 1 m_number_bytes
theorem ok_number_bytes (T : Txt P K mg) : Def1 P wd K mg base "number_bytes" ["number"] 1 (spP K F_number_bytes) := def_pure T.d_number_bytes sc_number_bytes fun f cdv A outer s H E hr =>
    (db_cons (ds_setF (i := 1) sc_number_bytes.nd rfl (by first | exact Or.inl rfl | exact Or.inr rfl) (df_lst da_nil))
    (db_cons (ds_while PassesOwn.never (dt_cmp op_gt od_gtI (de_var 0) de_int (nomark _))
    (db_cons (ds_append 1 (de_op op_addD od_addD de_int (de_op op_modN od_mod (de_var 0) de_int)))
    (db_one (ds_set (i := 0) sc_number_bytes.nd rfl (by first | exact Or.inl rfl | exact Or.inr rfl) (de_op op_fdivN od_div (de_var 0) de_int)))))
    (db_one (ds_retF (df_catOw 1 (de_fresh (df_lst (da_cons (de_var 0) da_nil))))))))
/-! #### read_number -/
abbrev n_read_number : List Str := ["content", "at", "number", "size", "byte"]
theorem sc_read_number : FnScope n_read_number ["content", "at"] (defScope s_read_number) := ⟨rfl, rfl, rfl, by decide +kernel, rfl, by decide +kernel, by decide +kernel⟩
def wt_read_number_1 : MT Unit := (mOpT dLtI (mOp dAdd (mVar 1) (mVar 3)) (mCall dLen (mCons (mVar 0) mNil)))
def wb_read_number_2 : MS Unit := (mSeq (mSet 4 (mOp dIx (mVar 0) (mOp dAdd (mVar 1) (mVar 3))))
    (mSeq (mSet 2 (mOp dAdd (mVar 2) (mOp dShl (mOp dMod (mVar 4) (mC (.int 128))) (mOp dMul (mC (.int 7)) (mVar 3)))))
    (mSeq (mSet 3 (mOp dAdd (mVar 3) (mC (.int 1))))
    (mIfS (mOpT dLtI (mVar 4) (mC (.int 128)))
    (mRet (mIf (mAnd (mOpT dEq (mVar 4) (mC (.int 0))) (mOpT dGtI (mVar 3) (mC (.int 1)))) (mC .none) (mTup (mCons (mVar 2) (mCons (mOp dAdd (mVar 1) (mVar 3)) mNil)))))
    mSkip))))
noncomputable def m_read_number : MS Unit := (mSeq (mSet 2 (mC (.int 0)))
    (mSeq (mSet 3 (mC (.int 0)))
    (mSeq (mWhile wt_read_number_1 wb_read_number_2)
    (mRet (mC .none)))))
noncomputable def F_read_number : List D → Option D := runP 5 2 m_read_number
theorem ok_read_number (T : Txt P K mg) : Def1 P wd K mg base "read_number" ["content", "at"] 1 (spP K F_read_number) := def_pure T.d_read_number sc_read_number fun f cdv A outer s H E hr =>
    (db_cons (ds_set (i := 2) sc_read_number.nd rfl (by first | exact Or.inl rfl | exact Or.inr rfl) de_int)
    (db_cons (ds_set (i := 3) sc_read_number.nd rfl (by first | exact Or.inl rfl | exact Or.inr rfl) de_int)
    (db_cons (ds_while PassesOwn.never (dt_cmp op_lt od_ltI (de_op op_addD od_addD (de_var 1) (de_var 3)) (de_callB call_len cd_len rfl T.z_len (by decide +kernel) (da_cons (de_var 0) da_nil)) (nomark _))
    (db_cons (ds_set (i := 4) sc_read_number.nd rfl (by first | exact Or.inl rfl | exact Or.inr rfl) (de_ix (de_var 0) (de_op op_addD od_addD (de_var 1) (de_var 3))))
    (db_cons (ds_set (i := 2) sc_read_number.nd rfl (by first | exact Or.inl rfl | exact Or.inr rfl) (de_op op_addD od_addD (de_var 2) (de_op op_shl od_shl (de_op op_modN od_mod (de_var 4) de_int) (de_op op_mul od_mul de_int (de_var 3)))))
    (db_cons (ds_set (i := 3) sc_read_number.nd rfl (by first | exact Or.inl rfl | exact Or.inr rfl) (de_op op_addD od_addD (de_var 3) de_int))
    (db_one (ds_if (dt_cmp op_lt od_ltI (de_var 4) de_int (nomark _))
    (db_one (ds_ret (de_if (PW.pt (dw_and (dt_cmp (op_eqD (hu64 hr)) od_eq (de_var 4) de_int (nomark _)) (dw_and1 (dt_cmp op_gt od_gtI (de_var 3) de_int (nomark _))))) de_non (de_tup (da_cons (de_var 2) (da_cons (de_op op_addD od_addD (de_var 1) (de_var 3)) da_nil))))))
    db_nil))))))
    (db_one (ds_ret de_non)))))
/-! #### signed_bytes -/
abbrev n_signed_bytes : List Str := ["number"]
theorem sc_signed_bytes : FnScope n_signed_bytes ["number"] (defScope s_signed_bytes) := ⟨rfl, rfl, rfl, by decide +kernel, rfl, by decide +kernel, by decide +kernel⟩
noncomputable def m_signed_bytes : MS Unit := (mRet (mCall F_number_bytes (mCons (mIf (mOpT dGeI (mVar 0) (mC (.int 0))) (mOp dMul (mC (.int 2)) (mVar 0)) (mOp dSub (mOp dSub (mC (.int 0)) (mOp dMul (mC (.int 2)) (mVar 0))) (mC (.int 1)))) mNil)))
noncomputable def F_signed_bytes : List D → Option D := runP 1 1 m_signed_bytes
theorem ok_signed_bytes (T : Txt P K mg) : Def1 P wd K mg base "signed_bytes" ["number"] 2 (spP K F_signed_bytes) := def_pure T.d_signed_bytes sc_signed_bytes fun f cdv A outer s H E hr =>
    (db_one (ds_ret (call_P (ok_number_bytes T) (hr.mono (by decide)) rfl (da_cons (de_if (dt_cmp op_ge od_geI (de_var 0) de_int (nomark _)) (de_op op_mul od_mul de_int (de_var 0)) (de_op op_sub od_sub (de_op op_sub od_sub de_int (de_op op_mul od_mul de_int (de_var 0))) de_int)) da_nil))))
/-! #### read_signed -/
abbrev n_read_signed : List Str := ["content", "at", "told", "number"]
theorem sc_read_signed : FnScope n_read_signed ["content", "at"] (defScope s_read_signed) := ⟨rfl, rfl, rfl, by decide +kernel, rfl, by decide +kernel, by decide +kernel⟩
noncomputable def m_read_signed : MS Unit := (mSeq (mSet 2 (mCall F_read_number (mCons (mVar 0) (mCons (mVar 1) mNil))))
    (mSeq (mIfS (mOpT dIs (mVar 2) (mC .none))
    (mRet (mC .none))
    mSkip)
    (mSeq (mSet 3 (mIf (mOpT dEq (mOp dMod (mOp dIx (mVar 2) (mC (.int 0))) (mC (.int 2))) (mC (.int 0))) (mOp dDiv (mOp dIx (mVar 2) (mC (.int 0))) (mC (.int 2))) (mOp dSub (mC (.int 0)) (mOp dDiv (mOp dAdd (mOp dIx (mVar 2) (mC (.int 0))) (mC (.int 1))) (mC (.int 2))))))
    (mRet (mTup (mCons (mVar 3) (mCons (mOp dIx (mVar 2) (mC (.int 1))) mNil)))))))
noncomputable def F_read_signed : List D → Option D := runP 4 2 m_read_signed
theorem ok_read_signed (T : Txt P K mg) : Def1 P wd K mg base "read_signed" ["content", "at"] 2 (spP K F_read_signed) := def_pure T.d_read_signed sc_read_signed fun f cdv A outer s H E hr =>
    (db_cons (ds_set (i := 2) sc_read_signed.nd rfl (by first | exact Or.inl rfl | exact Or.inr rfl) (call_P (ok_read_number T) (hr.mono (by decide)) rfl (da_cons (de_var 0) (da_cons (de_var 1) da_nil))))
    (db_cons (ds_if (dt_cmp op_isN od_is (de_var 2) de_non (nomark _))
    (db_one (ds_ret de_non))
    db_nil)
    (db_cons (ds_set (i := 3) sc_read_signed.nd rfl (by first | exact Or.inl rfl | exact Or.inr rfl) (de_if (dt_cmp (op_eqD (hu64 hr)) od_eq (de_op op_modN od_mod (de_ix (de_var 2) de_int) de_int) de_int (nomark _)) (de_op op_fdivN od_div (de_ix (de_var 2) de_int) de_int) (de_op op_sub od_sub de_int (de_op op_fdivN od_div (de_op op_addD od_addD (de_ix (de_var 2) de_int) de_int) de_int))))
    (db_one (ds_ret (de_tup (da_cons (de_var 3) (da_cons (de_ix (de_var 2) de_int) da_nil))))))))
/-! #### text_bytes -/
abbrev n_text_bytes : List Str := ["text", "sign"]
theorem sc_text_bytes : FnScope n_text_bytes ["text"] (defScope s_text_bytes) := ⟨rfl, rfl, rfl, by decide +kernel, rfl, by decide +kernel, by decide +kernel⟩
noncomputable def m_text_bytes : MX Unit := (mSeqX (mIfX (mNot (mTru (mCall dAll (mCons (mL (mComp (mItS (mVar 0)) [1] (bName 1) mYes (mOp (dInS false) (mVar 1) (mC (.str " 0123456789_abcdefghijklmnopqrstuvwxyz'(),.*+-=<>\x0a!\"#$&/:;?@ABCDEFGHIJKLMNOPQRSTUVWXYZ[\\]^`{|}~"))))) mNil))))
    (mRaise "ShapeError" (mC (.str "text")))
    (mNm mSkip))
    (mNm (mRetF (mCat (mCall F_number_bytes (mCons (mCall dLen (mCons (mVar 0) mNil)) mNil)) (mL (mComp (mItS (mVar 0)) [1] (bName 1) mYes (mM1 dIndex (mC (.str " 0123456789_abcdefghijklmnopqrstuvwxyz'(),.*+-=<>\x0a!\"#$&/:;?@ABCDEFGHIJKLMNOPQRSTUVWXYZ[\\]^`{|}~")) (mVar 1))))))))
noncomputable def F_text_bytes : List D → Option (Except Str (List D)) := runNX "ShapeError" 2 1 m_text_bytes
theorem ok_text_bytes (T : Txt P K mg) : Def1X P wd K mg base "text_bytes" ["text"] 3 (spNX K "ShapeError" F_text_bytes) := def_NX T.d_text_bytes sc_text_bytes fun f cdv A outer s H E hr =>
    (dbx_cons (dsx_if (dt_not (dt_tru (de_callB (cr_all rfl) cd_all rfl T.z_all (by decide +kernel) (da_cons (de_fresh (df_comp (own := [("sign", 1)]) rfl sc_text_bytes.nd (di_str (de_var 0)) (blkOk_by (N := n_text_bytes) (sc := defScope s_text_bytes) (by decide +kernel)) (fun _ _ _ _ _ => (dg_name (i := 1) sc_text_bytes.nd rfl (by first | exact Or.inl rfl | exact Or.inr rfl))) (fun _ _ _ _ _ => dts_nil) (fun _ _ _ _ _ => (de_cmp op_in_sign od_inS (de_var 1) (de_cst T.c_SIGNS) (by rfl))))) da_nil))))
    (dbx_one (dsx_raise rfl (takes_of rfl rfl rfl rfl) (T.x_ShapeError _ _) (hr.mono (by decide)) rfl de_str))
    dbx_nil)
    (dbx_one (dsx_of (ds_retF (df_cat (call_P (ok_number_bytes T) (hr.mono (by decide)) rfl (da_cons (de_callB call_len cd_len rfl T.z_len (by decide +kernel) (da_cons (de_var 0) da_nil)) da_nil)) (de_fresh (df_comp (own := [("sign", 1)]) rfl sc_text_bytes.nd (di_str (de_var 0)) (blkOk_by (N := n_text_bytes) (sc := defScope s_text_bytes) (by decide +kernel)) (fun _ _ _ _ _ => (dg_name (i := 1) sc_text_bytes.nd rfl (by first | exact Or.inl rfl | exact Or.inr rfl))) (fun _ _ _ _ _ => dts_nil) (fun _ _ _ _ _ => (de_index (de_cst T.c_SIGNS) (de_var 1))))))))))
/-! #### read_text -/
abbrev n_read_text : List Str := ["content", "at", "told", "row", "byte"]
theorem sc_read_text : FnScope n_read_text ["content", "at"] (defScope s_read_text) := ⟨rfl, rfl, rfl, by decide +kernel, rfl, by decide +kernel, by decide +kernel⟩
noncomputable def m_read_text : MS Unit := (mSeq (mSet 2 (mCall F_read_number (mCons (mVar 0) (mCons (mVar 1) mNil))))
    (mSeq (mIfS (mOr (mOpT dIs (mVar 2) (mC .none)) (mOpT dGtI (mOp dAdd (mOp dIx (mVar 2) (mC (.int 1))) (mOp dIx (mVar 2) (mC (.int 0)))) (mCall dLen (mCons (mVar 0) mNil))))
    (mRet (mC .none))
    mSkip)
    (mSeq (mSet 3 (mL (mSlL (mVar 0) (mPart (mOp dIx (mVar 2) (mC (.int 1)))) (mPart (mOp dAdd (mOp dIx (mVar 2) (mC (.int 1))) (mOp dIx (mVar 2) (mC (.int 0))))))))
    (mSeq (mIfS (mNot (mTru (mCall dAll (mCons (mL (mComp (mItL (mVar 3)) [4] (bName 4) mYes (mOp dLtI (mVar 4) (mCall dLen (mCons (mC (.str " 0123456789_abcdefghijklmnopqrstuvwxyz'(),.*+-=<>\x0a!\"#$&/:;?@ABCDEFGHIJKLMNOPQRSTUVWXYZ[\\]^`{|}~")) mNil))))) mNil))))
    (mRet (mC .none))
    mSkip)
    (mRet (mTup (mCons (mM1 dJoin (mC (.str "")) (mL (mComp (mItL (mVar 3)) [4] (bName 4) mYes (mOp dIx (mC (.str " 0123456789_abcdefghijklmnopqrstuvwxyz'(),.*+-=<>\x0a!\"#$&/:;?@ABCDEFGHIJKLMNOPQRSTUVWXYZ[\\]^`{|}~")) (mVar 4))))) (mCons (mOp dAdd (mOp dIx (mVar 2) (mC (.int 1))) (mOp dIx (mVar 2) (mC (.int 0)))) mNil))))))))
noncomputable def F_read_text : List D → Option D := runP 5 2 m_read_text
theorem ok_read_text (T : Txt P K mg) : Def1 P wd K mg base "read_text" ["content", "at"] 2 (spP K F_read_text) := def_pure T.d_read_text sc_read_text fun f cdv A outer s H E hr =>
    (db_cons (ds_set (i := 2) sc_read_text.nd rfl (by first | exact Or.inl rfl | exact Or.inr rfl) (call_P (ok_read_number T) (hr.mono (by decide)) rfl (da_cons (de_var 0) (da_cons (de_var 1) da_nil))))
    (db_cons (ds_if (PW.pt (dw_or (dt_cmp op_isN od_is (de_var 2) de_non (nomark _)) (dw_or1 (dt_cmp op_gt od_gtI (de_op op_addD od_addD (de_ix (de_var 2) de_int) (de_ix (de_var 2) de_int)) (de_callB call_len cd_len rfl T.z_len (by decide +kernel) (da_cons (de_var 0) da_nil)) (nomark _)))))
    (db_one (ds_ret de_non))
    db_nil)
    (db_cons (ds_set (i := 3) sc_read_text.nd rfl (by first | exact Or.inl rfl | exact Or.inr rfl) (de_fresh (df_slice (de_var 0) (do_some (de_ix (de_var 2) de_int)) (do_some (de_op op_addD od_addD (de_ix (de_var 2) de_int) (de_ix (de_var 2) de_int))))))
    (db_cons (ds_if (dt_not (dt_tru (de_callB (cr_all rfl) cd_all rfl T.z_all (by decide +kernel) (da_cons (de_fresh (df_comp (own := [("byte", 4)]) rfl sc_read_text.nd (di_list (de_var 3)) (blkOk_by (N := n_read_text) (sc := defScope s_read_text) (by decide +kernel)) (fun _ _ _ _ _ => (dg_name (i := 4) sc_read_text.nd rfl (by first | exact Or.inl rfl | exact Or.inr rfl))) (fun _ _ _ _ _ => dts_nil) (fun _ _ _ _ _ => (de_cmp op_lt od_ltI (de_var 4) (de_callB call_len cd_len rfl T.z_len (by decide +kernel) (da_cons (de_cst T.c_SIGNS) da_nil)) (nomark _))))) da_nil))))
    (db_one (ds_ret de_non))
    db_nil)
    (db_one (ds_ret (de_tup (da_cons (de_join de_str (de_fresh (df_comp (own := [("byte", 4)]) rfl sc_read_text.nd (di_list (de_var 3)) (blkOk_by (N := n_read_text) (sc := defScope s_read_text) (by decide +kernel)) (fun _ _ _ _ _ => (dg_name (i := 4) sc_read_text.nd rfl (by first | exact Or.inl rfl | exact Or.inr rfl))) (fun _ _ _ _ _ => dts_nil) (fun _ _ _ _ _ => (de_ix (de_cst T.c_SIGNS) (de_var 4)))))) (da_cons (de_op op_addD od_addD (de_ix (de_var 2) de_int) (de_ix (de_var 2) de_int)) da_nil)))))))))
/-! #### bytes_of -/
abbrev n_bytes_of : List Str := ["thing", "found", "part"]
theorem sc_bytes_of : FnScope n_bytes_of ["thing"] (defScope s_bytes_of) := ⟨rfl, rfl, rfl, by decide +kernel, rfl, by decide +kernel, by decide +kernel⟩
def lb_bytes_of_1 (self : List D → Option (Except Str (List D))) : MX Unit := (mExtX "ShapeError" 1 (mLX (mCallX self (mCons (mVar 2) mNil))))
noncomputable def m_bytes_of (self : List D → Option (Except Str (List D))) : MX Unit := (mSeqX (mNm (mIfS (mOpT dIs (mVar 0) (mC .none))
    (mRetF (mLst (mCons (mC (.int 0)) mNil)))
    mSkip))
    (mSeqX (mNm (mIfS (mTru (mIsi "bool" (mVar 0)))
    (mRetF (mLst (mCons (mIf (mTru (mVar 0)) (mC (.int 2)) (mC (.int 1))) mNil)))
    mSkip))
    (mSeqX (mNm (mIfS (mTru (mIsi "int" (mVar 0)))
    (mRetF (mCat (mL (mLst (mCons (mC (.int 3)) mNil))) (mCall F_signed_bytes (mCons (mVar 0) mNil))))
    mSkip))
    (mSeqX (mIfX (mTru (mIsi "str" (mVar 0)))
    (mRetFX "ShapeError" (mCatX (mL (mLst (mCons (mC (.int 4)) mNil))) (mLX (mCallX F_text_bytes (mCons (mVar 0) mNil)))))
    (mNm mSkip))
    (mSeqX (mIfX (mNot (mTru (mIsi2 "tuple" "list" (mVar 0))))
    (mRaise "ShapeError" (mC (.str "thing")))
    (mNm mSkip))
    (mSeqX (mNm (mSetF 1 (mCat (mL (mLst (mCons (mIf (mTru (mIsi "tuple" (mVar 0))) (mC (.int 5)) (mC (.int 6))) mNil))) (mCall F_number_bytes (mCons (mCall dLen (mCons (mVar 0) mNil)) mNil)))))
    (mSeqX (mForX (mItQ (mVar 0)) (bName 2) (lb_bytes_of_1 self))
    (mNm (mRetOw 1)))))))))
noncomputable def F_bytes_of : Nat → List D → Option (Except Str (List D))
  | 0 => fun _ => none
  | k + 1 => runNX "ShapeError" 3 1 (m_bytes_of (F_bytes_of k))
theorem ok_bytes_of (T : Txt P K mg) : ∀ k : Nat, Def1X P wd K mg base "bytes_of" ["thing"] (4 + k) (spNX K "ShapeError" (F_bytes_of k))
  | 0 => def_noX T.d_bytes_of sc_bytes_of spNX_no
  | k + 1 => def_NX T.d_bytes_of sc_bytes_of fun f cdv A outer s H E hr =>
    (dbx_cons (dsx_of (ds_if (dt_cmp op_isN od_is (de_var 0) de_non (nomark _))
    (db_one (ds_retF (df_lst (da_cons (de_cst T.c_NONE) da_nil))))
    db_nil))
    (dbx_cons (dsx_of (ds_if (dt_tru (de_isi (T := "bool") rfl T.z_isinstance rfl T.z_bool (by decide +kernel) (de_var 0)))
    (db_one (ds_retF (df_lst (da_cons (de_if (dt_tru (de_var 0)) (de_cst T.c_TRUE) (de_cst T.c_FALSE)) da_nil))))
    db_nil))
    (dbx_cons (dsx_of (ds_if (dt_tru (de_isi (T := "int") rfl T.z_isinstance rfl T.z_int (by decide +kernel) (de_var 0)))
    (db_one (ds_retF (df_cat (de_fresh (df_lst (da_cons (de_cst T.c_NUMBER) da_nil))) (call_P (ok_signed_bytes T) (hr.mono (Nat.le_trans (by decide : 2 ≤ 4) (Nat.le_add_right 4 k))) rfl (da_cons (de_var 0) da_nil)))))
    db_nil))
    (dbx_cons (dsx_if (dt_tru (de_isi (T := "str") rfl T.z_isinstance rfl T.z_str (by decide +kernel) (de_var 0)))
    (dbx_one (dsx_retF (dfx_cat (de_fresh (df_lst (da_cons (de_cst T.c_TEXT) da_nil))) (dex_fresh (call_NX (takes_of rfl rfl rfl rfl) (ok_text_bytes T) (hr.mono (Nat.le_trans (by decide : 3 ≤ 4) (Nat.le_add_right 4 k))) rfl (da_cons (de_var 0) da_nil))))))
    dbx_nil)
    (dbx_cons (dsx_if (dt_not (dt_tru (de_isi2 (T := "tuple") (U := "list") rfl T.z_isinstance rfl T.z_tuple (by decide +kernel) rfl T.z_list (by decide +kernel) (de_var 0))))
    (dbx_one (dsx_raise rfl (takes_of rfl rfl rfl rfl) (T.x_ShapeError _ _) (hr.mono (Nat.le_trans (by decide : 2 ≤ 4) (Nat.le_add_right 4 k))) rfl de_str))
    dbx_nil)
    (dbx_cons (dsx_of (ds_setF (i := 1) sc_bytes_of.nd rfl (by first | exact Or.inl rfl | exact Or.inr rfl) (df_cat (de_fresh (df_lst (da_cons (de_if (dt_tru (de_isi (T := "tuple") rfl T.z_isinstance rfl T.z_tuple (by decide +kernel) (de_var 0))) (de_cst T.c_TUPLE) (de_cst T.c_LIST)) da_nil))) (call_P (ok_number_bytes T) (hr.mono (Nat.le_trans (by decide : 1 ≤ 4) (Nat.le_add_right 4 k))) rfl (da_cons (de_callB call_len cd_len rfl T.z_len (by decide +kernel) (da_cons (de_var 0) da_nil)) da_nil)))))
    (dbx_cons (dsx_for (passes_of rfl) rfl (di_seq (de_var 0)) (dg_name (i := 2) sc_bytes_of.nd rfl (by first | exact Or.inl rfl | exact Or.inr rfl))
    (dbx_one (dsx_extend 1 (dex_fresh (call_NX (takes_of rfl rfl rfl rfl) (ok_bytes_of T k) (hr.mono (Nat.le_refl _)) rfl (da_cons (de_var 2) da_nil))))))
    (dbx_one (dsx_of (ds_retOw 1))))))))))
/-! #### read_thing -/
abbrev n_read_thing : List Str := ["content", "at", "tag", "told", "count", "here", "found", "part"]
theorem sc_read_thing : FnScope n_read_thing ["content", "at"] (defScope s_read_thing) := ⟨rfl, rfl, rfl, by decide +kernel, rfl, by decide +kernel, by decide +kernel⟩
def wt_read_thing_1 (self : List D → Option D) : MT Unit := (mLendT [6] (mOpT dLtI (mCall dLen (mCons (mVar 6) mNil)) (mVar 4)))
def wb_read_thing_2 (self : List D → Option D) : MS Unit := (mSeq (mSet 7 (mCall self (mCons (mVar 0) (mCons (mVar 5) mNil))))
    (mSeq (mIfS (mOpT dIs (mVar 7) (mC .none))
    (mRet (mC .none))
    mSkip)
    (mSeq (mApp 6 (mOp dIx (mVar 7) (mC (.int 0))))
    (mSet 5 (mOp dIx (mVar 7) (mC (.int 1)))))))
noncomputable def m_read_thing (self : List D → Option D) : MS Unit := (mSeq (mIfS (mOpT dGeI (mVar 1) (mCall dLen (mCons (mVar 0) mNil)))
    (mRet (mC .none))
    mSkip)
    (mSeq (mSet 2 (mOp dIx (mVar 0) (mVar 1)))
    (mSeq (mIfS (mOpT (dInF false) (mVar 2) (mTup (mCons (mC (.int 0)) (mCons (mC (.int 1)) (mCons (mC (.int 2)) mNil)))))
    (mRet (mTup (mCons (mDictIx [0, 1, 2] (mCons (mC .none) (mCons (mC (.bool false)) (mCons (mC (.bool true)) mNil))) (mVar 2)) (mCons (mOp dAdd (mVar 1) (mC (.int 1))) mNil))))
    mSkip)
    (mSeq (mIfS (mOpT dEq (mVar 2) (mC (.int 3)))
    (mRet (mCall F_read_signed (mCons (mVar 0) (mCons (mOp dAdd (mVar 1) (mC (.int 1))) mNil))))
    mSkip)
    (mSeq (mIfS (mOpT dEq (mVar 2) (mC (.int 4)))
    (mRet (mCall F_read_text (mCons (mVar 0) (mCons (mOp dAdd (mVar 1) (mC (.int 1))) mNil))))
    mSkip)
    (mSeq (mSet 3 (mIf (mOpT (dInF false) (mVar 2) (mTup (mCons (mC (.int 5)) (mCons (mC (.int 6)) mNil)))) (mCall F_read_number (mCons (mVar 0) (mCons (mOp dAdd (mVar 1) (mC (.int 1))) mNil))) (mC .none)))
    (mSeq (mIfS (mOpT dIs (mVar 3) (mC .none))
    (mRet (mC .none))
    mSkip)
    (mSeq (mAsg (bTup 2 (bCons (bName 4) (bCons (bName 5) bNil))) (mVar 3))
    (mSeq (mSetF 6 (mLst mNil))
    (mSeq (mWhile (wt_read_thing_1 self) (wb_read_thing_2 self))
    (mFrz 6 (mRet (mTup (mCons (mIf (mOpT dEq (mVar 2) (mC (.int 5))) (mCall dTupleOf (mCons (mVar 6) mNil)) (mVar 6)) (mCons (mVar 5) mNil)))))))))))))))
noncomputable def F_read_thing : Nat → List D → Option D
  | 0 => fun _ => none
  | k + 1 => runP 8 2 (m_read_thing (F_read_thing k))
theorem ok_read_thing (T : Txt P K mg) : ∀ k : Nat, Def1 P wd K mg base "read_thing" ["content", "at"] (3 + k) (spP K (F_read_thing k))
  | 0 => def_no T.d_read_thing sc_read_thing spP_no
  | k + 1 => def_pure T.d_read_thing sc_read_thing fun f cdv A outer s H E hr =>
    (db_cons (ds_if (dt_cmp op_ge od_geI (de_var 1) (de_callB call_len cd_len rfl T.z_len (by decide +kernel) (da_cons (de_var 0) da_nil)) (nomark _))
    (db_one (ds_ret de_non))
    db_nil)
    (db_cons (ds_set (i := 2) sc_read_thing.nd rfl (by first | exact Or.inl rfl | exact Or.inr rfl) (de_ix (de_var 0) (de_var 1)))
    (db_cons (ds_if (dt_cmp op_in_seq (od_inF false) (de_var 2) (de_tup (da_cons (de_cst T.c_NONE) (da_cons (de_cst T.c_FALSE) (da_cons (de_cst T.c_TRUE) da_nil)))) (by rfl))
    (db_one (ds_ret (de_tup (da_cons (de_dictIx (ks := [0, 1, 2]) (hu65 hr) (dpi_cons (de_cst T.c_NONE) de_non (dpi_cons (de_cst T.c_FALSE) de_bl (dpi_cons (de_cst T.c_TRUE) de_bl dpi_nil))) (de_var 2) (by decide)) (da_cons (de_op op_addD od_addD (de_var 1) de_int) da_nil)))))
    db_nil)
    (db_cons (ds_if (dt_cmp (op_eqD (hu64 hr)) od_eq (de_var 2) (de_cst T.c_NUMBER) (nomark _))
    (db_one (ds_ret (call_P (ok_read_signed T) (hr.mono (Nat.le_trans (by decide : 2 ≤ 3) (Nat.le_add_right 3 k))) rfl (da_cons (de_var 0) (da_cons (de_op op_addD od_addD (de_var 1) de_int) da_nil)))))
    db_nil)
    (db_cons (ds_if (dt_cmp (op_eqD (hu64 hr)) od_eq (de_var 2) (de_cst T.c_TEXT) (nomark _))
    (db_one (ds_ret (call_P (ok_read_text T) (hr.mono (Nat.le_trans (by decide : 2 ≤ 3) (Nat.le_add_right 3 k))) rfl (da_cons (de_var 0) (da_cons (de_op op_addD od_addD (de_var 1) de_int) da_nil)))))
    db_nil)
    (db_cons (ds_set (i := 3) sc_read_thing.nd rfl (by first | exact Or.inl rfl | exact Or.inr rfl) (de_if (dt_cmp op_in_seq (od_inF false) (de_var 2) (de_tup (da_cons (de_cst T.c_TUPLE) (da_cons (de_cst T.c_LIST) da_nil))) (by rfl)) (call_P (ok_read_number T) (hr.mono (Nat.le_trans (by decide : 1 ≤ 3) (Nat.le_add_right 3 k))) rfl (da_cons (de_var 0) (da_cons (de_op op_addD od_addD (de_var 1) de_int) da_nil))) de_non))
    (db_cons (ds_if (dt_cmp op_isN od_is (de_var 3) de_non (nomark _))
    (db_one (ds_ret de_non))
    db_nil)
    (db_cons (ds_asg (de_var 3) (dg_tup rfl (dgs_cons (dg_name (i := 4) sc_read_thing.nd rfl (by first | exact Or.inl rfl | exact Or.inr rfl)) (dgs_cons (dg_name (i := 5) sc_read_thing.nd rfl (by first | exact Or.inl rfl | exact Or.inr rfl)) dgs_nil))))
    (db_cons (ds_setF (i := 6) sc_read_thing.nd rfl (by first | exact Or.inl rfl | exact Or.inr rfl) (df_lst da_nil))
    (db_cons (ds_while PassesOwn.never (dt_lend [6] (dt_cmp op_lt od_ltI (de_callB call_len cd_len rfl T.z_len (by decide +kernel) (da_cons (de_var 6) da_nil)) (de_var 4) (nomark _)))
    (db_cons (ds_set (i := 7) sc_read_thing.nd rfl (by first | exact Or.inl rfl | exact Or.inr rfl) (call_P (ok_read_thing T k) (hr.mono (Nat.le_refl _)) rfl (da_cons (de_var 0) (da_cons (de_var 5) da_nil))))
    (db_cons (ds_if (dt_cmp op_isN od_is (de_var 7) de_non (nomark _))
    (db_one (ds_ret de_non))
    db_nil)
    (db_cons (ds_append 6 (de_ix (de_var 7) de_int))
    (db_one (ds_set (i := 5) sc_read_thing.nd rfl (by first | exact Or.inl rfl | exact Or.inr rfl) (de_ix (de_var 7) de_int)))))))
    (db_one (ds_frz 6 (ds_ret (de_tup (da_cons (de_if (dt_cmp (op_eqD (hu64 hr)) od_eq (de_var 2) (de_cst T.c_TUPLE) (nomark _)) (de_callTy call_tuple_of cd_tuple rfl T.z_tuple (by decide +kernel) (da_cons (de_var 6) da_nil)) (de_var 6)) (da_cons (de_var 5) da_nil))))))))))))))))
/-! #### whole_thing -/
abbrev n_whole_thing : List Str := ["content", "told"]
theorem sc_whole_thing : FnScope n_whole_thing ["content"] (defScope s_whole_thing) := ⟨rfl, rfl, rfl, by decide +kernel, rfl, by decide +kernel, by decide +kernel⟩
noncomputable def m_whole_thing : MS Unit := (mSeq (mSet 1 (mCall (F_read_thing 5) (mCons (mVar 0) (mCons (mC (.int 0)) mNil))))
    (mRet (mIf (mAnd (mOpT dIsNot (mVar 1) (mC .none)) (mOpT dEq (mOp dIx (mVar 1) (mC (.int 1))) (mCall dLen (mCons (mVar 0) mNil)))) (mTup (mCons (mOp dIx (mVar 1) (mC (.int 0))) mNil)) (mC .none))))
noncomputable def F_whole_thing : List D → Option D := runP 2 1 m_whole_thing
theorem ok_whole_thing (T : Txt P K mg) : Def1 P wd K mg base "whole_thing" ["content"] 9 (spP K F_whole_thing) := def_pure T.d_whole_thing sc_whole_thing fun f cdv A outer s H E hr =>
    (db_cons (ds_set (i := 1) sc_whole_thing.nd rfl (by first | exact Or.inl rfl | exact Or.inr rfl) (call_P (ok_read_thing T 5) (hr.mono (by decide)) rfl (da_cons (de_var 0) (da_cons de_int da_nil))))
    (db_one (ds_ret (de_if (PW.pt (dw_and (dt_cmp op_notN od_isNot (de_var 1) de_non (nomark _)) (dw_and1 (dt_cmp (op_eqD (hu64 hr)) od_eq (de_ix (de_var 1) de_int) (de_callB call_len cd_len rfl T.z_len (by decide +kernel) (da_cons (de_var 0) da_nil)) (nomark _))))) (de_tup (da_cons (de_ix (de_var 1) de_int) da_nil)) de_non))))
/-! #### thing_of -/
abbrev n_thing_of : List Str := ["content", "told"]
theorem sc_thing_of : FnScope n_thing_of ["content"] (defScope s_thing_of) := ⟨rfl, rfl, rfl, by decide +kernel, rfl, by decide +kernel, by decide +kernel⟩
noncomputable def m_thing_of : MX Unit := (mSeqX (mNm (mSet 1 (mCall (F_read_thing 5) (mCons (mVar 0) (mCons (mC (.int 0)) mNil)))))
    (mSeqX (mIfX (mOpT dIs (mVar 1) (mC .none))
    (mRaise "ShapeError" (mC (.str "bytes")))
    (mNm mSkip))
    (mNm (mRet (mOp dIx (mVar 1) (mC (.int 0)))))))
noncomputable def F_thing_of : List D → Option (Except Str D) := runPX "ShapeError" 2 1 m_thing_of
theorem ok_thing_of (T : Txt P K mg) : Def1X P wd K mg base "thing_of" ["content"] 9 (spPX K "ShapeError" F_thing_of) := def_PX T.d_thing_of sc_thing_of fun f cdv A outer s H E hr =>
    (dbx_cons (dsx_of (ds_set (i := 1) sc_thing_of.nd rfl (by first | exact Or.inl rfl | exact Or.inr rfl) (call_P (ok_read_thing T 5) (hr.mono (by decide)) rfl (da_cons (de_var 0) (da_cons de_int da_nil)))))
    (dbx_cons (dsx_if (dt_cmp op_isN od_is (de_var 1) de_non (nomark _))
    (dbx_one (dsx_raise rfl (takes_of rfl rfl rfl rfl) (T.x_ShapeError _ _) (hr.mono (by decide)) rfl de_str))
    dbx_nil)
    (dbx_one (dsx_of (ds_ret (de_ix (de_var 1) de_int))))))
/-! #### the list of draws -/
abbrev n__law_state : List Str := ["script", "cells", "cell"]
theorem sc__law_state : FnScope n__law_state ["script"] (defScope s__law_state) := ⟨rfl, rfl, rfl, by decide +kernel, rfl, by decide +kernel, by decide +kernel⟩
theorem ok__law_state (T : Txt P K mg) : Def1 P wd K mg base "_law_state" ["script"] 1 (spState K) := by
  obtain ⟨f, fd, F, hm, hB⟩ := T.d__law_state.ex
  refine ⟨f, fd, F.ok sc__law_state (fun vs H Q E h => ?_) (fun cdv A outer s H vs Q E hr h => ?_), hm, F.kp, hB⟩
  · obtain ⟨a, ns, rfl, _⟩ := h
    rfl
  · obtain ⟨a, ns, rfl, hS, hl, kk⟩ := h
    refine ⟨_, pss_cons (ps_setLc (i := 1) (own := [("cell", 2)]) rfl sc__law_state.nd rfl rfl (sw_true rfl rfl rfl (by decide +kernel)) (pi_list (pe_slice sl_list (pv 0) po_none (po_some pe_int))) (blkOk_by (N := n__law_state) (sc := defScope s__law_state) (by decide +kernel))
        (fun _ _ _ _ _ => pg_name (i := 2) sc__law_state.nd rfl (by first | exact Or.inl rfl | exact Or.inr rfl)) (fun _ _ _ _ _ => pts_nil) (fun _ _ _ _ _ => pe_callB call_abs (by rfl) T.z_abs (by decide +kernel) (pa_cons (pv 2) pa_nil)))
      (pss_cons (ps_if (pt_cmpR op_eq (pe_callB call_len_seq (by rfl) T.z_len PySem.boot_len (pa_cons (pv 1) pa_nil)) pe_int (nomark _))
        (pss_one (ps_set (i := 1) sc__law_state.nd rfl (.inl rfl) (pe_lst (pa_cons pe_int pa_nil)))) pss_nil)
      (pss_one (ps_ret (pe_lst (pa_cons pe_int (pa_cons (pv 1) pa_nil)))))), ?_⟩
    obtain ⟨ms, em, hml⟩ := cut_ints ns none (some 63)
    refine ⟨_, rfl, _, rfl, a, _, rfl, hS, fun p hp => ?_⟩
    rw [em]
    refine ⟨p, rfl, ⟨_, SqL.of upd_same⟩, fun D hD => ?_⟩
    have npD : p ≠ D := fun z => by rw [← z, upd_same] at hD; cases hD
    have hD0 : H D = none := by rw [upd_ne npD.symm] at hD; exact hD
    refine lc_list (K := K) (a := p) (xs := ms.map V.int) (fun i H2 => ∃ cs : List Int, cs.length = i ∧ H2 D = some (.lst (cs.map V.int)) ∧ H2 p = some (.lst (ms.map V.int)) ∧ ∀ b, b ≠ p → b ≠ D → H2 b = H b)
      ⟨[], rfl, upd_same, by rw [upd_ne npD, upd_same], fun b h1 h2 => by rw [upd_ne h2, upd_ne h1]⟩ (fun i H2 _ ⟨cs, _, _, h2, _⟩ => SqL.of h2) ?_ ?_
    · rintro i x H2 hx ⟨cs, hc, h1, h2, h3⟩
      have hil : i < (ms.map V.int).length := (List.getElem?_eq_some_iff.mp hx).1
      rw [List.length_map] at hil
      rw [List.getElem?_map, List.getElem?_eq_getElem hil] at hx
      cases hx
      refine ⟨rfl, _, rfl, _, rfl, _, h1, ?_, cs ++ [if ms[i] < 0 then -ms[i] else ms[i]], ?_, ?_, ?_, fun b g1 g2 => ?_⟩
      · rw [List.length_map]; have : (63 : Nat) < sizeLine := by decide
        omega
      · rw [List.length_append, hc]; rfl
      · rw [upd_same, List.map_append]; rfl
      · rw [upd_ne npD]; exact h2
      · rw [upd_ne g2]; exact h3 b g1 g2
    · rintro H2 ⟨cs, hc, h1, h2, h3⟩
      rw [List.length_map] at hc
      have nD : H2 D ≠ none := by rw [h1]; simp
      have fin : ∀ (c : Addr) (cs : List Int) (H3 : Hp) (q : Addr), H c = none → 0 < cs.length → cs.length ≤ 63 → H3 c = some (.lst (cs.map V.int)) → H3 q = none → (∀ b, b ≠ p → b ≠ D → b ≠ c → H3 b = H b) → H3 p ≠ none → H3 D ≠ none →
          Q (.ref q) (upd H3 q (.lst [.int 0, .ref c])) := fun c cs H3 q hc0 k1 k2 k3 k4 k5 k6 k7 => by
        have q1 : q ≠ p := fun z => k6 (z ▸ k4)
        have q2 : q ≠ D := fun z => k7 (z ▸ k4)
        have q3 : q ≠ c := fun z => by rw [z, k3] at k4; cases k4
        refine kk ⟨q, c, 0, cs⟩ _ ((k5 q q1 q2 q3).symm.trans k4) hc0 ⟨q3, upd_same, by show upd H3 q _ c = _; rw [upd_ne q3.symm]; exact k3, k1, k2⟩ fun b o e => ?_
        have b1 : b ≠ p := fun z => by rw [z, hp] at e; cases e
        have b2 : b ≠ D := fun z => by rw [z, hD0] at e; cases e
        have b3 : b ≠ c := fun z => by rw [z, hc0] at e; cases e
        have b4 : b ≠ q := fun z => by rw [z, ← k5 q q1 q2 q3, k4] at e; cases e
        rw [upd_ne b4, k5 b b1 b2 b3]; exact e
      refine ⟨_, rfl, _, _, rfl, .inl (SqL.of h1), rfl, _, rfl, ?_⟩
      rw [dec_int]
      by_cases hz : cs.length = 0
      · refine iteT' ?_ ?_
        · rw [List.length_map, hz]; rfl
        · refine ⟨(by show 1 ≤ sizeLine; decide), fun r hr0 => ⟨_, rfl, (by show 2 ≤ sizeLine; decide), fun q hq => ?_⟩⟩
          have hrp : r ≠ p := fun z => by rw [z, h2] at hr0; cases hr0
          have hrD : r ≠ D := fun z => by rw [z, h1] at hr0; cases hr0
          refine fin r [0] _ q ((h3 r hrp hrD).symm.trans hr0) (by decide) (by decide) upd_same hq (fun b b1 b2 b3 => by rw [upd_ne b3]; exact h3 b b1 b2) ?_ ?_
          · rw [upd_ne hrp.symm, h2]; simp
          · rw [upd_ne hrD.symm, h1]; simp
      · refine iteF' ?_ ?_
        · rw [List.length_map]; exact beq_false_of_ne (by omega)
        · refine ⟨_, rfl, (by show 2 ≤ sizeLine; decide), fun q hq => fin D cs H2 q hD0 (by omega) (by omega) h1 hq (fun b b1 b2 _ => h3 b b1 b2) (by rw [h2]; simp) nD⟩

/-! #### the draws -/
abbrev n__law_take : List Str := ["state", "most", "cells", "at", "cell", "mixed"]
theorem sc__law_take : FnScope n__law_take ["state", "most"] (defScope s__law_take) := ⟨rfl, rfl, rfl, by decide +kernel, rfl, by decide +kernel, by decide +kernel⟩
theorem ok__law_take (T : Txt P K mg) : Def1 P wd K mg base "_law_take" ["state", "most"] 1 (spG K drA drawA) := by
  obtain ⟨f, fd, F, hm, hB⟩ := T.d__law_take.ex
  refine ⟨f, fd, F.ok sc__law_take (fun vs H Q E h => ?_) (fun cdv A outer s H vs Q E hr h => ?_), hm, F.kp, hB⟩
  · obtain ⟨I, g, as, d, g', _, _, _, ra, e, _⟩ := h
    obtain ⟨most, rfl, _⟩ := drawA_some e
    exact ra.len
  · obtain ⟨I, g, as, d, g', sI, ok, fI, ra, e, kk⟩ := h
    obtain ⟨most, rfl, h0, h1, rfl, rfl⟩ := drawA_some e
    obtain ⟨ne, hs, hc, hl, hl63⟩ := id ok
    obtain ⟨v0, v1, rfl, rfl, rfl⟩ : ∃ v0 v1, vs = [v0, v1] ∧ v0 = .ref g.s ∧ v1 = .int most := by
      cases ra with
      | cons a b => cases b with
        | cons b c => cases c; cases b; exact ⟨_, _, rfl, a, rfl⟩
    obtain ⟨j, ej, hj⟩ := fmod_ix (n := g.n) hl
    have hjl : j < (g.cells.map V.int).length := by rw [List.length_map]; exact hj
    have hcell : (g.cells.map V.int)[j]? = some (.int (g.cells.getD j 0)) := by
      rw [List.getElem?_map, List.getD_eq_getElem?_getD, List.getElem?_eq_getElem hj]; rfl
    have hat : atI (g.cells.map V.int) (g.n.fmod (g.cells.length : Int)) = some (.int (g.cells.getD j 0)) := by rw [ej]; exact atI_nat hcell
    have hix : ixN (g.cells.map V.int).length (g.n.fmod (g.cells.length : Int)) = some j := by
      rw [ej]
      unfold ixN
      rw [if_pos (by omega), if_pos (by omega)]; simp
    have hlen : ((g.cells.map V.int).length : Int) = (g.cells.length : Int) := by rw [List.length_map]
    refine ⟨_, pss_cons (ps_set (i := 2) sc__law_take.nd rfl (.inl rfl) (pe_ix ix_list (pv 0) pe_int (fun _ _ => rfl)))
      (pss_cons (ps_set (i := 3) sc__law_take.nd rfl (.inl rfl) (pe_op op_modN (pe_ix ix_list (pv 0) pe_int (fun _ _ => rfl)) (pe_callB call_len_seq (by rfl) T.z_len PySem.boot_len (pa_cons (pv 2) pa_nil))))
      (pss_cons (ps_set (i := 4) sc__law_take.nd rfl (.inl rfl) (pe_ix ix_list (pv 2) (pv 3) (fun _ _ => rfl)))
      (pss_cons (ps_if (pt_cmpR op_ge (pv 4) pe_int (nomark _))
        (pss_cons (ps_asg (pe_op op_fdivN (pv 4) (pv 1)) (pg_sub (pv 2) (pv 3) set_list)) (pss_one (ps_ret (pe_op op_modN (pv 4) (pv 1))))) pss_nil)
      (pss_cons (ps_asg (pe_op op_add (pe_ix ix_list (pv 0) pe_int (fun _ _ => rfl)) pe_int) (pg_sub (pv 0) pe_int set_list))
      (pss_cons (ps_set (i := 5) sc__law_take.nd rfl (.inl rfl) (pe_op op_modN (pe_callTy call_int1 (by rfl) T.z_int (by decide +kernel) (pa_cons (pe_op op_add (pe_op op_mul (pv 4) pe_int) (pe_op op_mul (pe_ix ix_list (pv 0) pe_int (fun _ _ => rfl)) pe_int)) pa_nil)) pe_int))
      (pss_cons (ps_set (i := 5) sc__law_take.nd rfl (.inl rfl) (pe_op op_modN (pe_callTy call_int1 (by rfl) T.z_int (by decide +kernel) (pa_cons (pe_op op_add (pe_op op_mul (pv 5) pe_int) (pe_op op_mul (pe_ix ix_list (pv 0) pe_int (fun _ _ => rfl)) pe_int)) pa_nil)) pe_int))
      (pss_one (ps_ret (pe_op op_modN (pe_op op_fdivN (pv 5) pe_int) (pv 1)))))))))), ?_⟩
    refine ⟨_, rfl, _, _, _, _, rfl, rfl, SqL.of hs, rfl, ?_⟩
    refine ⟨_, rfl, _, _, _, _, rfl, rfl, SqL.of hs, rfl, _, rfl, _, _, rfl, .inl (SqL.of hc), _, _, rfl, rfl, by rw [hlen]; omega, ?_⟩
    rw [hlen]
    refine ⟨_, rfl, _, rfl, _, _, _, _, rfl, rfl, SqL.of hc, hat, ?_⟩
    refine ⟨_, rfl, _, _, rfl, rfl, _, rfl, ?_⟩
    have etk : ∀ c : Int, c = g.cells.getD j 0 → g.cells.getD (g.n.fmod (g.cells.length : Int)).toNat 0 = c := fun c hc => by rw [ej, Int.toNat_natCast, hc]
    by_cases hbig : (1000000000000000000 : Int) ≤ g.cells.getD j 0
    · rw [decide_eq_true hbig]
      refine iteT ?_
      refine ⟨_, rfl, _, rfl, _, _, rfl, rfl, ⟨by omega, by omega⟩, _, rfl, _, rfl, _, _, _, _, rfl, rfl, hc, hix, ?_⟩
      refine ⟨_, rfl, _, rfl, _, _, rfl, rfl, by omega, ?_⟩
      have et : g.take most = ((g.cells.getD j 0).fmod most, { g with cells := g.cells.set j ((g.cells.getD j 0).fdiv most) }) := by
        unfold Dr.take
        simp only [etk _ rfl]
        rw [if_neg (by omega), ej, Int.toNat_natCast]
      rw [et] at kk
      have e1 : (g.cells.map V.int).set j (.int ((g.cells.getD j 0).fdiv most)) = (g.cells.set j ((g.cells.getD j 0).fdiv most)).map V.int := by rw [List.map_set]
      refine kk _ I _ (dr_gst sI ok rfl rfl ⟨ne, by rw [upd_ne ne]; exact hs, by rw [upd_same, e1], by rw [List.length_set]; exact hl, by rw [List.length_set]; exact hl63⟩ fI fun a h1 h2 => upd_ne h2) (.int _)
    · rw [decide_eq_false hbig]
      refine iteF ?_
      refine ⟨_, rfl, _, _, _, _, rfl, rfl, SqL.of hs, rfl, _, _, rfl, rfl, _, rfl, _, _, _, _, rfl, rfl, hs, rfl, ?_⟩
      have hs2 : (upd H g.s (HO.lst [.int (g.n + 1), .ref g.c])) g.s = some (.lst [.int (g.n + 1), .ref g.c]) := upd_same
      refine ⟨_, rfl, _, _, rfl, rfl, .inr ⟨by decide, by decide⟩, _, rfl, _, _, _, _, rfl, rfl, SqL.of hs2, rfl, _, _, rfl, rfl, .inr ⟨by decide, by decide⟩, _, _, rfl, rfl, .inl ⟨_, rfl, _, _, rfl, rfl, (by show (2147483647:Int) ≠ 0; decide), ?_⟩⟩
      refine ⟨_, rfl, _, _, rfl, rfl, .inr ⟨by decide, by decide⟩, _, rfl, _, _, _, _, rfl, rfl, SqL.of hs2, rfl, _, _, rfl, rfl, .inr ⟨by decide, by decide⟩, _, _, rfl, rfl, .inl ⟨_, rfl, _, _, rfl, rfl, (by show (1000000007:Int) ≠ 0; decide), ?_⟩⟩
      refine ⟨_, rfl, _, _, rfl, rfl, ⟨by decide, by decide⟩, _, rfl, _, _, rfl, rfl, by omega, ?_⟩
      have et : g.take most = (((((((g.cells.getD j 0) * 48271 + (g.n + 1) * 69621).fmod 2147483647) * 16807 + (g.n + 1) * 7919).fmod 1000000007).fdiv 7).fmod most, { g with n := g.n + 1 }) := by
        unfold Dr.take
        simp only [etk _ rfl]
        rw [if_pos (by omega)]
      rw [et] at kk
      refine kk _ I _ (dr_gst sI ok rfl rfl ⟨ne, upd_same, by rw [upd_ne ne.symm]; exact hc, hl, hl63⟩ fI fun a h1 h2 => upd_ne h1) (.int _)

/-! #### _law_number -/
abbrev n__law_number : List Str := ["number", "found"]
theorem sc__law_number : FnScope n__law_number ["number"] (defScope s__law_number) := ⟨rfl, rfl, rfl, by decide +kernel, rfl, by decide +kernel, by decide +kernel⟩
def wt__law_number_1 : MT Unit := (mOpT dGtI (mVar 0) (mC (.int 127)))
def wb__law_number_2 : MS Unit := (mSeq (mApp 1 (mOp dSub (mOp dAdd (mC (.int 128)) (mVar 0)) (mOp dMul (mOp dDiv (mVar 0) (mC (.int 128))) (mC (.int 128)))))
    (mSet 0 (mOp dDiv (mVar 0) (mC (.int 128)))))
noncomputable def m__law_number : MS Unit := (mSeq (mSetF 1 (mLst mNil))
    (mSeq (mWhile wt__law_number_1 wb__law_number_2)
    (mRetF (mCatOw 1 (mL (mLst (mCons (mVar 0) mNil)))))))
noncomputable def F__law_number : List D → Option D := runP 2 1 m__law_number
theorem ok__law_number (T : Txt P K mg) : Def1 P wd K mg base "_law_number" ["number"] 1 (spP K F__law_number) := def_pure T.d__law_number sc__law_number fun f cdv A outer s H E hr =>
    (db_cons (ds_setF (i := 1) sc__law_number.nd rfl (by first | exact Or.inl rfl | exact Or.inr rfl) (df_lst da_nil))
    (db_cons (ds_while PassesOwn.never (dt_cmp op_gt od_gtI (de_var 0) de_int (nomark _))
    (db_cons (ds_append 1 (de_op op_sub od_sub (de_op op_addD od_addD de_int (de_var 0)) (de_op op_mul od_mul (de_op op_fdivN od_div (de_var 0) de_int) de_int)))
    (db_one (ds_set (i := 0) sc__law_number.nd rfl (by first | exact Or.inl rfl | exact Or.inr rfl) (de_op op_fdivN od_div (de_var 0) de_int)))))
    (db_one (ds_retF (df_catOw 1 (de_fresh (df_lst (da_cons (de_var 0) da_nil))))))))
/-! #### _law_bytes -/
abbrev n__law_bytes : List Str := ["thing", "sign", "found", "part"]
theorem sc__law_bytes : FnScope n__law_bytes ["thing"] (defScope s__law_bytes) := ⟨rfl, rfl, rfl, by decide +kernel, rfl, by decide +kernel, by decide +kernel⟩
def lb__law_bytes_1 (self : List D → Option D) : MS Unit := (mSet 2 (mOp dAdd (mVar 2) (mCall self (mCons (mVar 3) mNil))))
noncomputable def m__law_bytes (self : List D → Option D) : MS Unit := (mSeq (mIfS (mOr (mOpT dIs (mVar 0) (mC .none)) (mOr (mOpT dIsB (mVar 0) (mC (.bool false))) (mOpT dIsB (mVar 0) (mC (.bool true)))))
    (mRetF (mLst (mCons (mIf (mOpT dIs (mVar 0) (mC .none)) (mC (.int 0)) (mIf (mOpT dIsB (mVar 0) (mC (.bool false))) (mC (.int 1)) (mC (.int 2)))) mNil)))
    mSkip)
    (mSeq (mIfS (mTru (mIsi "str" (mVar 0)))
    (mRetF (mCat (mL (mCat (mL (mLst (mCons (mC (.int 4)) mNil))) (mCall F__law_number (mCons (mCall dLen (mCons (mVar 0) mNil)) mNil)))) (mL (mComp (mItS (mVar 0)) [1] (bName 1) mYes (mM1 dIndex (mC (.str " 0123456789_abcdefghijklmnopqrstuvwxyz")) (mVar 1))))))
    mSkip)
    (mSeq (mIfS (mTru (mIsi "int" (mVar 0)))
    (mRetF (mCat (mL (mLst (mCons (mC (.int 3)) mNil))) (mCall F__law_number (mCons (mIf (mOpT dGeI (mVar 0) (mC (.int 0))) (mOp dMul (mC (.int 2)) (mVar 0)) (mOp dSub (mOp dSub (mC (.int 0)) (mOp dMul (mC (.int 2)) (mVar 0))) (mC (.int 1)))) mNil))))
    mSkip)
    (mSeq (mSet 2 (mL (mCat (mL (mLst (mCons (mIf (mTru (mIsi "tuple" (mVar 0))) (mC (.int 5)) (mC (.int 6))) mNil))) (mCall F__law_number (mCons (mCall dLen (mCons (mVar 0) mNil)) mNil)))))
    (mSeq (mFor (mItQ (mVar 0)) (bName 3) (lb__law_bytes_1 self))
    (mRet (mVar 2)))))))
noncomputable def F__law_bytes : Nat → List D → Option D
  | 0 => fun _ => none
  | k + 1 => runP 4 1 (m__law_bytes (F__law_bytes k))
theorem ok__law_bytes (T : Txt P K mg) : ∀ k : Nat, Def1 P wd K mg base "_law_bytes" ["thing"] (2 + k) (spP K (F__law_bytes k))
  | 0 => def_no T.d__law_bytes sc__law_bytes spP_no
  | k + 1 => def_pure T.d__law_bytes sc__law_bytes fun f cdv A outer s H E hr =>
    (db_cons (ds_if (PW.pt (dw_or (dt_cmp op_isN od_is (de_var 0) de_non (nomark _)) (dw_or (dt_cmp op_isB od_isB (de_var 0) de_bl (nomark _)) (dw_or1 (dt_cmp op_isB od_isB (de_var 0) de_bl (nomark _))))))
    (db_one (ds_retF (df_lst (da_cons (de_if (dt_cmp op_isN od_is (de_var 0) de_non (nomark _)) de_int (de_if (dt_cmp op_isB od_isB (de_var 0) de_bl (nomark _)) de_int de_int)) da_nil))))
    db_nil)
    (db_cons (ds_if (dt_tru (de_isi (T := "str") rfl T.z_isinstance rfl T.z_str (by decide +kernel) (de_var 0)))
    (db_one (ds_retF (df_cat (de_fresh (df_cat (de_fresh (df_lst (da_cons de_int da_nil))) (call_P (ok__law_number T) (hr.mono (Nat.le_trans (by decide : 1 ≤ 2) (Nat.le_add_right 2 k))) rfl (da_cons (de_callB call_len cd_len rfl T.z_len (by decide +kernel) (da_cons (de_var 0) da_nil)) da_nil)))) (de_fresh (df_comp (own := [("sign", 1)]) rfl sc__law_bytes.nd (di_str (de_var 0)) (blkOk_by (N := n__law_bytes) (sc := defScope s__law_bytes) (by decide +kernel)) (fun _ _ _ _ _ => (dg_name (i := 1) sc__law_bytes.nd rfl (by first | exact Or.inl rfl | exact Or.inr rfl))) (fun _ _ _ _ _ => dts_nil) (fun _ _ _ _ _ => (de_index de_str (de_var 1))))))))
    db_nil)
    (db_cons (ds_if (dt_tru (de_isi (T := "int") rfl T.z_isinstance rfl T.z_int (by decide +kernel) (de_var 0)))
    (db_one (ds_retF (df_cat (de_fresh (df_lst (da_cons de_int da_nil))) (call_P (ok__law_number T) (hr.mono (Nat.le_trans (by decide : 1 ≤ 2) (Nat.le_add_right 2 k))) rfl (da_cons (de_if (dt_cmp op_ge od_geI (de_var 0) de_int (nomark _)) (de_op op_mul od_mul de_int (de_var 0)) (de_op op_sub od_sub (de_op op_sub od_sub de_int (de_op op_mul od_mul de_int (de_var 0))) de_int)) da_nil)))))
    db_nil)
    (db_cons (ds_set (i := 2) sc__law_bytes.nd rfl (by first | exact Or.inl rfl | exact Or.inr rfl) (de_fresh (df_cat (de_fresh (df_lst (da_cons (de_if (dt_tru (de_isi (T := "tuple") rfl T.z_isinstance rfl T.z_tuple (by decide +kernel) (de_var 0))) de_int de_int) da_nil))) (call_P (ok__law_number T) (hr.mono (Nat.le_trans (by decide : 1 ≤ 2) (Nat.le_add_right 2 k))) rfl (da_cons (de_callB call_len cd_len rfl T.z_len (by decide +kernel) (da_cons (de_var 0) da_nil)) da_nil)))))
    (db_cons (ds_for PassesOwn.never rfl (di_seq (de_var 0)) (dg_name (i := 3) sc__law_bytes.nd rfl (by first | exact Or.inl rfl | exact Or.inr rfl))
    (db_one (ds_set (i := 2) sc__law_bytes.nd rfl (by first | exact Or.inl rfl | exact Or.inr rfl) (de_op op_addD od_addD (de_var 2) (call_P (ok__law_bytes T k) (hr.mono (Nat.le_refl _)) rfl (da_cons (de_var 3) da_nil))))))
    (db_one (ds_ret (de_var 2))))))))
/-! #### _law_text -/
abbrev n__law_text : List Str := ["state", "most", "k"]
theorem sc__law_text : FnScope n__law_text ["state", "most"] (defScope s__law_text) := ⟨rfl, rfl, rfl, by decide +kernel, rfl, by decide +kernel, by decide +kernel⟩
def m__law_text : MS Dr := (mRet (mM1 dJoin (mC (.str "")) (mL (mComp (mRng1 (mCons (mCallG drawA (gConsS 0 (gCons (mOp dAdd (mVar 1) (mC (.int 1))) gNil))) mNil)) [2] (bName 2) mYes (mOp dIx (mC (.str " 019_abz")) (mCallG drawA (gConsS 0 (gCons (mC (.int 8)) gNil))))))))
def F__law_text : List SV → Dr → Option (D × Dr) := runG 3 2 m__law_text
theorem ok__law_text (T : Txt P K mg) : Def1 P wd K mg base "_law_text" ["state", "most"] 2 (spG K drA F__law_text) := def_ghost T.d__law_text sc__law_text fun f cdv A outer s H E hr =>
    (db_one (ds_ret (de_join de_str (de_fresh (df_comp (own := [("k", 2)]) rfl sc__law_text.nd (di_range1 rfl T.z_range (da_cons (call_G (ok__law_take T) (hr.mono (by decide)) rfl (dg_st (i := 0) (dg_cons (de_op op_addD od_addD (de_var 1) de_int) dg_nil))) da_nil)) (blkOk_by (N := n__law_text) (sc := defScope s__law_text) (by decide +kernel)) (fun _ _ _ _ _ => (dg_name (i := 2) sc__law_text.nd rfl (by first | exact Or.inl rfl | exact Or.inr rfl))) (fun _ _ _ _ _ => dts_nil) (fun _ _ _ _ _ => (de_ix de_str (call_G (ok__law_take T) (hr.mono (by decide)) rfl (dg_st (i := 0) (dg_cons de_int dg_nil))))))))))
/-! #### _law_whole -/
abbrev n__law_whole : List Str := ["state"]
theorem sc__law_whole : FnScope n__law_whole ["state"] (defScope s__law_whole) := ⟨rfl, rfl, rfl, by decide +kernel, rfl, by decide +kernel, by decide +kernel⟩
def m__law_whole : MS Dr := (mRet (mOp dAdd (mOp dMul (mOp dIx (mL (mLst (mCons (mC (.int 0)) (mCons (mC (.int 1)) (mCons (mC (.int 63)) (mCons (mC (.int 64)) (mCons (mC (.int 127)) (mCons (mC (.int 128)) (mCons (mOp dPow (mC (.int 10)) (mC (.int 9))) (mCons (mOp dPow (mC (.int 2)) (mC (.int 40))) mNil)))))))))) (mCallG drawA (gConsS 0 (gCons (mC (.int 8)) gNil)))) (mOp dIx (mL (mLst (mCons (mC (.int 1)) (mCons (mOp dSub (mC (.int 0)) (mC (.int 1))) mNil)))) (mCallG drawA (gConsS 0 (gCons (mC (.int 2)) gNil))))) (mCallG drawA (gConsS 0 (gCons (mC (.int 9)) gNil)))))
def F__law_whole : List SV → Dr → Option (D × Dr) := runG 1 1 m__law_whole
theorem ok__law_whole (T : Txt P K mg) : Def1 P wd K mg base "_law_whole" ["state"] 2 (spG K drA F__law_whole) := def_ghost T.d__law_whole sc__law_whole fun f cdv A outer s H E hr =>
    (db_one (ds_ret (de_op op_addD od_addD (de_op op_mul od_mul (de_ix (de_fresh (df_lst (da_cons de_int (da_cons de_int (da_cons de_int (da_cons de_int (da_cons de_int (da_cons de_int (da_cons (de_op op_pow od_pow de_int de_int) (da_cons (de_op op_pow od_pow de_int de_int) da_nil)))))))))) (call_G (ok__law_take T) (hr.mono (by decide)) rfl (dg_st (i := 0) (dg_cons de_int dg_nil)))) (de_ix (de_fresh (df_lst (da_cons de_int (da_cons (de_op op_sub od_sub de_int de_int) da_nil)))) (call_G (ok__law_take T) (hr.mono (by decide)) rfl (dg_st (i := 0) (dg_cons de_int dg_nil))))) (call_G (ok__law_take T) (hr.mono (by decide)) rfl (dg_st (i := 0) (dg_cons de_int dg_nil))))))
/-! #### _law_thing -/
abbrev n__law_thing : List Str := ["state", "deep", "kind", "parts", "k"]
theorem sc__law_thing : FnScope n__law_thing ["state", "deep"] (defScope s__law_thing) := ⟨rfl, rfl, rfl, by decide +kernel, rfl, by decide +kernel, by decide +kernel⟩
def m__law_thing (self : List SV → Dr → Option (D × Dr)) : MS Dr := (mSeq (mSet 2 (mCallG drawA (gConsS 0 (gCons (mIf (mOpT dGtI (mVar 1) (mC (.int 0))) (mC (.int 8)) (mC (.int 5))) gNil))))
    (mSeq (mIfS (mOpT dLtI (mVar 2) (mC (.int 3)))
    (mRet (mOp dIx (mL (mLst (mCons (mC .none) (mCons (mC (.bool false)) (mCons (mC (.bool true)) mNil))))) (mVar 2)))
    mSkip)
    (mSeq (mIfS (mOpT dEq (mVar 2) (mC (.int 3)))
    (mRet (mCallG F__law_whole (gConsS 0 gNil)))
    mSkip)
    (mSeq (mIfS (mOpT dEq (mVar 2) (mC (.int 4)))
    (mRet (mCallG F__law_text (gConsS 0 (gCons (mC (.int 6)) gNil))))
    mSkip)
    (mSeq (mThen (mSetF 3 (mComp (mRng1 (mCons (mCallG drawA (gConsS 0 (gCons (mC (.int 4)) gNil))) mNil)) [4] (bName 4) mYes (mCallG self (gConsS 0 (gCons (mOp dSub (mVar 1) (mC (.int 1))) gNil))))) 3)
    (mRet (mIf (mOpT dLtI (mVar 2) (mC (.int 7))) (mCall dTupleOf (mCons (mVar 3) mNil)) (mVar 3))))))))
def F__law_thing : Nat → List SV → Dr → Option (D × Dr)
  | 0 => fun _ _ => none
  | k + 1 => runG 5 2 (m__law_thing (F__law_thing k))
theorem ok__law_thing (T : Txt P K mg) : ∀ k : Nat, Def1 P wd K mg base "_law_thing" ["state", "deep"] (3 + k) (spG K drA (F__law_thing k))
  | 0 => def_no T.d__law_thing sc__law_thing spG_no
  | k + 1 => def_ghost T.d__law_thing sc__law_thing fun f cdv A outer s H E hr =>
    (db_cons (ds_set (i := 2) sc__law_thing.nd rfl (by first | exact Or.inl rfl | exact Or.inr rfl) (call_G (ok__law_take T) (hr.mono (Nat.le_trans (by decide : 1 ≤ 3) (Nat.le_add_right 3 k))) rfl (dg_st (i := 0) (dg_cons (de_if (dt_cmp op_gt od_gtI (de_var 1) de_int (nomark _)) de_int de_int) dg_nil))))
    (db_cons (ds_if (dt_cmp op_lt od_ltI (de_var 2) de_int (nomark _))
    (db_one (ds_ret (de_ix (de_fresh (df_lst (da_cons de_non (da_cons de_bl (da_cons de_bl da_nil))))) (de_var 2))))
    db_nil)
    (db_cons (ds_if (dt_cmp (op_eqD (hu64 hr)) od_eq (de_var 2) de_int (nomark _))
    (db_one (ds_ret (call_G (ok__law_whole T) (hr.mono (Nat.le_trans (by decide : 2 ≤ 3) (Nat.le_add_right 3 k))) rfl (dg_st (i := 0) dg_nil))))
    db_nil)
    (db_cons (ds_if (dt_cmp (op_eqD (hu64 hr)) od_eq (de_var 2) de_int (nomark _))
    (db_one (ds_ret (call_G (ok__law_text T) (hr.mono (Nat.le_trans (by decide : 2 ≤ 3) (Nat.le_add_right 3 k))) rfl (dg_st (i := 0) (dg_cons de_int dg_nil)))))
    db_nil)
    (db_cons (ds_then 3 (ds_setLc (own := [("k", 4)]) rfl sc__law_thing.nd rfl rfl (sw_true rfl rfl rfl (by decide +kernel)) (di_range1 rfl T.z_range (da_cons (call_G (ok__law_take T) (hr.mono (Nat.le_trans (by decide : 1 ≤ 3) (Nat.le_add_right 3 k))) rfl (dg_st (i := 0) (dg_cons de_int dg_nil))) da_nil)) (blkOk_by (N := n__law_thing) (sc := defScope s__law_thing) (by decide +kernel)) (fun _ _ _ _ _ => (dg_name (i := 4) sc__law_thing.nd rfl (by first | exact Or.inl rfl | exact Or.inr rfl))) (fun _ _ _ _ _ => dts_nil) (fun _ _ _ _ _ => (call_G (ok__law_thing T k) (hr.mono (Nat.le_refl _)) rfl (dg_st (i := 0) (dg_cons (de_op op_sub od_sub (de_var 1) de_int) dg_nil))))))
    (db_one (ds_ret (de_if (dt_cmp op_lt od_ltI (de_var 2) de_int (nomark _)) (de_callTy call_tuple_of cd_tuple rfl T.z_tuple (by decide +kernel) (da_cons (de_var 3) da_nil)) (de_var 3)))))))))
/-! #### _law_same -/
abbrev n__law_same : List Str := ["one", "other", "k"]
theorem sc__law_same : FnScope n__law_same ["one", "other"] (defScope s__law_same) := ⟨rfl, rfl, rfl, by decide +kernel, rfl, by decide +kernel, by decide +kernel⟩
def m__law_same (self : List D → Option D) : MS Unit := (mSeq (mIfS (mTru (mIsi2 "tuple" "list" (mVar 0)))
    (mSeq (mIfS (mOr (mNot (mTru (mIsi2 "tuple" "list" (mVar 1)))) (mOr (mOpT dNe (mIsi "tuple" (mVar 0)) (mIsi "tuple" (mVar 1))) (mOpT dNe (mCall dLen (mCons (mVar 0) mNil)) (mCall dLen (mCons (mVar 1) mNil)))))
    (mRet (mC (.bool false)))
    mSkip)
    (mRet (mOp dEq (mCall dLen (mCons (mL (mComp (mRng1 (mCons (mCall dLen (mCons (mVar 0) mNil)) mNil)) [2] (bName 2) (mNot (mTru (mCall self (mCons (mOp dIx (mVar 0) (mVar 2)) (mCons (mOp dIx (mVar 1) (mVar 2)) mNil))))) (mVar 2))) mNil)) (mC (.int 0)))))
    mSkip)
    (mSeq (mIfS (mOpT dIs (mVar 0) (mC .none))
    (mRet (mOp dIs (mVar 1) (mC .none)))
    mSkip)
    (mSeq (mIfS (mTru (mIsi "bool" (mVar 0)))
    (mRet (mBAnd (mIsi "bool" (mVar 1)) (mOp dEq (mVar 0) (mVar 1))))
    mSkip)
    (mRet (mBAnd (mOp dIsNot (mVar 1) (mC .none)) (mBAnd (mBNot (mIsi "bool" (mVar 1))) (mBAnd (mOp dEq (mIsi "str" (mVar 0)) (mIsi "str" (mVar 1))) (mOp dEq (mVar 0) (mVar 1)))))))))
def F__law_same : Nat → List D → Option D
  | 0 => fun _ => none
  | k + 1 => runP 3 2 (m__law_same (F__law_same k))
theorem ok__law_same (T : Txt P K mg) : ∀ k : Nat, Def1 P wd K mg base "_law_same" ["one", "other"] (1 + k) (spP K (F__law_same k))
  | 0 => def_no T.d__law_same sc__law_same spP_no
  | k + 1 => def_pure T.d__law_same sc__law_same fun f cdv A outer s H E hr =>
    (db_cons (ds_if (dt_tru (de_isi2 (T := "tuple") (U := "list") rfl T.z_isinstance rfl T.z_tuple (by decide +kernel) rfl T.z_list (by decide +kernel) (de_var 0)))
    (db_cons (ds_if (PW.pt (dw_or (dt_not (dt_tru (de_isi2 (T := "tuple") (U := "list") rfl T.z_isinstance rfl T.z_tuple (by decide +kernel) rfl T.z_list (by decide +kernel) (de_var 1)))) (dw_or (dt_cmp (op_neD (hu64 hr)) od_ne (de_isi (T := "tuple") rfl T.z_isinstance rfl T.z_tuple (by decide +kernel) (de_var 0)) (de_isi (T := "tuple") rfl T.z_isinstance rfl T.z_tuple (by decide +kernel) (de_var 1)) (nomark _)) (dw_or1 (dt_cmp (op_neD (hu64 hr)) od_ne (de_callB call_len cd_len rfl T.z_len (by decide +kernel) (da_cons (de_var 0) da_nil)) (de_callB call_len cd_len rfl T.z_len (by decide +kernel) (da_cons (de_var 1) da_nil)) (nomark _))))))
    (db_one (ds_ret de_bl))
    db_nil)
    (db_one (ds_ret (de_cmp (op_eqD (hu64 hr)) od_eq (de_callB call_len cd_len rfl T.z_len (by decide +kernel) (da_cons (de_fresh (df_comp (own := [("k", 2)]) rfl sc__law_same.nd (di_range1 rfl T.z_range (da_cons (de_callB call_len cd_len rfl T.z_len (by decide +kernel) (da_cons (de_var 0) da_nil)) da_nil)) (blkOk_by (N := n__law_same) (sc := defScope s__law_same) (by decide +kernel)) (fun _ _ _ _ _ => (dg_name (i := 2) sc__law_same.nd rfl (by first | exact Or.inl rfl | exact Or.inr rfl))) (fun _ _ _ _ _ => (dts_one (dt_not (dt_tru (call_P (ok__law_same T k) (hr.mono (Nat.le_refl _)) rfl (da_cons (de_ix (de_var 0) (de_var 2)) (da_cons (de_ix (de_var 1) (de_var 2)) da_nil))))))) (fun _ _ _ _ _ => (de_var 2)))) da_nil)) de_int (nomark _)))))
    db_nil)
    (db_cons (ds_if (dt_cmp op_isN od_is (de_var 0) de_non (nomark _))
    (db_one (ds_ret (de_cmp op_isN od_is (de_var 1) de_non (nomark _))))
    db_nil)
    (db_cons (ds_if (dt_tru (de_isi (T := "bool") rfl T.z_isinstance rfl T.z_bool (by decide +kernel) (de_var 0)))
    (db_one (ds_ret (de_and (de_isi (T := "bool") rfl T.z_isinstance rfl T.z_bool (by decide +kernel) (de_var 1)) (de_and1 (de_cmp (op_eqD (hu64 hr)) od_eq (de_var 0) (de_var 1) (nomark _))))))
    db_nil)
    (db_one (ds_ret (de_and (de_cmp op_notN od_isNot (de_var 1) de_non (nomark _)) (de_and (de_not (de_isi (T := "bool") rfl T.z_isinstance rfl T.z_bool (by decide +kernel) (de_var 1))) (de_and (de_cmp (op_eqD (hu64 hr)) od_eq (de_isi (T := "str") rfl T.z_isinstance rfl T.z_str (by decide +kernel) (de_var 0)) (de_isi (T := "str") rfl T.z_isinstance rfl T.z_str (by decide +kernel) (de_var 1)) (nomark _)) (de_and1 (de_cmp (op_eqD (hu64 hr)) od_eq (de_var 0) (de_var 1) (nomark _)))))))))))
/-! #### _law_refused -/
abbrev n__law_refused : List Str := ["thing", "error"]
theorem sc__law_refused : FnScope n__law_refused ["thing"] (defScope s__law_refused) := ⟨rfl, rfl, rfl, by decide +kernel, rfl, by decide +kernel, by decide +kernel⟩
noncomputable def m__law_refused : MS Unit := (mSeq (mTryW "ShapeError" 1 (mDropX "ShapeError" (mLX (mCallX (F_bytes_of 5) (mCons (mVar 0) mNil)))))
    (mRet (mC .none)))
noncomputable def F__law_refused : List D → Option D := runP 2 1 m__law_refused
theorem ok__law_refused (T : Txt P K mg) : Def1 P wd K mg base "_law_refused" ["thing"] 10 (spP K F__law_refused) := def_pure T.d__law_refused sc__law_refused fun f cdv A outer s H E hr =>
    (db_cons (ds_try (i := 1) rfl rfl sc__law_refused.nd rfl rfl (T.x_ShapeError _ _) rfl (fun W pn xe tk po =>
    (dbx_one (dsx_expr (dex_fresh (call_NX tk (ok_bytes_of T 5) (hr.mono (by decide)) rfl (da_cons (de_var 0) da_nil)))))))
    (db_one (ds_ret de_non)))
/-! #### _law_none -/
abbrev n__law_none : List Str := ["content", "error"]
theorem sc__law_none : FnScope n__law_none ["content"] (defScope s__law_none) := ⟨rfl, rfl, rfl, by decide +kernel, rfl, by decide +kernel, by decide +kernel⟩
noncomputable def m__law_none : MS Unit := (mSeq (mTryW "ShapeError" 1 (mDropX "ShapeError" (mCallX F_thing_of (mCons (mVar 0) mNil))))
    (mRet (mC .none)))
noncomputable def F__law_none : List D → Option D := runP 2 1 m__law_none
theorem ok__law_none (T : Txt P K mg) : Def1 P wd K mg base "_law_none" ["content"] 10 (spP K F__law_none) := def_pure T.d__law_none sc__law_none fun f cdv A outer s H E hr =>
    (db_cons (ds_try (i := 1) rfl rfl sc__law_none.nd rfl rfl (T.x_ShapeError _ _) rfl (fun W pn xe tk po =>
    (dbx_one (dsx_expr (call_PX tk (ok_thing_of T) (hr.mono (by decide)) rfl (da_cons (de_var 0) da_nil))))))
    (db_one (ds_ret de_non)))
/-! #### law -/
abbrev n_law : List Str := ["script", "state", "thing", "other", "content", "more", "byte", "ahead", "k", "told", "whole", "cut", "number", "row", "bad", "rest", "kinds"]
theorem sc_law : FnScope n_law ["script"] (defScope s_law) := ⟨rfl, rfl, rfl, by decide +kernel, rfl, by decide +kernel, by decide +kernel⟩
noncomputable def lb_law_1 : MS Dr := (mIfS (mOpT dIsNot (mCall (F_read_thing 5) (mCons (mVar 14) (mCons (mC (.int 0)) mNil))) (mC .none))
    (mRet (mC (.bool false)))
    mSkip)
noncomputable def lb_law_2 : MS Dr := (mIfS (mOr (mOpT dNe (mL (mCallF (okF (F_bytes_of 5)) (mCons (mOp dIx (mVar 15) (mVar 8)) mNil))) (mL (mLst (mCons (mC (.int 4)) (mCons (mC (.int 1)) (mCons (mOp dAdd (mC (.int 38)) (mVar 8)) mNil)))))) (mOpT dNe (mCall (okF F_thing_of) (mCons (mL (mLst (mCons (mC (.int 4)) (mCons (mC (.int 1)) (mCons (mOp dAdd (mC (.int 38)) (mVar 8)) mNil))))) mNil)) (mOp dIx (mVar 15) (mVar 8))))
    (mRet (mC (.bool false)))
    mSkip)
noncomputable def m_law : MS Dr := (mSeq (mPar 2 3 (mCons (mCallG (F__law_thing 5) (gConsS 1 (gCons (mC (.int 3)) gNil))) (mCons (mCallG (F__law_thing 5) (gConsS 1 (gCons (mC (.int 3)) gNil))) mNil)))
    (mSeq (mPar 4 5 (mCons (mL (mCallF (okF (F_bytes_of 5)) (mCons (mVar 2) mNil))) (mCons (mL (mCallF (okF (F_bytes_of 5)) (mCons (mVar 3) mNil))) mNil)))
    (mSeq (mIfS (mOr (mOpT dNe (mVar 4) (mCall (F__law_bytes 5) (mCons (mVar 2) mNil))) (mOr (mOpT dNe (mVar 5) (mCall (F__law_bytes 5) (mCons (mVar 3) mNil))) (mOpT dGtI (mCall dLen (mCons (mL (mComp (mItL (mVar 4)) [6] (bName 6) (mNot (mChainT dLeI dLtI (mC (.int 0)) (mVar 6) (mC (.int 256)))) (mVar 6))) mNil)) (mC (.int 0)))))
    (mRet (mC (.bool false)))
    mSkip)
    (mSeq (mThen (mSetF 7 (mComp (mRng1 (mCons (mCallG drawA (gConsS 1 (gCons (mC (.int 4)) gNil))) mNil)) [8] (bName 8) mYes (mCallG drawA (gConsS 1 (gCons (mC (.int 256)) gNil))))) 7)
    (mSeq (mSet 9 (mCall (F_read_thing 5) (mCons (mOp dAdd (mOp dAdd (mVar 7) (mVar 4)) (mVar 5)) (mCons (mCall dLen (mCons (mVar 7) mNil)) mNil))))
    (mSeq (mIfS (mOr (mOpT dIs (mVar 9) (mC .none)) (mOr (mOpT dNe (mOp dIx (mVar 9) (mC (.int 1))) (mOp dAdd (mCall dLen (mCons (mVar 7) mNil)) (mCall dLen (mCons (mVar 4) mNil)))) (mOr (mNot (mTru (mCall (F__law_same 5) (mCons (mOp dIx (mVar 9) (mC (.int 0))) (mCons (mVar 2) mNil))))) (mNot (mTru (mCall (F__law_same 5) (mCons (mCall (okF F_thing_of) (mCons (mOp dAdd (mVar 4) (mVar 5)) mNil)) (mCons (mVar 2) mNil))))))))
    (mRet (mC (.bool false)))
    mSkip)
    (mSeq (mSet 10 (mCall F_whole_thing (mCons (mVar 4) mNil)))
    (mSeq (mIfS (mOr (mOpT dIs (mVar 10) (mC .none)) (mOr (mNot (mTru (mCall (F__law_same 5) (mCons (mOp dIx (mVar 10) (mC (.int 0))) (mCons (mVar 2) mNil))))) (mOpT dIsNot (mCall F_whole_thing (mCons (mOp dAdd (mVar 4) (mVar 5)) mNil)) (mC .none))))
    (mRet (mC (.bool false)))
    mSkip)
    (mSeq (mSet 11 (mCallG drawA (gConsS 1 (gCons (mCall dLen (mCons (mVar 4) mNil)) gNil))))
    (mSeq (mIfS (mOr (mOpT dIsNot (mCall (F_read_thing 5) (mCons (mL (mSlL (mVar 4) mNo (mPart (mVar 11)))) (mCons (mC (.int 0)) mNil))) (mC .none)) (mOr (mOpT dIsNot (mCall F_whole_thing (mCons (mL (mSlL (mVar 4) mNo (mPart (mVar 11)))) mNil)) (mC .none)) (mOpT dNe (mCall F__law_none (mCons (mL (mSlL (mVar 4) mNo (mPart (mVar 11)))) mNil)) (mC (.str "bytes")))))
    (mRet (mC (.bool false)))
    mSkip)
    (mSeq (mIfS (mAnd (mOpT dEq (mL (mSlL (mVar 4) mNo (mPart (mCall dLen (mCons (mVar 5) mNil))))) (mVar 5)) (mNot (mTru (mCall (F__law_same 5) (mCons (mVar 2) (mCons (mVar 3) mNil))))))
    (mRet (mC (.bool false)))
    mSkip)
    (mSeq (mSet 12 (mCall dAbs (mCons (mCallG F__law_whole (gConsS 1 gNil)) mNil)))
    (mSeq (mSet 13 (mCall F_number_bytes (mCons (mVar 12) mNil)))
    (mSeq (mIfS (mOr (mOpT dNe (mVar 13) (mCall F__law_number (mCons (mVar 12) mNil))) (mOr (mOpT dNe (mCall F_read_number (mCons (mL (mCat (mOp dAdd (mVar 7) (mVar 13)) (mL (mLst (mCons (mC (.int 5)) mNil))))) (mCons (mCall dLen (mCons (mVar 7) mNil)) mNil))) (mTup (mCons (mVar 12) (mCons (mOp dAdd (mCall dLen (mCons (mVar 7) mNil)) (mCall dLen (mCons (mVar 13) mNil))) mNil)))) (mOpT dIsNot (mCall F_read_number (mCons (mL (mSlL (mVar 13) mNo (mPart (mUn dNeg (mC (.int 1)))))) (mCons (mC (.int 0)) mNil))) (mC .none))))
    (mRet (mC (.bool false)))
    mSkip)
    (mSeq (mIfS (mOr (mOpT dIsNot (mCall F_read_number (mCons (mL (mCat (mL (mComp (mItL (mVar 13)) [6] (bName 6) mYes (mIf (mOpT dLtI (mVar 6) (mC (.int 128))) (mOp dAdd (mVar 6) (mC (.int 128))) (mVar 6)))) (mL (mLst (mCons (mC (.int 0)) mNil))))) (mCons (mC (.int 0)) mNil))) (mC .none)) (mOpT dIsNot (mCall F_read_number (mCons (mL (mLst mNil)) (mCons (mC (.int 0)) mNil))) (mC .none)))
    (mRet (mC (.bool false)))
    mSkip)
    (mSeq (mSet 10 (mCallG F__law_whole (gConsS 1 gNil)))
    (mSeq (mIfS (mOr (mOpT dNe (mCall F_signed_bytes (mCons (mVar 10) mNil)) (mCall F__law_number (mCons (mIf (mOpT dGeI (mVar 10) (mC (.int 0))) (mOp dMul (mC (.int 2)) (mVar 10)) (mOp dSub (mOp dSub (mC (.int 0)) (mOp dMul (mC (.int 2)) (mVar 10))) (mC (.int 1)))) mNil))) (mOpT dNe (mCall F_read_signed (mCons (mL (mCat (mCall F_signed_bytes (mCons (mVar 10) mNil)) (mL (mLst (mCons (mC (.int 1)) mNil))))) (mCons (mC (.int 0)) mNil))) (mTup (mCons (mVar 10) (mCons (mCall dLen (mCons (mCall F_signed_bytes (mCons (mVar 10) mNil)) mNil)) mNil)))))
    (mRet (mC (.bool false)))
    mSkip)
    (mSeq (mFor (mItL (mL (mLst (mCons (mL (mLst (mCons (mOp dAdd (mC (.int 7)) (mCallG drawA (gConsS 1 (gCons (mC (.int 200)) gNil)))) mNil))) (mCons (mL (mLst (mCons (mC (.int 3)) mNil))) (mCons (mL (mLst (mCons (mC (.int 4)) (mCons (mC (.int 1)) mNil)))) (mCons (mL (mLst (mCons (mC (.int 4)) (mCons (mC (.int 1)) (mCons (mC (.int 95)) mNil))))) (mCons (mL (mLst (mCons (mC (.int 5)) (mCons (mC (.int 1)) mNil)))) (mCons (mL (mLst (mCons (mC (.int 6)) (mCons (mC (.int 128)) (mCons (mC (.int 0)) mNil))))) (mCons (mL (mLst (mCons (mC (.int 3)) (mCons (mC (.int 128)) (mCons (mC (.int 0)) mNil))))) mNil)))))))))) (bName 14) lb_law_1)
    (mSeq (mSet 15 (mC (.str "'(),.*+-=<>\x0a!\"#$&/:;?@ABCDEFGHIJKLMNOPQRSTUVWXYZ[\\]^`{|}~")))
    (mSeq (mFor (mRng1 (mCons (mCall dLen (mCons (mVar 15) mNil)) mNil)) (bName 8) lb_law_2)
    (mSeq (mSet 16 (mL (mLst (mCons (mCall F__law_refused (mCons (mC (.str "a\x09")) mNil)) (mCons (mCall F__law_refused (mCons (mL (mLst (mCons (mC (.int 1)) (mCons (mTup (mCons (mC (.str "b")) (mCons (mC (.str "c\x09d")) mNil))) mNil)))) mNil)) (mCons (mCall F__law_refused (mCons mEmp mNil)) (mCons (mCall F__law_refused (mCons (mTup (mCons (mC (.int 1)) (mCons (mL (mLst (mCons mEmp mNil))) mNil))) mNil)) (mCons (mCall F__law_refused (mCons (mVar 2) mNil)) mNil))))))))
    (mRet (mOp dEq (mVar 16) (mL (mLst (mCons (mC (.str "text")) (mCons (mC (.str "text")) (mCons (mC (.str "thing")) (mCons (mC (.str "thing")) (mCons (mC .none) mNil))))))))))))))))))))))))))))))
theorem body_law (T : Txt P K mg) (f : Addr) (cdv : Value) (A : Around) (outer : List PySem.Env) (s : Shared) (H : Hp) (E : XK) (hr : Room 10 (A.deeper (PyProof.Rows.envOfC "law" (defScope s_law) s.heap.objs.size f cdv))) :
    PSs (cxOf CX0 P wd K mg base n_law "law" (defScope s_law) f cdv A outer s H E).nox ((defBody s_law).drop 1) (tS K drA m_law) :=
    (db_cons (ds_par (i := 2) (j := 3) rfl sc_law.nd rfl rfl (by decide) rfl rfl (da_cons (call_G (ok__law_thing T 5) (hr.mono (by decide)) rfl (dg_st (i := 1) (dg_cons de_int dg_nil))) (da_cons (call_G (ok__law_thing T 5) (hr.mono (by decide)) rfl (dg_st (i := 1) (dg_cons de_int dg_nil))) da_nil)) (by rfl))
    (db_cons (ds_par (i := 4) (j := 5) rfl sc_law.nd rfl rfl (by decide) rfl rfl (da_cons (de_fresh (call_NXok (ok_bytes_of T 5) (hr.mono (by decide)) rfl (da_cons (de_var 2) da_nil))) (da_cons (de_fresh (call_NXok (ok_bytes_of T 5) (hr.mono (by decide)) rfl (da_cons (de_var 3) da_nil))) da_nil)) (by rfl))
    (db_cons (ds_if (PW.pt (dw_or (dt_cmp (op_neD (hu64 hr)) od_ne (de_var 4) (call_P (ok__law_bytes T 5) (hr.mono (by decide)) rfl (da_cons (de_var 2) da_nil)) (nomark _)) (dw_or (dt_cmp (op_neD (hu64 hr)) od_ne (de_var 5) (call_P (ok__law_bytes T 5) (hr.mono (by decide)) rfl (da_cons (de_var 3) da_nil)) (nomark _)) (dw_or1 (dt_cmp op_gt od_gtI (de_callB call_len cd_len rfl T.z_len (by decide +kernel) (da_cons (de_fresh (df_comp (own := [("byte", 6)]) rfl sc_law.nd (di_list (de_var 4)) (blkOk_by (N := n_law) (sc := defScope s_law) (by decide +kernel)) (fun _ _ _ _ _ => (dg_name (i := 6) sc_law.nd rfl (by first | exact Or.inl rfl | exact Or.inr rfl))) (fun _ _ _ _ _ => (dts_one (dt_not (dt_chain op_le od_leI op_lt od_ltI de_int (de_var 6) de_int)))) (fun _ _ _ _ _ => (de_var 6)))) da_nil)) de_int (nomark _))))))
    (db_one (ds_ret de_bl))
    db_nil)
    (db_cons (ds_then 7 (ds_setLc (own := [("k", 8)]) rfl sc_law.nd rfl rfl (sw_true rfl rfl rfl (by decide +kernel)) (di_range1 rfl T.z_range (da_cons (call_G (ok__law_take T) (hr.mono (by decide)) rfl (dg_st (i := 1) (dg_cons de_int dg_nil))) da_nil)) (blkOk_by (N := n_law) (sc := defScope s_law) (by decide +kernel)) (fun _ _ _ _ _ => (dg_name (i := 8) sc_law.nd rfl (by first | exact Or.inl rfl | exact Or.inr rfl))) (fun _ _ _ _ _ => dts_nil) (fun _ _ _ _ _ => (call_G (ok__law_take T) (hr.mono (by decide)) rfl (dg_st (i := 1) (dg_cons de_int dg_nil))))))
    (db_cons (ds_set (i := 9) sc_law.nd rfl (by first | exact Or.inl rfl | exact Or.inr rfl) (call_P (ok_read_thing T 5) (hr.mono (by decide)) rfl (da_cons (de_op op_addD od_addD (de_op op_addD od_addD (de_var 7) (de_var 4)) (de_var 5)) (da_cons (de_callB call_len cd_len rfl T.z_len (by decide +kernel) (da_cons (de_var 7) da_nil)) da_nil))))
    (db_cons (ds_if (PW.pt (dw_or (dt_cmp op_isN od_is (de_var 9) de_non (nomark _)) (dw_or (dt_cmp (op_neD (hu64 hr)) od_ne (de_ix (de_var 9) de_int) (de_op op_addD od_addD (de_callB call_len cd_len rfl T.z_len (by decide +kernel) (da_cons (de_var 7) da_nil)) (de_callB call_len cd_len rfl T.z_len (by decide +kernel) (da_cons (de_var 4) da_nil))) (nomark _)) (dw_or (dt_not (dt_tru (call_P (ok__law_same T 5) (hr.mono (by decide)) rfl (da_cons (de_ix (de_var 9) de_int) (da_cons (de_var 2) da_nil))))) (dw_or1 (dt_not (dt_tru (call_P (ok__law_same T 5) (hr.mono (by decide)) rfl (da_cons (call_PXok (ok_thing_of T) (hr.mono (by decide)) rfl (da_cons (de_op op_addD od_addD (de_var 4) (de_var 5)) da_nil)) (da_cons (de_var 2) da_nil))))))))))
    (db_one (ds_ret de_bl))
    db_nil)
    (db_cons (ds_set (i := 10) sc_law.nd rfl (by first | exact Or.inl rfl | exact Or.inr rfl) (call_P (ok_whole_thing T) (hr.mono (by decide)) rfl (da_cons (de_var 4) da_nil)))
    (db_cons (ds_if (PW.pt (dw_or (dt_cmp op_isN od_is (de_var 10) de_non (nomark _)) (dw_or (dt_not (dt_tru (call_P (ok__law_same T 5) (hr.mono (by decide)) rfl (da_cons (de_ix (de_var 10) de_int) (da_cons (de_var 2) da_nil))))) (dw_or1 (dt_cmp op_notN od_isNot (call_P (ok_whole_thing T) (hr.mono (by decide)) rfl (da_cons (de_op op_addD od_addD (de_var 4) (de_var 5)) da_nil)) de_non (nomark _))))))
    (db_one (ds_ret de_bl))
    db_nil)
    (db_cons (ds_set (i := 11) sc_law.nd rfl (by first | exact Or.inl rfl | exact Or.inr rfl) (call_G (ok__law_take T) (hr.mono (by decide)) rfl (dg_st (i := 1) (dg_cons (de_callB call_len cd_len rfl T.z_len (by decide +kernel) (da_cons (de_var 4) da_nil)) dg_nil))))
    (db_cons (ds_if (PW.pt (dw_or (dt_cmp op_notN od_isNot (call_P (ok_read_thing T 5) (hr.mono (by decide)) rfl (da_cons (de_fresh (df_slice (de_var 4) do_none (do_some (de_var 11)))) (da_cons de_int da_nil))) de_non (nomark _)) (dw_or (dt_cmp op_notN od_isNot (call_P (ok_whole_thing T) (hr.mono (by decide)) rfl (da_cons (de_fresh (df_slice (de_var 4) do_none (do_some (de_var 11)))) da_nil)) de_non (nomark _)) (dw_or1 (dt_cmp (op_neD (hu64 hr)) od_ne (call_P (ok__law_none T) (hr.mono (by decide)) rfl (da_cons (de_fresh (df_slice (de_var 4) do_none (do_some (de_var 11)))) da_nil)) de_str (nomark _))))))
    (db_one (ds_ret de_bl))
    db_nil)
    (db_cons (ds_if (PW.pt (dw_and (dt_cmp (op_eqD (hu64 hr)) od_eq (de_fresh (df_slice (de_var 4) do_none (do_some (de_callB call_len cd_len rfl T.z_len (by decide +kernel) (da_cons (de_var 5) da_nil))))) (de_var 5) (nomark _)) (dw_and1 (dt_not (dt_tru (call_P (ok__law_same T 5) (hr.mono (by decide)) rfl (da_cons (de_var 2) (da_cons (de_var 3) da_nil))))))))
    (db_one (ds_ret de_bl))
    db_nil)
    (db_cons (ds_set (i := 12) sc_law.nd rfl (by first | exact Or.inl rfl | exact Or.inr rfl) (de_callB call_abs cd_abs rfl T.z_abs (by decide +kernel) (da_cons (call_G (ok__law_whole T) (hr.mono (by decide)) rfl (dg_st (i := 1) dg_nil)) da_nil)))
    (db_cons (ds_set (i := 13) sc_law.nd rfl (by first | exact Or.inl rfl | exact Or.inr rfl) (call_P (ok_number_bytes T) (hr.mono (by decide)) rfl (da_cons (de_var 12) da_nil)))
    (db_cons (ds_if (PW.pt (dw_or (dt_cmp (op_neD (hu64 hr)) od_ne (de_var 13) (call_P (ok__law_number T) (hr.mono (by decide)) rfl (da_cons (de_var 12) da_nil)) (nomark _)) (dw_or (dt_cmp (op_neD (hu64 hr)) od_ne (call_P (ok_read_number T) (hr.mono (by decide)) rfl (da_cons (de_fresh (df_cat (de_op op_addD od_addD (de_var 7) (de_var 13)) (de_fresh (df_lst (da_cons de_int da_nil))))) (da_cons (de_callB call_len cd_len rfl T.z_len (by decide +kernel) (da_cons (de_var 7) da_nil)) da_nil))) (de_tup (da_cons (de_var 12) (da_cons (de_op op_addD od_addD (de_callB call_len cd_len rfl T.z_len (by decide +kernel) (da_cons (de_var 7) da_nil)) (de_callB call_len cd_len rfl T.z_len (by decide +kernel) (da_cons (de_var 13) da_nil))) da_nil))) (nomark _)) (dw_or1 (dt_cmp op_notN od_isNot (call_P (ok_read_number T) (hr.mono (by decide)) rfl (da_cons (de_fresh (df_slice (de_var 13) do_none (do_some (de_un un_neg ud_neg de_int)))) (da_cons de_int da_nil))) de_non (nomark _))))))
    (db_one (ds_ret de_bl))
    db_nil)
    (db_cons (ds_if (PW.pt (dw_or (dt_cmp op_notN od_isNot (call_P (ok_read_number T) (hr.mono (by decide)) rfl (da_cons (de_fresh (df_cat (de_fresh (df_comp (own := [("byte", 6)]) rfl sc_law.nd (di_list (de_var 13)) (blkOk_by (N := n_law) (sc := defScope s_law) (by decide +kernel)) (fun _ _ _ _ _ => (dg_name (i := 6) sc_law.nd rfl (by first | exact Or.inl rfl | exact Or.inr rfl))) (fun _ _ _ _ _ => dts_nil) (fun _ _ _ _ _ => (de_if (dt_cmp op_lt od_ltI (de_var 6) de_int (nomark _)) (de_op op_addD od_addD (de_var 6) de_int) (de_var 6))))) (de_fresh (df_lst (da_cons de_int da_nil))))) (da_cons de_int da_nil))) de_non (nomark _)) (dw_or1 (dt_cmp op_notN od_isNot (call_P (ok_read_number T) (hr.mono (by decide)) rfl (da_cons (de_fresh (df_lst da_nil)) (da_cons de_int da_nil))) de_non (nomark _)))))
    (db_one (ds_ret de_bl))
    db_nil)
    (db_cons (ds_set (i := 10) sc_law.nd rfl (by first | exact Or.inl rfl | exact Or.inr rfl) (call_G (ok__law_whole T) (hr.mono (by decide)) rfl (dg_st (i := 1) dg_nil)))
    (db_cons (ds_if (PW.pt (dw_or (dt_cmp (op_neD (hu64 hr)) od_ne (call_P (ok_signed_bytes T) (hr.mono (by decide)) rfl (da_cons (de_var 10) da_nil)) (call_P (ok__law_number T) (hr.mono (by decide)) rfl (da_cons (de_if (dt_cmp op_ge od_geI (de_var 10) de_int (nomark _)) (de_op op_mul od_mul de_int (de_var 10)) (de_op op_sub od_sub (de_op op_sub od_sub de_int (de_op op_mul od_mul de_int (de_var 10))) de_int)) da_nil)) (nomark _)) (dw_or1 (dt_cmp (op_neD (hu64 hr)) od_ne (call_P (ok_read_signed T) (hr.mono (by decide)) rfl (da_cons (de_fresh (df_cat (call_P (ok_signed_bytes T) (hr.mono (by decide)) rfl (da_cons (de_var 10) da_nil)) (de_fresh (df_lst (da_cons de_int da_nil))))) (da_cons de_int da_nil))) (de_tup (da_cons (de_var 10) (da_cons (de_callB call_len cd_len rfl T.z_len (by decide +kernel) (da_cons (call_P (ok_signed_bytes T) (hr.mono (by decide)) rfl (da_cons (de_var 10) da_nil)) da_nil)) da_nil))) (nomark _)))))
    (db_one (ds_ret de_bl))
    db_nil)
    (db_cons (ds_for PassesOwn.never rfl (di_list (de_fresh (df_lst (da_cons (de_fresh (df_lst (da_cons (de_op op_addD od_addD de_int (call_G (ok__law_take T) (hr.mono (by decide)) rfl (dg_st (i := 1) (dg_cons de_int dg_nil)))) da_nil))) (da_cons (de_fresh (df_lst (da_cons de_int da_nil))) (da_cons (de_fresh (df_lst (da_cons de_int (da_cons de_int da_nil)))) (da_cons (de_fresh (df_lst (da_cons de_int (da_cons de_int (da_cons de_int da_nil))))) (da_cons (de_fresh (df_lst (da_cons de_int (da_cons de_int da_nil)))) (da_cons (de_fresh (df_lst (da_cons de_int (da_cons de_int (da_cons de_int da_nil))))) (da_cons (de_fresh (df_lst (da_cons de_int (da_cons de_int (da_cons de_int da_nil))))) da_nil)))))))))) (dg_name (i := 14) sc_law.nd rfl (by first | exact Or.inl rfl | exact Or.inr rfl))
    (db_one (ds_if (dt_cmp op_notN od_isNot (call_P (ok_read_thing T 5) (hr.mono (by decide)) rfl (da_cons (de_var 14) (da_cons de_int da_nil))) de_non (nomark _))
    (db_one (ds_ret de_bl))
    db_nil)))
    (db_cons (ds_set (i := 15) sc_law.nd rfl (by first | exact Or.inl rfl | exact Or.inr rfl) de_str)
    (db_cons (ds_for PassesOwn.never rfl (di_range1 rfl T.z_range (da_cons (de_callB call_len cd_len rfl T.z_len (by decide +kernel) (da_cons (de_var 15) da_nil)) da_nil)) (dg_name (i := 8) sc_law.nd rfl (by first | exact Or.inl rfl | exact Or.inr rfl))
    (db_one (ds_if (PW.pt (dw_or (dt_cmp (op_neD (hu64 hr)) od_ne (de_fresh (call_NXok (ok_bytes_of T 5) (hr.mono (by decide)) rfl (da_cons (de_ix (de_var 15) (de_var 8)) da_nil))) (de_fresh (df_lst (da_cons de_int (da_cons de_int (da_cons (de_op op_addD od_addD de_int (de_var 8)) da_nil))))) (nomark _)) (dw_or1 (dt_cmp (op_neD (hu64 hr)) od_ne (call_PXok (ok_thing_of T) (hr.mono (by decide)) rfl (da_cons (de_fresh (df_lst (da_cons de_int (da_cons de_int (da_cons (de_op op_addD od_addD de_int (de_var 8)) da_nil))))) da_nil)) (de_ix (de_var 15) (de_var 8)) (nomark _)))))
    (db_one (ds_ret de_bl))
    db_nil)))
    (db_cons (ds_set (i := 16) sc_law.nd rfl (by first | exact Or.inl rfl | exact Or.inr rfl) (de_fresh (df_lst (da_cons (call_P (ok__law_refused T) (hr.mono (by decide)) rfl (da_cons de_str da_nil)) (da_cons (call_P (ok__law_refused T) (hr.mono (by decide)) rfl (da_cons (de_fresh (df_lst (da_cons de_int (da_cons (de_tup (da_cons de_str (da_cons de_str da_nil))) da_nil)))) da_nil)) (da_cons (call_P (ok__law_refused T) (hr.mono (by decide)) rfl (da_cons de_emp da_nil)) (da_cons (call_P (ok__law_refused T) (hr.mono (by decide)) rfl (da_cons (de_tup (da_cons de_int (da_cons (de_fresh (df_lst (da_cons de_emp da_nil))) da_nil))) da_nil)) (da_cons (call_P (ok__law_refused T) (hr.mono (by decide)) rfl (da_cons (de_var 2) da_nil)) da_nil))))))))
    (db_one (ds_ret (de_cmp (op_eqD (hu64 hr)) od_eq (de_var 16) (de_fresh (df_lst (da_cons de_str (da_cons de_str (da_cons de_str (da_cons de_str (da_cons de_non da_nil))))))) (nomark _)))))))))))))))))))))))))
end
end K50

namespace K50
open PySem Pd
/-! numbers as bytes: seven bits each -/
def hb (n : Nat) : List Int := if 127 < n then ((128 + n % 128 : Nat) : Int) :: hb (n / 128) else []
def lb (n : Nat) : Nat := if 127 < n then lb (n / 128) else n
def nb (n : Nat) : List Int := hb n ++ [(lb n : Int)]
theorem hb_s {n : Nat} (h : 127 < n) : hb n = ((128 + n % 128 : Nat) : Int) :: hb (n / 128) := by rw [hb, if_pos h]
theorem hb_n {n : Nat} (h : ¬ 127 < n) : hb n = [] := by rw [hb, if_neg h]
theorem lb_s {n : Nat} (h : 127 < n) : lb n = lb (n / 128) := by rw [lb, if_pos h]
theorem lb_n {n : Nat} (h : ¬ 127 < n) : lb n = n := by rw [lb, if_neg h]
theorem nb_s {n : Nat} (h : 127 < n) : nb n = ((128 + n % 128 : Nat) : Int) :: nb (n / 128) := by unfold nb; rw [hb_s h, lb_s h]; rfl
theorem nb_n {n : Nat} (h : ¬ 127 < n) : nb n = [(n : Int)] := by unfold nb; rw [hb_n h, lb_n h]; rfl
theorem hb_len : ∀ {k n : Nat}, n < 128 ^ (k + 1) → (hb n).length ≤ k
  | 0, n, h => by rw [hb_n (by simp at h; omega)]; exact Nat.le_refl _
  | k + 1, n, h => by
    by_cases z : 127 < n
    · rw [hb_s z, List.length_cons]
      have : n / 128 < 128 ^ (k + 1) := by
        rw [Nat.div_lt_iff_lt_mul (by decide)]
        rw [Nat.pow_succ] at h
        exact h
      have := hb_len this
      omega
    · rw [hb_n z]; simp
/-- what may be written: below 2 to the power 63 -/
theorem nb_len {n : Nat} (h : n < 128 ^ 9) : 1 ≤ (nb n).length ∧ (nb n).length ≤ 9 := by
  unfold nb
  rw [List.length_append]
  have := hb_len (k := 8) h
  simp
  omega
theorem iL_app (xs ys : List Int) : xs.map PyData.int ++ ys.map PyData.int = (xs ++ ys).map .int := by rw [List.map_append]
theorem nat_div (n : Nat) : ((n : Int)).fdiv 128 = ((n / 128 : Nat) : Int) := by rw [Int.fdiv_eq_ediv_of_nonneg _ (by decide)]; rfl
theorem nat_mod (n : Nat) : ((n : Int)).fmod 128 = ((n % 128 : Nat) : Int) := by rw [Int.fmod_eq_emod_of_nonneg _ (by decide)]; rfl
theorem nb_loop {wb : MS Unit} (hw : ∀ (n : Nat) (acc : List Int), acc.length ≤ 100 → 127 < n → wb [SV.sh (.int n), .ow (acc.map .int)] () = some (.nx, [SV.sh (.int ((n / 128 : Nat) : Int)), .ow ((acc ++ [((128 + n % 128 : Nat) : Int)]).map .int)], ())) :
    ∀ {k n : Nat} {acc : List Int}, n < 128 ^ (k + 1) → acc.length + k ≤ 100 → whileN wt_number_bytes_1 wb (k + 1) [SV.sh (.int n), .ow (acc.map .int)] () = some (.nx, [SV.sh (.int (lb n : Int)), .ow ((acc ++ hb n).map .int)], ())
  | 0, n, acc, h, ha => by
    have z : ¬ 127 < n := by simp at h; omega
    rw [lb_n z, hb_n z, List.append_nil]
    exact wn_f (opT_e rfl rfl (gt_f (by omega)))
  | k + 1, n, acc, h, ha => by
    by_cases z : 127 < n
    · have q : n / 128 < 128 ^ (k + 1) := by
        rw [Nat.div_lt_iff_lt_mul (by decide)]
        rw [Nat.pow_succ] at h
        exact h
      refine wn_t (opT_e rfl rfl (gt_t (by omega))) (hw n acc (by omega) z) ?_
      rw [nb_loop hw (k := k) q (by rw [List.length_append, List.length_singleton]; omega), lb_s z, hb_s z, List.append_assoc]
      rfl
    · rw [lb_n z, hb_n z, List.append_nil]
      exact wn_f (opT_e rfl rfl (gt_f (by omega)))
theorem app_i {env : Pd.Env} {j : Nat} {me : ME Unit} {acc : List Int} {z : Int} (h : me env () = some (.int z, ())) (hj : env.at j = .ow (acc.map .int)) (hl : acc.length ≤ 1000) : mApp j me env () = some (.nx, env.set j (.ow ((acc ++ [z]).map .int)), ()) := by
  rw [app_e h hj (by rw [List.length_map, line_val]; omega), List.map_append]
  rfl
theorem wb1_e (n : Nat) (acc : List Int) (ha : acc.length ≤ 100) (_ : 127 < n) : wb_number_bytes_2 [SV.sh (.int n), .ow (acc.map .int)] () = some (.nx, [SV.sh (.int ((n / 128 : Nat) : Int)), .ow ((acc ++ [((128 + n % 128 : Nat) : Int)]).map .int)], ()) := by
  refine seq_nx (app_i (z := ((128 + n % 128 : Nat) : Int)) (op_e rfl (op_e rfl rfl (mod_e (by decide))) ?_) rfl (by omega)) ?_
  · show some (PyData.int (128 + (n : Int).fmod 128)) = _
    rw [nat_mod]; rfl
  · refine (set_e (op_e rfl rfl (div_e (by decide)))).trans ?_
    rw [nat_div]; rfl
theorem wb2_e (n : Nat) (acc : List Int) (ha : acc.length ≤ 100) (_ : 127 < n) : wb__law_number_2 [SV.sh (.int n), .ow (acc.map .int)] () = some (.nx, [SV.sh (.int ((n / 128 : Nat) : Int)), .ow ((acc ++ [((128 + n % 128 : Nat) : Int)]).map .int)], ()) := by
  refine seq_nx (app_i (z := ((128 + n % 128 : Nat) : Int)) (op_e (op_e rfl rfl rfl) (op_e (op_e rfl rfl (div_e (by decide))) rfl (mul_r (by decide))) ?_) rfl (by omega)) ?_
  · show some (PyData.int (128 + (n : Int) - (n : Int).fdiv 128 * 128)) = _
    rw [nat_div]
    congr 2
    omega
  · refine (set_e (op_e rfl rfl (div_e (by decide)))).trans ?_
    rw [nat_div]; rfl
theorem number_bytes_e {n : Nat} (h : n < 128 ^ 9) : F_number_bytes [.int n] = some (iL (nb n)) := by
  refine (runP_rl (N := 2) (n := 1) (m := m_number_bytes) (ds := [.int n]) (u := ()) (xs := (hb n).map .int ++ [.int (lb n : Int)]) (seq_nx (setF_e (lst_e rfl)) (seq_nx (while_e 9 (nb_loop (k := 8) (acc := []) wb1_e h (by decide))) (retF_e ?_)))).trans ?_
  · unfold mCatOw
    show (if ((hb n).map PyData.int).length + 1 ≤ sizeLine then some (((hb n).map PyData.int) ++ [PyData.int (lb n)], ()) else none) = _
    have := hb_len (k := 8) h
    rw [if_pos (by rw [List.length_map, line_val]; omega)]
  · show some (PyData.list _) = some (PyData.list _)
    rw [nb, List.map_append]; rfl
theorem law_number_e {n : Nat} (h : n < 128 ^ 9) : F__law_number [.int n] = some (iL (nb n)) := by
  refine (runP_rl (N := 2) (n := 1) (m := m__law_number) (ds := [.int n]) (u := ()) (xs := (hb n).map .int ++ [.int (lb n : Int)]) (seq_nx (setF_e (lst_e rfl)) (seq_nx (while_e 9 (nb_loop (k := 8) (acc := []) wb2_e h (by decide))) (retF_e ?_)))).trans ?_
  · unfold mCatOw
    show (if ((hb n).map PyData.int).length + 1 ≤ sizeLine then some (((hb n).map PyData.int) ++ [PyData.int (lb n)], ()) else none) = _
    have := hb_len (k := 8) h
    rw [if_pos (by rw [List.length_map, line_val]; omega)]
  · show some (PyData.list _) = some (PyData.list _)
    rw [nb, List.map_append]; rfl
/-! whole numbers both ways -/
def zg (i : Int) : Nat := if 0 ≤ i then (2 * i).toNat else (0 - 2 * i - 1).toNat
theorem zg_if {i : Int} : (if 0 ≤ i then 2 * i else 0 - 2 * i - 1) = (zg i : Int) := by
  unfold zg
  by_cases h : 0 ≤ i
  · rw [if_pos h, if_pos h]; omega
  · rw [if_neg h, if_neg h]; omega
theorem zg_lt {i : Int} (h : i.natAbs < 2 ^ 50) : zg i < 128 ^ 9 := by
  unfold zg
  have : (2 : Nat) ^ 50 = 1125899906842624 := by decide
  have : (128 : Nat) ^ 9 = 9223372036854775808 := by decide
  split <;> omega
def zgE : ME Unit := mIf (mOpT dGeI (mVar 0) (mC (.int 0))) (mOp dMul (mC (.int 2)) (mVar 0)) (mOp dSub (mOp dSub (mC (.int 0)) (mOp dMul (mC (.int 2)) (mVar 0))) (mC (.int 1)))
theorem zgm_e {G : Type} {env : Pd.Env} {g : G} {i : Int} {ma : ME G} (h : ma env g = some (.int i, g)) : (mIf (mOpT dGeI ma (mC (.int 0))) (mOp dMul (mC (.int 2)) ma) (mOp dSub (mOp dSub (mC (.int 0)) (mOp dMul (mC (.int 2)) ma)) (mC (.int 1))) : ME G) env g = some (.int (zg i), g) := by
  rw [← zg_if]
  by_cases z : 0 ≤ i
  · rw [if_pos z]
    exact mif_t (opT_e h rfl (ge_t z)) (op_e rfl h (mul_l (by decide)))
  · rw [if_neg z]
    exact mif_f (opT_e h rfl (ge_f z)) (op_e (op_e rfl (op_e rfl h (mul_l (by decide))) rfl) rfl rfl)
theorem signed_bytes_e {i : Int} (h : i.natAbs < 2 ^ 50) : F_signed_bytes [.int i] = some (iL (nb (zg i))) :=
  runP_re (N := 1) (n := 1) (m := m_signed_bytes) (ret_e (call_e (cons_e (zgm_e rfl) nil_e) (number_bytes_e (zg_lt h))))
/-! reading a number -/
def rnA : List Int → Nat → Int → Option (Int × Nat)
  | [], _, _ => none
  | b :: r, s, acc => if b < 128 then (if b = 0 ∧ 0 < s then none else some (acc + b.fmod 128 * 2 ^ (7 * s), s + 1)) else rnA r (s + 1) (acc + b.fmod 128 * 2 ^ (7 * s))
def rn (c : List Int) : Option (Int × Nat) := rnA c 0 0
def rnD (p : Nat) : Option (Int × Nat) → D
  | none => .none
  | some (v, l) => .tuple [.int v, .int ((p + l : Nat) : Int)]
abbrev envR (c : List Int) (p : Nat) (acc : Int) (s : Nat) (b : SV) : Pd.Env := [.sh (iL c), .sh (.int (p : Int)), .sh (.int acc), .sh (.int (s : Int)), b]
theorem rn_loop {c : List Int} {p : Nat} (hc : c.length ≤ 100000) : ∀ {k s : Nat} {acc : Int} {b : SV}, c.length ≤ p + s + k → (∃ e, whileN wt_read_number_1 wb_read_number_2 (k + 1) (envR c p acc s b) () = some (.re (rnD p (rnA (c.drop (p + s)) s acc)), e, ())) ∨
    (∃ e, whileN wt_read_number_1 wb_read_number_2 (k + 1) (envR c p acc s b) () = some (.nx, e, ())) ∧ rnA (c.drop (p + s)) s acc = none := by
  intro k
  induction k with
  | zero =>
    intro s acc b h
    refine .inr ⟨⟨_, wn_f (opT_e (op_e rfl rfl rfl) (call_e (cons_e rfl nil_e) iL_len) (lt_f (by omega)))⟩, ?_⟩
    rw [List.drop_eq_nil_of_le (by omega)]; rfl
  | succ k ih =>
    intro s acc b h
    by_cases hp : p + s < c.length
    · have hd : c.drop (p + s) = c[p + s] :: c.drop (p + (s + 1)) := by rw [List.drop_eq_getElem_cons hp]; rfl
      have hg : c[p + s]? = some c[p + s] := List.getElem?_eq_getElem hp
      rw [hd]
      have t1 : wt_read_number_1 (envR c p acc s b) () = some (true, ()) := opT_e (op_e rfl rfl rfl) (call_e (cons_e rfl nil_e) iL_len) (lt_t (by show (p : Int) + (s : Int) < _; omega))
      have hfm : (c[p + s].fmod 128).natAbs < 2 ^ 64 := by
        rw [Int.fmod_eq_emod_of_nonneg _ (by decide)]
        have h1 := Int.emod_nonneg c[p + s] (show (128 : Int) ≠ 0 by decide)
        have h2 := Int.emod_lt_of_pos c[p + s] (show (0 : Int) < 128 by decide)
        have : (2 : Nat) ^ 64 = 18446744073709551616 := by decide
        omega
      have sh : dShl (.int (c[p + s].fmod 128)) (.int (7 * (s : Int))) = some (.int (c[p + s].fmod 128 * 2 ^ (7 * s))) := by
        refine (if_pos ⟨by omega, by omega, hfm⟩).trans ?_
        show some (PyData.int (c[p + s].fmod 128 * 2 ^ (7 * (s : Int)).toNat)) = _
        rw [show (7 * (s : Int)).toNat = 7 * s by omega]
      have body : ∀ {r}, (mIfS (mOpT dLtI (mVar 4) (mC (.int 128))) (mRet (mIf (mAnd (mOpT dEq (mVar 4) (mC (.int 0))) (mOpT dGtI (mVar 3) (mC (.int 1)))) (mC .none) (mTup (mCons (mVar 2) (mCons (mOp dAdd (mVar 1) (mVar 3)) mNil))))) mSkip : MS Unit) (envR c p (acc + c[p + s].fmod 128 * 2 ^ (7 * s)) (s + 1) (.sh (.int c[p + s]))) () = r →
          wb_read_number_2 (envR c p acc s b) () = r := fun h => by
        refine seq_nx (set_e (op_e rfl (op_e rfl rfl rfl) (iL_get hg))) (seq_nx (set_e (op_e rfl (op_e (op_e rfl rfl (mod_e (by decide))) (op_e rfl rfl (mul_l (by decide))) sh) rfl)) (seq_nx (set_e (op_e rfl rfl rfl)) ?_))
        exact h
      unfold rnA
      by_cases hb : c[p + s] < 128
      · rw [if_pos hb]
        left
        by_cases h0 : c[p + s] = 0 ∧ 0 < s
        · rw [if_pos h0]
          exact ⟨_, wn_re t1 (body (if_t (opT_e rfl rfl (lt_t hb)) (ret_e (mif_t (and_t (opT_e rfl rfl (eq_it h0.1)) (opT_e rfl rfl (gt_t (by omega)))) rfl))))⟩
        · rw [if_neg h0]
          refine ⟨_, wn_re t1 (body (if_t (opT_e rfl rfl (lt_t hb)) (ret_e (mif_f ?_ (tup_e (cons_e rfl (cons_e (op_e rfl rfl rfl) nil_e)))))))⟩
          by_cases h1 : c[p + s] = 0
          · exact and_t (opT_e rfl rfl (eq_it h1)) (opT_e rfl rfl (gt_f (by omega)))
          · exact and_f (opT_e rfl rfl (eq_if h1))
      · rw [if_neg hb]
        have e1 : wb_read_number_2 (envR c p acc s b) () = some (.nx, envR c p (acc + c[p + s].fmod 128 * 2 ^ (7 * s)) (s + 1) (.sh (.int c[p + s])), ()) := body (if_no (opT_e rfl rfl (lt_f hb)))
        rcases ih (s := s + 1) (acc := acc + c[p + s].fmod 128 * 2 ^ (7 * s)) (b := .sh (.int c[p + s])) (by omega) with ⟨e, h⟩ | ⟨⟨e, h⟩, h2⟩
        · exact .inl ⟨e, wn_t t1 e1 h⟩
        · exact .inr ⟨⟨e, wn_t t1 e1 h⟩, h2⟩
    · refine .inr ⟨⟨_, wn_f (opT_e (op_e rfl rfl rfl) (call_e (cons_e rfl nil_e) iL_len) (lt_f (by show ¬ (p : Int) + (s : Int) < _; omega)))⟩, ?_⟩
      rw [List.drop_eq_nil_of_le (by omega)]; rfl
theorem read_number_e {c : List Int} (p : Nat) (hc : c.length ≤ 100000) : F_read_number [iL c, .int (p : Int)] = some (rnD p (rn (c.drop p))) := by
  rcases rn_loop (c := c) (p := p) hc (k := c.length) (s := 0) (acc := 0) (b := .un) (by omega) with ⟨e, h⟩ | ⟨⟨e, h⟩, h2⟩
  · exact runP_re (N := 5) (n := 2) (m := m_read_number) (ds := [iL c, .int (p : Int)]) (u := ()) (seq_nx (set_e rfl) (seq_nx (set_e rfl) (seq_re (while_e (c.length + 1) h))))
  · rw [show rn (c.drop p) = none from h2]
    exact runP_re (N := 5) (n := 2) (m := m_read_number) (ds := [iL c, .int (p : Int)]) (u := ()) (seq_nx (set_e rfl) (seq_nx (set_e rfl) (seq_nx (while_e (c.length + 1) h) (ret_e rfl))))
/-! a number reads back; cut it is none -/
theorem rnA_nb {s : Nat} : ∀ {n : Nat} {acc : Int} {r : List Int}, (n = 0 → s = 0) → rnA (nb n ++ r) s acc = some (acc + n * 2 ^ (7 * s), s + (nb n).length) := by
  intro n
  induction n using Nat.strongRecOn generalizing s with
  | _ n ih =>
    intro acc r h0
    by_cases h : 127 < n
    · rw [nb_s h, List.cons_append]
      unfold rnA
      have hm : ((128 + n % 128 : Nat) : Int).fmod 128 = ((n % 128 : Nat) : Int) := by rw [nat_mod]; congr 1; omega
      rw [if_neg (by omega), ih (n / 128) (by omega) (fun z => by omega), List.length_cons, hm]
      have e1 : (2 : Int) ^ (7 * (s + 1)) = 128 * 2 ^ (7 * s) := by rw [show 7 * (s + 1) = 7 + 7 * s by omega, Int.pow_add]; rfl
      rw [e1]
      congr 1
      refine Prod.ext ?_ (by show s + 1 + _ = s + (_ + 1); omega)
      show acc + ((n % 128 : Nat) : Int) * 2 ^ (7 * s) + ((n / 128 : Nat) : Int) * (128 * 2 ^ (7 * s)) = acc + (n : Int) * 2 ^ (7 * s)
      rw [Int.add_assoc, ← Int.mul_assoc, ← Int.add_mul]
      congr 2
      omega
    · rw [nb_n h, List.cons_append, List.nil_append]
      unfold rnA
      have hm : ((n : Int)).fmod 128 = (n : Int) := by rw [nat_mod]; congr 1; omega
      rw [if_pos (by omega), if_neg (by omega), hm]
      rfl
theorem rn_nb (n : Nat) (r : List Int) : rn (nb n ++ r) = some ((n : Int), (nb n).length) := by
  unfold rn
  rw [rnA_nb (s := 0) fun _ => rfl]
  simp
theorem rnA_hi : ∀ {xs : List Int} {s : Nat} {acc : Int}, (∀ x ∈ xs, ¬ x < 128) → rnA xs s acc = none
  | [], _, _, _ => rfl
  | x :: xs, s, acc, h => by unfold rnA; rw [if_neg (h x (by simp))]; exact rnA_hi fun y hy => h y (by simp [hy])
theorem hb_hi : ∀ {n : Nat} {x : Int}, x ∈ hb n → 128 ≤ x ∧ x < 256 := by
  intro n
  induction n using Nat.strongRecOn with
  | _ n ih =>
    intro x hx
    by_cases h : 127 < n
    · rw [hb_s h] at hx
      rcases List.mem_cons.mp hx with rfl | hx
      · omega
      · exact ih (n / 128) (by omega) hx
    · rw [hb_n h] at hx; cases hx
theorem lb_lo : ∀ (n : Nat), lb n < 128 := by
  intro n
  induction n using Nat.strongRecOn with
  | _ n ih =>
    by_cases h : 127 < n
    · rw [lb_s h]; exact ih (n / 128) (by omega)
    · rw [lb_n h]; omega
/-- a proper beginning of a number is none -/
theorem rn_cut {n k : Nat} (h : k < (nb n).length) : rn ((nb n).take k) = none := by
  unfold nb at h ⊢
  rw [List.length_append, List.length_singleton] at h
  rw [List.take_append_of_le_length (by omega)]
  exact rnA_hi fun x hx => by have := hb_hi (List.mem_of_mem_take hx); omega
theorem nb_byte {n : Nat} {x : Int} (h : x ∈ nb n) : 0 ≤ x ∧ x < 256 := by
  unfold nb at h
  rcases List.mem_append.mp h with h | h
  · have := hb_hi h; omega
  · rw [List.mem_singleton] at h
    have := lb_lo n
    omega
end K50

namespace K50
open PySem Pd
def uz (k : Int) : Int := if k.fmod 2 = 0 then k.fdiv 2 else 0 - (k + 1).fdiv 2
theorem uz_zg (i : Int) : uz (zg i) = i := by
  unfold uz
  rw [Int.fmod_eq_emod_of_nonneg _ (by decide), Int.fdiv_eq_ediv_of_nonneg _ (by decide), Int.fdiv_eq_ediv_of_nonneg _ (by decide)]
  unfold zg
  by_cases h : 0 ≤ i
  · rw [if_pos h, if_pos (by omega)]; omega
  · rw [if_neg h, if_neg (by omega)]; omega
def rs (c : List Int) : Option (Int × Nat) := (rn c).map fun v => (uz v.1, v.2)
theorem read_signed_e {c : List Int} (p : Nat) (hc : c.length ≤ 100000) : F_read_signed [iL c, .int (p : Int)] = some (rnD p (rs (c.drop p))) := by
  have e := read_number_e (c := c) p hc
  unfold rs
  cases h : rn (c.drop p) with
  | none =>
    rw [h] at e
    exact runP_re (N := 4) (n := 2) (m := m_read_signed) (ds := [iL c, .int (p : Int)]) (u := ()) (seq_nx (set_e (call_e (cons_e rfl (cons_e rfl nil_e)) e)) (seq_re (if_t (opT_e rfl rfl rfl) rfl)))
  | some vl =>
    obtain ⟨v, l⟩ := vl
    rw [h] at e
    refine runP_re (N := 4) (n := 2) (m := m_read_signed) (ds := [iL c, .int (p : Int)]) (u := ()) (seq_nx (set_e (call_e (cons_e rfl (cons_e rfl nil_e)) e)) (seq_nx (if_no (opT_e rfl rfl rfl)) (seq_nx (set_e (d := .int (uz v)) ?_) (ret_e (tup_e (cons_e rfl (cons_e (op_e rfl rfl rfl) nil_e)))))))
    unfold uz
    by_cases z : v.fmod 2 = 0
    · rw [if_pos z]
      exact mif_t (opT_e (op_e (op_e rfl rfl rfl) rfl (mod_e (by decide))) rfl (eq_it z)) (op_e (op_e rfl rfl rfl) rfl (div_e (by decide)))
    · rw [if_neg z]
      exact mif_f (opT_e (op_e (op_e rfl rfl rfl) rfl (mod_e (by decide))) rfl (eq_if z)) (op_e rfl (op_e (op_e (op_e rfl rfl rfl) rfl rfl) rfl (div_e (by decide))) rfl)
/-! texts -/
def ch (c : Nat) : Str := ⟨#[c]⟩
def tx (cs : List Nat) : Str := ⟨cs.toArray⟩
abbrev SGN : Str := " 0123456789_abcdefghijklmnopqrstuvwxyz'(),.*+-=<>\x0a!\"#$&/:;?@ABCDEFGHIJKLMNOPQRSTUVWXYZ[\\]^`{|}~"
def sgl : List Nat := SGN.cps.toList
def six (c : Nat) : Nat := sgl.idxOf c
theorem sgl_len : sgl.length = 95 := by decide +kernel
theorem six_get {c : Nat} (h : c ∈ sgl) : sgl[six c]? = some c := by
  have hl := List.idxOf_lt_length_iff.mpr h
  unfold six
  rw [List.getElem?_eq_getElem hl]
  congr 1
  exact List.getElem_idxOf hl
theorem six_lt {c : Nat} (h : c ∈ sgl) : six c < 95 := by
  have := List.idxOf_lt_length_iff.mpr h
  rw [sgl_len] at this
  exact this
theorem ix_sgn {c : Nat} (h : c ∈ sgl) : dIndex (.str SGN) (.str (ch c)) = some (.int (six c : Int)) := by
  have : ∀ c ∈ sgl, (Builtin.Str.occurrences SGN (ch c) 0 SGN.length 1).head? = some (six c) := by decide +kernel
  exact index_e (this c h)
def dset : List Nat := [32, 48, 49, 57, 95, 97, 98, 122]
theorem ix_low {c : Nat} (h : c ∈ dset) : dIndex (.str " 0123456789_abcdefghijklmnopqrstuvwxyz") (.str (ch c)) = some (.int (six c : Int)) := by
  have : ∀ c ∈ dset, (Builtin.Str.occurrences " 0123456789_abcdefghijklmnopqrstuvwxyz" (ch c) 0 (Str.length " 0123456789_abcdefghijklmnopqrstuvwxyz") 1).head? = some (six c) := by decide +kernel
  exact index_e (this c h)
theorem dset_sgl {c : Nat} (h : c ∈ dset) : c ∈ sgl := by
  have : ∀ c ∈ dset, c ∈ sgl := by decide +kernel
  exact this c h
theorem sgn_at {b c : Nat} (h : sgl[b]? = some c) : dIx (.str SGN) (.int (b : Int)) = some (.str (ch c)) := by
  show (L2.atI SGN.cps.toList (b : Int)).map _ = _
  rw [L2.atI_nat (show SGN.cps.toList[b]? = some c from h)]
  rfl
theorem its_e {G : Type} {env : Pd.Env} {g : G} {cs : List Nat} {i : Nat} (h : mVar i env g = some (.str (tx cs), g)) : mItS (mVar i) env g = some (cs.map fun c => .str (ch c), g) := by
  unfold mItS
  rw [h]
  rfl
theorem join_ch {e : Str} {cs : List Nat} (he : e.length = 0) (hl : cs.length ≤ 16777216) : dJoin (.str e) (.list (cs.map fun c => .str (ch c))) = some (.str (tx cs)) := by
  have e1 : cs.map (fun c => PyData.str (ch c)) = (cs.map ch).map .str := by rw [List.map_map]; rfl
  rw [e1]
  show (strsD _).bind _ = _
  rw [strsD_map]
  have e2 : ((cs.map ch).map (·.length)).sum = cs.length := by
    induction cs with
    | nil => rfl
    | cons c cs ih => simp only [List.map_cons, List.sum_cons, List.length_cons]; rw [ih (by simp at hl; omega) (by rw [List.map_map]; rfl)]; show 1 + _ = _; omega
  have e3 : ((cs.map ch).map fun y => y.cps.toList).flatten = cs := by
    clear e1 e2 hl
    induction cs with
    | nil => rfl
    | cons c cs ih => simp only [List.map_cons, List.flatten_cons]; rw [ih]; rfl
  show (if _ then _ else none) = _
  rw [if_pos ⟨by rw [e2, he]; omega, he⟩, e3]
  rfl
def tb (cs : List Nat) : List Int := nb cs.length ++ cs.map fun c => (six c : Int)
theorem all_in {cs : List Nat} : (mCall dAll (mCons (mL (mComp (mItS (mVar 0)) [1] (bName 1) mYes (mOp (dInS false) (mVar 1) (mC (.str SGN))))) mNil) : ME Unit) (startE 2 [SV.sh (.str (tx cs))]) () = some (.bool (cs.all fun c => decide (c ∈ sgl)), ()) := by
  refine call_e (cons_e (L_e (comp_e (its_e rfl) rfl (compL_mm (fun c => .str (ch c)) (fun c => .bool (decide (c ∈ sgl))) fun c hc => ⟨_, rfl, op_e rfl rfl rfl⟩))) nil_e) (all_e cs _)
theorem text_bytes_ok {cs : List Nat} (h : ∀ c ∈ cs, c ∈ sgl) (hl : cs.length ≤ 1000) : F_text_bytes [.str (tx cs)] = some (.ok ((tb cs).map .int)) := by
  have ha : (cs.all fun c => decide (c ∈ sgl)) = true := by rw [List.all_eq_true]; exact fun c hc => decide_eq_true (h c hc)
  have hn : cs.length < 128 ^ 9 := Nat.lt_of_le_of_lt hl (by decide)
  have hb := nb_len hn
  have hi := all_in (cs := cs)
  rw [ha] at hi
  refine runNX_ok (N := 2) (n := 1) (m := m_text_bytes) (ds := [.str (tx cs)]) (u := ()) (sx_nx (ifx_f (not_e (tru_e hi rfl)) (nm_e rfl)) (nm_e (retF_e ?_)))
  refine (cat_e (call_e (cons_e (call_e (cons_e rfl nil_e) rfl) nil_e) (number_bytes_e hn)) (L_e (comp_e (its_e rfl) rfl (compL_mm (fun c => .str (ch c)) (fun c => .int (six c : Int)) fun c hc => ⟨_, rfl, m1_e rfl rfl (ix_sgn (h c hc))⟩))) ?_).trans ?_
  · rw [List.length_map, List.length_map, line_val]; omega
  · rw [tb, List.map_append, List.map_map]; rfl
theorem text_bytes_er {cs : List Nat} (h : (cs.all fun c => decide (c ∈ sgl)) = false) : F_text_bytes [.str (tx cs)] = some (.error "text") := by
  have hi := all_in (cs := cs)
  rw [h] at hi
  exact runNX_er (N := 2) (n := 1) (m := m_text_bytes) (ds := [.str (tx cs)]) (u := ()) (sx_xw (ifx_t (not_e (tru_e hi rfl)) (raise_e rfl (by decide))))
/-! reading a text -/
theorem rnA_ge : ∀ {xs : List Int} {s : Nat} {acc v : Int} {l : Nat}, 0 ≤ acc → rnA xs s acc = some (v, l) → 0 ≤ v ∧ s < l ∧ l ≤ s + xs.length
  | [], _, _, _, _, _, h => by cases h
  | b :: r, s, acc, v, l, h0, h => by
    have hp : 0 ≤ b.fmod 128 * 2 ^ (7 * s) := by
      rw [Int.fmod_eq_emod_of_nonneg _ (by decide)]
      exact Int.mul_nonneg (Int.emod_nonneg _ (by decide)) (Int.pow_nonneg (by decide))
    unfold rnA at h
    rw [List.length_cons]
    split at h
    · split at h
      · cases h
      · cases h; omega
    · have := rnA_ge (by omega) h
      omega
def rtx (r : List Int) : Option (List Nat × Nat) := match rn r with
  | none => none
  | some (v, l) => if r.length < l + v.toNat then none else if (((r.drop l).take v.toNat).all fun b => decide (b < 95)) = true then some (((r.drop l).take v.toNat).map fun b => sgl.getD b.toNat 0, l + v.toNat) else none
def rtxD (p : Nat) : Option (List Nat × Nat) → D
  | none => .none
  | some (cs, l) => .tuple [.str (tx cs), .int ((p + l : Nat) : Int)]
theorem read_text_e {c : List Int} (p : Nat) (hc : c.length ≤ 100000) (hp : p ≤ c.length) (h0 : ∀ b ∈ c, 0 ≤ b) : F_read_text [iL c, .int (p : Int)] = some (rtxD p (rtx (c.drop p))) := by
  have e := read_number_e (c := c) p hc
  unfold rtx
  cases h : rn (c.drop p) with
  | none =>
    rw [h] at e
    exact runP_re (N := 5) (n := 2) (m := m_read_text) (ds := [iL c, .int (p : Int)]) (u := ()) (seq_nx (set_e (call_e (cons_e rfl (cons_e rfl nil_e)) e)) (seq_re (if_t (or_t (opT_e rfl rfl rfl)) rfl)))
  | some vl =>
    obtain ⟨v, l⟩ := vl
    rw [h] at e
    obtain ⟨hv, hl, hl2⟩ := rnA_ge (Int.le_refl 0) h
    rw [List.length_drop] at hl2
    have ev : v = (v.toNat : Int) := (Int.toNat_of_nonneg hv).symm
    show _ = some (rtxD p (if (c.drop p).length < l + v.toNat then none else if ((((c.drop p).drop l).take v.toNat).all fun b => decide (b < 95)) = true then some ((((c.drop p).drop l).take v.toNat).map fun b => sgl.getD b.toNat 0, l + v.toNat) else none))
    rw [List.length_drop, List.drop_drop]
    by_cases z : c.length - p < l + v.toNat
    · rw [if_pos z]
      exact runP_re (N := 5) (n := 2) (m := m_read_text) (ds := [iL c, .int (p : Int)]) (u := ()) (seq_nx (set_e (call_e (cons_e rfl (cons_e rfl nil_e)) e)) (seq_re (if_t (or_f (opT_e rfl rfl rfl) (opT_e (op_e (op_e rfl rfl rfl) (op_e rfl rfl rfl) rfl) (call_e (cons_e rfl nil_e) iL_len) (gt_t (by omega)))) rfl)))
    · rw [if_neg z]
      generalize hrow : ((c.drop (p + l)).take v.toNat) = row
      have hcut : cut (c.map PyData.int) (some ((p + l : Nat) : Int)) (some (((p + l : Nat) : Int) + v)) = row.map .int := by
        rw [ev, show ((p + l : Nat) : Int) + ((v.toNat : Nat) : Int) = ((p + l + v.toNat : Nat) : Int) by omega, cut_mid _ _ _ (by rw [List.length_map]; omega), show p + l + v.toNat - (p + l) = v.toNat by omega, ← List.map_drop, ← List.map_take, hrow]
      have hrl : row.length ≤ 100000 := by rw [← hrow, List.length_take, List.length_drop]; omega
      have hmem : ∀ b ∈ row, 0 ≤ b := fun b hb => h0 b (by rw [← hrow] at hb; exact List.mem_of_mem_drop (List.mem_of_mem_take hb))
      have pre : ∀ {r}, (mSeq (mIfS (mNot (mTru (mCall dAll (mCons (mL (mComp (mItL (mVar 3)) [4] (bName 4) mYes (mOp dLtI (mVar 4) (mCall dLen (mCons (mC (.str SGN)) mNil))))) mNil))))
          (mRet (mC .none)) mSkip)
          (mRet (mTup (mCons (mM1 dJoin (mC (.str "")) (mL (mComp (mItL (mVar 3)) [4] (bName 4) mYes (mOp dIx (mC (.str SGN)) (mVar 4))))) (mCons (mOp dAdd (mOp dIx (mVar 2) (mC (.int 1))) (mOp dIx (mVar 2) (mC (.int 0)))) mNil)))) : MS Unit)
          [.sh (iL c), .sh (.int (p : Int)), .sh (.tuple [.int v, .int ((p + l : Nat) : Int)]), .sh (iL row), .un] () = r → m_read_text (startE 5 ([iL c, .int (p : Int)].map .sh)) () = r := fun {r} hr => by
        refine seq_nx (set_e (call_e (cons_e rfl (cons_e rfl nil_e)) e)) (seq_nx (if_no (or_f (opT_e rfl rfl rfl) (opT_e (op_e (op_e rfl rfl rfl) (op_e rfl rfl rfl) rfl) (call_e (cons_e rfl nil_e) iL_len) (gt_f (by omega))))) (seq_nx (set_e (L_e ((slL_e rfl (part_e (op_e rfl rfl rfl)) (part_e (op_e (op_e rfl rfl rfl) (op_e rfl rfl rfl) rfl))).trans (by rw [hcut])))) ?_))
        exact hr
      have hall : (mCall dAll (mCons (mL (mComp (mItL (mVar 3)) [4] (bName 4) mYes (mOp dLtI (mVar 4) (mCall dLen (mCons (mC (.str SGN)) mNil))))) mNil) : ME Unit) [.sh (iL c), .sh (.int (p : Int)), .sh (.tuple [.int v, .int ((p + l : Nat) : Int)]), .sh (iL row), .un] () = some (.bool (row.all fun b => decide (b < 95)), ()) :=
        call_e (cons_e (L_e (comp_e (ds := row.map .int) (itL_e rfl) rfl (compL_mm PyData.int (fun b => .bool (decide (b < 95))) fun b hb => ⟨_, rfl, op_e rfl (call_e (cons_e rfl nil_e) rfl) rfl⟩))) nil_e) (all_e row _)
      by_cases y : (row.all fun b => decide (b < 95)) = true
      · rw [if_pos y]
        rw [y] at hall
        have hlow : ∀ b ∈ row, b < 95 := fun b hb => of_decide_eq_true (List.all_eq_true.mp y b hb)
        refine runP_re (N := 5) (n := 2) (m := m_read_text) (ds := [iL c, .int (p : Int)]) (u := ()) (pre (seq_nx (if_no (not_e (tru_e hall rfl))) (ret_e (tup_e (cons_e (x := .str (tx (row.map fun b => sgl.getD b.toNat 0))) ?_ (cons_e (op_e (op_e rfl rfl rfl) (op_e rfl rfl rfl) ?_) nil_e))))))
        · refine m1_e rfl (L_e (comp_e (ds := row.map .int) (itL_e rfl) rfl (compL_mm PyData.int (fun b => .str (ch (sgl.getD b.toNat 0))) fun b hb => ⟨_, rfl, op_e rfl rfl ?_⟩))) ?_
          · have hb0 := hmem b hb
            have hb1 := hlow b hb
            have : dIx (.str SGN) (.int ((b.toNat : Nat) : Int)) = some (.str (ch (sgl.getD b.toNat 0))) := sgn_at (by
              have : b.toNat < sgl.length := by rw [sgl_len]; omega
              rw [List.getD_eq_getElem?_getD, List.getElem?_eq_getElem this]; rfl)
            rw [Int.toNat_of_nonneg hb0] at this
            exact this
          · have := join_ch (e := "") (cs := row.map fun b => sgl.getD b.toNat 0) (by decide) (by rw [List.length_map]; omega)
            rw [List.map_map] at this
            exact this
        · show some (PyData.int (((p + l : Nat) : Int) + v)) = _
          congr 2; omega
      · rw [if_neg y]
        rw [Bool.not_eq_true] at y
        rw [y] at hall
        exact runP_re (N := 5) (n := 2) (m := m_read_text) (ds := [iL c, .int (p : Int)]) (u := ()) (pre (seq_re (if_t (not_e (tru_e hall rfl)) rfl)))
end K50

namespace K50
open PySem Pd
/-! a thing's bytes, or the word that refuses it -/
abbrev ER := Except Str (List Int)
def ebL (f : D → ER) : List D → ER
  | [] => .ok []
  | d :: ds => match f d with
    | .error w => .error w
    | .ok xs => match ebL f ds with
      | .error w => .error w
      | .ok ys => .ok (xs ++ ys)
def ebP (t : Int) (n : Nat) : ER → ER
  | .error w => .error w
  | .ok xs => .ok (t :: (nb n ++ xs))
def eb1 (f : D → ER) : D → ER
  | .none => .ok [0]
  | .bool b => .ok [if b then 2 else 1]
  | .int i => .ok (3 :: nb (zg i))
  | .str s => if (s.cps.toList.all fun c => decide (c ∈ sgl)) = true then .ok (4 :: tb s.cps.toList) else .error "text"
  | .tuple ds => ebP 5 ds.length (ebL f ds)
  | .list ds => ebP 6 ds.length (ebL f ds)
  | .dict _ => .error "thing"
def eb : Nat → D → ER
  | 0 => eb1 fun _ => .error "deep"
  | n + 1 => eb1 (eb n)
/-- small enough -/
def Sz1 (P : D → Prop) : D → Prop
  | .int i => i.natAbs < 2 ^ 50
  | .str s => s.cps.toList.length ≤ 10
  | .tuple ds => ds.length ≤ 4 ∧ ∀ d ∈ ds, P d
  | .list ds => ds.length ≤ 4 ∧ ∀ d ∈ ds, P d
  | .dict kvs => PyData.dict kvs = EMP
  | _ => True
def Sz : Nat → D → Prop
  | 0 => Sz1 fun _ => False
  | n + 1 => Sz1 (Sz n)
theorem ebL_len {f : D → ER} {L : Nat} : ∀ {ds : List D} {xs : List Int}, (∀ d ∈ ds, ∀ ys, f d = .ok ys → ys.length ≤ L) → ebL f ds = .ok xs → xs.length ≤ ds.length * L
  | [], xs, _, h => by cases h; simp
  | d :: ds, xs, hd, h => by
    unfold ebL at h
    cases e1 : f d with
    | error w => rw [e1] at h; cases h
    | ok ys =>
      rw [e1] at h
      cases e2 : ebL f ds with
      | error w => rw [e2] at h; cases h
      | ok zs =>
        rw [e2] at h
        cases h
        have h1 := hd d (by simp) ys e1
        have h2 := ebL_len (fun x hx => hd x (by simp [hx])) e2
        rw [List.length_append, List.length_cons, Nat.succ_mul]
        omega
theorem small9 {n : Nat} (h : n ≤ 1000) : n < 128 ^ 9 := Nat.lt_of_le_of_lt h (by decide)
theorem eb1_len {f : D → ER} {P : D → Prop} {L : Nat} (hf : ∀ d, P d → ∀ ys, f d = .ok ys → ys.length ≤ L) {d : D} {xs : List Int} (s : Sz1 P d) (h : eb1 f d = .ok xs) : xs.length ≤ 20 + 4 * L := by
  cases d with
  | none => cases h; simp; omega
  | bool b => cases h; simp; omega
  | int i =>
    cases h
    have := nb_len (zg_lt s)
    rw [List.length_cons]; omega
  | str z =>
    have h : (if _ then _ else _) = (Except.ok xs : ER) := h
    have s : z.cps.toList.length ≤ 10 := s
    split at h
    · cases h
      have := nb_len (small9 (n := z.cps.toList.length) (by omega))
      rw [tb, List.length_cons, List.length_append, List.length_map]; omega
    · cases h
  | tuple ds =>
    have h : ebP 5 ds.length (ebL f ds) = .ok xs := h
    cases e : ebL f ds with
    | error w => rw [e] at h; cases h
    | ok ys =>
      rw [e] at h
      cases h
      have h1 := ebL_len (fun d hd => hf d (s.2 d hd)) e
      have h2 := nb_len (small9 (n := ds.length) (by have := s.1; omega))
      have h3 : ds.length * L ≤ 4 * L := Nat.mul_le_mul_right _ s.1
      rw [List.length_cons, List.length_append]; omega
  | list ds =>
    have h : ebP 6 ds.length (ebL f ds) = .ok xs := h
    cases e : ebL f ds with
    | error w => rw [e] at h; cases h
    | ok ys =>
      rw [e] at h
      cases h
      have h1 := ebL_len (fun d hd => hf d (s.2 d hd)) e
      have h2 := nb_len (small9 (n := ds.length) (by have := s.1; omega))
      have h3 : ds.length * L ≤ 4 * L := Nat.mul_le_mul_right _ s.1
      rw [List.length_cons, List.length_append]; omega
  | dict kvs => cases h
theorem eb_len : ∀ {n : Nat} {d : D} {xs : List Int}, Sz n d → eb n d = .ok xs → xs.length ≤ 20 * 5 ^ n
  | 0, d, xs, s, h => by
    have := eb1_len (L := 0) (fun _ z => z.elim) s h
    simpa using this
  | n + 1, d, xs, s, h => by
    have := eb1_len (L := 20 * 5 ^ n) (fun d z ys e => eb_len z e) s h
    have h1 : 1 ≤ 5 ^ n := Nat.one_le_pow _ _ (by decide)
    rw [Nat.pow_succ]
    omega
def eD : ER → Except Str (List D)
  | .ok xs => .ok (xs.map .int)
  | .error w => .error w
theorem pow5 {n : Nat} (h : n ≤ 6) : 20 * 5 ^ n ≤ 400000 := by
  have := Nat.pow_le_pow_right (show 0 < 5 by decide) h
  have e : 5 ^ 6 = 15625 := by decide
  omega
theorem ext_loop {self : List D → Option (Except Str (List D))} {f : D → ER} {t : SV} {L : Nat} (hL : L ≤ 400000) : ∀ {ds : List D} {acc : List Int} {b : SV}, ds.length ≤ 4 → acc.length + ds.length * L ≤ 4000000 → (∀ d ∈ ds, self [d] = some (eD (f d)) ∧ ∀ ys, f d = .ok ys → ys.length ≤ L) →
    (∀ ys, ebL f ds = .ok ys → ∃ b', loopX (bName 2) (lb_bytes_of_1 self) ds [t, .ow (acc.map .int), b] () = some (.nm .nx, [t, .ow ((acc ++ ys).map .int), b'], ())) ∧
    (∀ w, ebL f ds = .error w → ∃ e, loopX (bName 2) (lb_bytes_of_1 self) ds [t, .ow (acc.map .int), b] () = some (.xw "ShapeError" w, e, ()))
  | [], acc, b, _, _, _ => ⟨fun ys h => by cases h; exact ⟨b, by rw [List.append_nil]; rfl⟩, fun w h => by cases h⟩
  | d :: ds, acc, b, h4, hz, hd => by
    obtain ⟨hs, hy⟩ := hd d (by simp)
    rw [List.length_cons, Nat.succ_mul] at hz
    rw [List.length_cons] at h4
    have hc : (mCallX self (mCons (mVar 2) mNil) : Pd.Env → Unit → Option (Except Str (List D) × Unit)) [t, .ow (acc.map .int), .sh d] () = some (eD (f d), ()) := callx_e (cons_e rfl nil_e) hs
    unfold ebL
    cases e1 : f d with
    | error w =>
      rw [e1] at hc
      exact ⟨fun ys h => (by cases h), fun w' h => by cases h; exact ⟨_, loopx_xw (e1 := [t, .ow (acc.map .int), .sh d]) rfl (extx_er (lx_er hc) rfl)⟩⟩
    | ok ys =>
      rw [e1] at hc
      have hyl := hy ys e1
      have st : lb_bytes_of_1 self [t, .ow (acc.map .int), .sh d] () = some (.nm .nx, [t, .ow ((acc ++ ys).map .int), .sh d], ()) := by
        refine (extx_ok (lx_ok hc) rfl (by rw [List.length_map, List.length_map, line_val]; omega)).trans ?_
        rw [List.map_append]; rfl
      obtain ⟨i1, i2⟩ := ext_loop hL (ds := ds) (acc := acc ++ ys) (b := .sh d) (t := t) (by omega) (by rw [List.length_append]; omega) (fun x hx => hd x (by simp [hx]))
      constructor
      · intro zs h
        cases e2 : ebL f ds with
        | error w => rw [e2] at h; cases h
        | ok us =>
          rw [e2] at h
          cases h
          obtain ⟨b', q⟩ := i1 us e2
          exact ⟨b', by rw [← List.append_assoc]; exact loopx_nx (e1 := [t, .ow (acc.map .int), .sh d]) rfl st q⟩
      · intro w h
        cases e2 : ebL f ds with
        | error w' =>
          rw [e2] at h
          cases h
          obtain ⟨e, q⟩ := i2 _ e2
          exact ⟨e, loopx_nx (e1 := [t, .ow (acc.map .int), .sh d]) rfl st q⟩
        | ok us => rw [e2] at h; cases h
theorem tx_of (s : Str) : s = tx s.cps.toList := by cases s; simp [tx]
theorem bytes_seq {self : List D → Option (Except Str (List D))} {f : D → ER} {L : Nat} {ds : List D} {t : D} {k : Int} (hL : L ≤ 400000) (h4 : ds.length ≤ 4) (hd : ∀ d ∈ ds, self [d] = some (eD (f d)) ∧ ∀ ys, f d = .ok ys → ys.length ≤ L)
    (ht : t = .tuple ds ∧ k = 5 ∨ t = .list ds ∧ k = 6) : runNX "ShapeError" 3 1 (m_bytes_of self) [t] = some (eD (ebP k ds.length (ebL f ds))) := by
  have hn := small9 (n := ds.length) (by omega)
  have hbl := nb_len hn
  have pre : ∀ {q}, mSeqX (mForX (mItQ (mVar 0)) (bName 2) (lb_bytes_of_1 self)) (mNm (mRetOw 1)) [.sh t, .ow ((k :: nb ds.length).map .int), .un] () = q → m_bytes_of self (startE 3 ([t].map .sh)) () = q := fun {q} hq => by
    rcases ht with ⟨rfl, rfl⟩ | ⟨rfl, rfl⟩
    · refine sx_nx (nm_e (if_no (opT_e rfl rfl rfl))) (sx_nx (nm_e (if_no (tru_e (isi_e rfl rfl) rfl))) (sx_nx (nm_e (if_no (tru_e (isi_e rfl rfl) rfl))) (sx_nx (ifx_f (tru_e (isi_e rfl rfl) rfl) (nm_e rfl)) (sx_nx (ifx_f (not_e (b := true) (tru_e (isi2_e rfl rfl) rfl)) (nm_e rfl))
        (sx_nx (nm_e (setF_e (cat_e (L_e (lst_e (cons_e (mif_t (tru_e (isi_e rfl rfl) rfl) rfl) nil_e))) (call_e (cons_e (call_e (cons_e rfl nil_e) len_t) nil_e) (number_bytes_e hn)) ?_))) ?_)))))
      · rw [List.length_map, line_val]; simp; omega
      · exact hq
    · refine sx_nx (nm_e (if_no (opT_e rfl rfl rfl))) (sx_nx (nm_e (if_no (tru_e (isi_e rfl rfl) rfl))) (sx_nx (nm_e (if_no (tru_e (isi_e rfl rfl) rfl))) (sx_nx (ifx_f (tru_e (isi_e rfl rfl) rfl) (nm_e rfl)) (sx_nx (ifx_f (not_e (b := true) (tru_e (isi2_e rfl rfl) rfl)) (nm_e rfl))
        (sx_nx (nm_e (setF_e (cat_e (L_e (lst_e (cons_e (mif_f (tru_e (isi_e rfl rfl) rfl) rfl) nil_e))) (call_e (cons_e (call_e (cons_e rfl nil_e) len_e) nil_e) (number_bytes_e hn)) ?_))) ?_)))))
      · rw [List.length_map, line_val]; simp; omega
      · exact hq
  have it : ∀ {r}, loopX (bName 2) (lb_bytes_of_1 self) ds [.sh t, .ow ((k :: nb ds.length).map .int), .un] () = r → mForX (mItQ (mVar 0)) (bName 2) (lb_bytes_of_1 self) [.sh t, .ow ((k :: nb ds.length).map .int), .un] () = r := fun {r} hr => by
    rcases ht with ⟨rfl, _⟩ | ⟨rfl, _⟩
    · exact forx_e (itQ_t rfl) hr
    · exact forx_e (itQ_l rfl) hr
  have hz : (k :: nb ds.length).length + ds.length * L ≤ 4000000 := by
    have := Nat.mul_le_mul h4 hL
    rw [List.length_cons]; omega
  obtain ⟨i1, i2⟩ := ext_loop (f := f) (self := self) hL (ds := ds) (acc := k :: nb ds.length) (b := .un) (t := .sh t) h4 hz hd
  cases e : ebL f ds with
  | error w =>
    obtain ⟨e', q⟩ := i2 w e
    exact runNX_er (pre (sx_xw (it q)))
  | ok ys =>
    obtain ⟨b', q⟩ := i1 ys e
    refine (runNX_ok (zs := ((k :: nb ds.length) ++ ys).map .int) (pre (sx_nx (it q) (nm_e (retOw_e rfl))))).trans ?_
    rfl
where
  len_t : ∀ {ds : List D}, dLen [.tuple ds] = some (.int ds.length) := rfl
theorem bytes_one {self : List D → Option (Except Str (List D))} {f : D → ER} {P : D → Prop} {L : Nat} {d : D} (hL : L ≤ 400000) (s : Sz1 P d) (hP : ∀ d, P d → self [d] = some (eD (f d)) ∧ ∀ ys, f d = .ok ys → ys.length ≤ L) : runNX "ShapeError" 3 1 (m_bytes_of self) [d] = some (eD (eb1 f d)) := by
  cases d with
  | none => exact runNX_ok (sx_rl (nm_e (if_t (opT_e rfl rfl rfl) (retF_e (lst_e rfl)))))
  | bool b =>
    cases b
    · exact runNX_ok (sx_nx (nm_e (if_no (opT_e rfl rfl rfl))) (sx_rl (nm_e (if_t (tru_e (isi_e rfl rfl) rfl) (retF_e (lst_e (cons_e (mif_f (tru_e rfl rfl) rfl) nil_e)))))))
    · exact runNX_ok (sx_nx (nm_e (if_no (opT_e rfl rfl rfl))) (sx_rl (nm_e (if_t (tru_e (isi_e rfl rfl) rfl) (retF_e (lst_e (cons_e (mif_t (tru_e rfl rfl) rfl) nil_e)))))))
  | int i =>
    have hb := nb_len (zg_lt s)
    exact runNX_ok (zs := (3 :: nb (zg i)).map .int) (sx_nx (nm_e (if_no (opT_e rfl rfl rfl))) (sx_nx (nm_e (if_no (tru_e (isi_e rfl rfl) rfl))) (sx_rl (nm_e (if_t (tru_e (isi_e rfl rfl) rfl) (retF_e (cat_e (L_e (lst_e (xs := [.int 3]) rfl)) (call_e (cons_e rfl nil_e) (signed_bytes_e s)) (by rw [List.length_map, line_val]; simp; omega))))))))
  | str z =>
    have s : z.cps.toList.length ≤ 10 := s
    have hb := nb_len (small9 (n := z.cps.toList.length) (by omega))
    show _ = some (eD (if (z.cps.toList.all fun c => decide (c ∈ sgl)) = true then .ok (4 :: tb z.cps.toList) else .error "text"))
    by_cases h : (z.cps.toList.all fun c => decide (c ∈ sgl)) = true
    · rw [if_pos h]
      have e := text_bytes_ok (cs := z.cps.toList) (fun c hc => of_decide_eq_true (List.all_eq_true.mp h c hc)) (by omega)
      rw [← tx_of] at e
      exact runNX_ok (zs := (4 :: tb z.cps.toList).map .int) (sx_nx (nm_e (if_no (opT_e rfl rfl rfl))) (sx_nx (nm_e (if_no (tru_e (isi_e rfl rfl) rfl))) (sx_nx (nm_e (if_no (tru_e (isi_e rfl rfl) rfl))) (sx_rl (ifx_t (tru_e (isi_e rfl rfl) rfl) (retfx_ok (catx_ok (L_e (lst_e (xs := [.int 4]) rfl)) (lx_ok (callx_e (cons_e rfl nil_e) e)) (by rw [List.length_map, line_val, tb, List.length_append, List.length_map]; show 1 + _ ≤ _; omega))))))))
    · rw [if_neg h]
      rw [Bool.not_eq_true] at h
      have e := text_bytes_er (cs := z.cps.toList) h
      rw [← tx_of] at e
      exact runNX_er (sx_nx (nm_e (if_no (opT_e rfl rfl rfl))) (sx_nx (nm_e (if_no (tru_e (isi_e rfl rfl) rfl))) (sx_nx (nm_e (if_no (tru_e (isi_e rfl rfl) rfl))) (sx_xw (ifx_t (tru_e (isi_e rfl rfl) rfl) (retfx_er (catx_er (L_e (lst_e (xs := [.int 4]) rfl)) (lx_er (callx_e (cons_e rfl nil_e) e)))))))))
  | tuple ds => exact bytes_seq hL s.1 (fun d hd => hP d (s.2 d hd)) (.inl ⟨rfl, rfl⟩)
  | list ds => exact bytes_seq hL s.1 (fun d hd => hP d (s.2 d hd)) (.inr ⟨rfl, rfl⟩)
  | dict kvs =>
    exact runNX_er (sx_nx (nm_e (if_no (opT_e rfl rfl rfl))) (sx_nx (nm_e (if_no (tru_e (isi_e rfl rfl) rfl))) (sx_nx (nm_e (if_no (tru_e (isi_e rfl rfl) rfl))) (sx_nx (ifx_f (tru_e (isi_e rfl rfl) rfl) (nm_e rfl)) (sx_xw (ifx_t (not_e (b := false) (tru_e (isi2_e rfl rfl) rfl)) (raise_e rfl (by decide))))))))
theorem bytes_of_e : ∀ {n : Nat} {d : D}, n ≤ 6 → Sz n d → F_bytes_of (n + 1) [d] = some (eD (eb n d))
  | 0, d, _, s => bytes_one (L := 0) (by decide) s fun _ z => z.elim
  | n + 1, d, h, s => bytes_one (L := 20 * 5 ^ n) (pow5 (by omega)) s fun d z => ⟨bytes_of_e (by omega) z, fun ys e => eb_len z e⟩
end K50

namespace K50
open PySem Pd
/-! reading a thing; the outer none: not told -/
abbrev RT := Option (Option (D × Nat))
def rtL (g : List Int → RT) : Nat → List Int → Option (Option (List D × Nat))
  | 0, _ => some (some ([], 0))
  | k + 1, c => match g c with
    | none => none
    | some none => some none
    | some (some (d, l)) => match rtL g k (c.drop l) with
      | none => none
      | some none => some none
      | some (some (ds, m)) => some (some (d :: ds, l + m))
def rtS (g : List Int → RT) (t : Int) (r : List Int) : RT := match rn r with
  | none => some none
  | some (v, l) => match rtL g v.toNat (r.drop l) with
    | none => none
    | some none => some none
    | some (some (ds, m)) => some (some ((if t = 5 then .tuple ds else .list ds), 1 + l + m))
def rtC (g : List Int → RT) (t : Int) (r : List Int) : RT := if t = 0 then some (some (.none, 1)) else if t = 1 then some (some (.bool false, 1)) else if t = 2 then some (some (.bool true, 1))
    else if t = 3 then some ((rs r).map fun v => (.int v.1, v.2 + 1)) else if t = 4 then some ((rtx r).map fun v => (.str (tx v.1), v.2 + 1))
    else if t = 5 ∨ t = 6 then rtS g t r else some none
def rt1 (g : List Int → RT) : List Int → RT
  | [] => some none
  | t :: r => rtC g t r
def rt : Nat → List Int → RT
  | 0 => rt1 fun _ => none
  | n + 1 => rt1 (rt n)
def Gd (g : List Int → RT) : Prop := ∀ {c d l}, g c = some (some (d, l)) → 1 ≤ l ∧ l ≤ c.length
theorem rtL_len {g : List Int → RT} (hg : Gd g) : ∀ {k : Nat} {c : List Int} {ds : List D} {m : Nat}, rtL g k c = some (some (ds, m)) → m ≤ c.length
  | 0, c, ds, m, h => by cases h; simp
  | k + 1, c, ds, m, h => by
    unfold rtL at h
    split at h
    · cases h
    · cases h
    · rename_i d l e
      split at h
      · cases h
      · cases h
      · rename_i us q e2
        cases h
        have h1 := hg e
        have h2 := rtL_len hg e2
        rw [List.length_drop] at h2
        omega
theorem rtx_len {r : List Int} {v : List Nat × Nat} (h : rtx r = some v) : v.2 ≤ r.length := by
  unfold rtx at h
  split at h
  · cases h
  · rename_i w l e
    have := rnA_ge (Int.le_refl 0) e
    split at h
    · cases h
    · split at h
      · cases h; show l + w.toNat ≤ _; omega
      · cases h
theorem rt1_good {g : List Int → RT} (hg : Gd g) : Gd (rt1 g) := by
  intro c d l h
  cases c with
  | nil => cases h
  | cons t r =>
    have h : rtC g t r = some (some (d, l)) := h
    unfold rtC at h
    rw [List.length_cons]
    split at h
    · cases h; omega
    split at h
    · cases h; omega
    split at h
    · cases h; omega
    split at h
    · cases e : rn r with
      | none => unfold rs at h; rw [e] at h; cases h
      | some v =>
        obtain ⟨v, m⟩ := v
        unfold rs at h; rw [e] at h
        cases h
        have := rnA_ge (Int.le_refl 0) e
        show 1 ≤ m + 1 ∧ m + 1 ≤ r.length + 1
        omega
    split at h
    · cases e : rtx r with
      | none => rw [e] at h; cases h
      | some v =>
        rw [e] at h
        cases h
        have := rtx_len e
        omega
    split at h
    · unfold rtS at h
      split at h
      · cases h
      · rename_i v m e
        have h1 := rnA_ge (Int.le_refl 0) e
        split at h
        · cases h
        · cases h
        · rename_i ds q e2
          cases h
          have := rtL_len hg e2
          rw [List.length_drop] at this
          omega
    · cases h
theorem rt_good : ∀ n, Gd (rt n)
  | 0 => rt1_good fun h => by cases h
  | n + 1 => rt1_good (rt_good n)
def thD (p : Nat) : Option (D × Nat) → D
  | none => .none
  | some (d, l) => .tuple [d, .int ((p + l : Nat) : Int)]
theorem in3 (t : Int) : dInF false (.int t) (.tuple [.int 0, .int 1, .int 2]) = some (.bool (decide (t = 0 ∨ t = 1 ∨ t = 2))) := by
  show some (PyData.bool (PyData.eqv (.int 0) (.int t) || (PyData.eqv (.int 1) (.int t) || (PyData.eqv (.int 2) (.int t) || false)))) = _
  rw [PyData.eqv, PyData.eqv, PyData.eqv]
  congr 2
  by_cases h0 : t = 0 <;> by_cases h1 : t = 1 <;> by_cases h2 : t = 2 <;> simp [h0, h1, h2, Ne.symm] <;> omega
theorem in2 (t : Int) : dInF false (.int t) (.tuple [.int 5, .int 6]) = some (.bool (decide (t = 5 ∨ t = 6))) := by
  show some (PyData.bool (PyData.eqv (.int 5) (.int t) || (PyData.eqv (.int 6) (.int t) || false))) = _
  rw [PyData.eqv, PyData.eqv]
  congr 2
  by_cases h0 : t = 5 <;> by_cases h1 : t = 6 <;> simp [h0, h1, Ne.symm] <;> omega
abbrev envT (c : List Int) (p : Nat) (t : Int) (told : D) (cnt h : Nat) (acc : List D) (b : SV) : Pd.Env := [.sh (iL c), .sh (.int (p : Int)), .sh (.int t), .sh told, .sh (.int (cnt : Int)), .sh (.int (h : Int)), .ow acc, b]
def Sb (b : SV) : Prop := b = .un ∨ ∃ d, b = .sh d
theorem wt_e {self : List D → Option D} {c : List Int} {p : Nat} {t : Int} {told : D} {cnt h : Nat} {acc : List D} {b : SV} (hb : Sb b) : wt_read_thing_1 self (envT c p t told cnt h acc b) () = some (decide (acc.length < cnt), ()) := by
  refine lendT_e (by rcases hb with rfl | ⟨d, rfl⟩ <;> rfl) ?_
  refine opT_e (x := .int (acc.length : Int)) (y := .int (cnt : Int)) (by rcases hb with rfl | ⟨d, rfl⟩ <;> rfl) (by rcases hb with rfl | ⟨d, rfl⟩ <;> rfl) ?_
  show some (PyData.bool (decide ((acc.length : Int) < (cnt : Int)))) = _
  congr 2
  simp
theorem parts_loop {self : List D → Option D} {g : List Int → RT} (hg : Gd g) {c : List Int} {p : Nat} {t : Int} {told : D} {cnt : Nat} (hc : c.length ≤ 100000) (hs : ∀ {q r}, q ≤ c.length → g (c.drop q) = some r → self [iL c, .int (q : Int)] = some (thD q r)) :
    ∀ {k h : Nat} {acc : List D} {b : SV} {r : Option (List D × Nat)}, rtL g k (c.drop h) = some r → acc.length + k = cnt → acc.length ≤ h → h ≤ c.length → Sb b →
    match r with
    | none => ∃ e, whileN (wt_read_thing_1 self) (wb_read_thing_2 self) (k + 1) (envT c p t told cnt h acc b) () = some (.re .none, e, ())
    | some (ds, m) => h + m ≤ c.length ∧ ∃ b', Sb b' ∧ whileN (wt_read_thing_1 self) (wb_read_thing_2 self) (k + 1) (envT c p t told cnt h acc b) () = some (.nx, envT c p t told cnt (h + m) (acc ++ ds) b', ())
  | 0, h, acc, b, r, e, hk, ha, hh, hb => by
    cases e
    refine ⟨hh, b, hb, ?_⟩
    rw [List.append_nil]
    exact wn_f ((wt_e hb).trans (by rw [decide_eq_false (by omega)]))
  | k + 1, h, acc, b, r, e, hk, ha, hh, hb => by
    have w1 : wt_read_thing_1 self (envT c p t told cnt h acc b) () = some (true, ()) := (wt_e hb).trans (by rw [decide_eq_true (by omega)])
    unfold rtL at e
    split at e
    · cases e
    · rename_i eg
      cases e
      exact ⟨_, wn_re w1 (seq_nx (set_e (call_e (cons_e rfl (cons_e rfl nil_e)) (hs hh eg))) (seq_re (if_t (opT_e rfl rfl rfl) rfl)))⟩
    · rename_i d l eg
      have hl := hg eg
      rw [List.length_drop] at hl
      have wb : wb_read_thing_2 self (envT c p t told cnt h acc b) () = some (.nx, envT c p t told cnt (h + l) (acc ++ [d]) (.sh (.tuple [d, .int ((h + l : Nat) : Int)])), ()) := by
        refine seq_nx (set_e (call_e (cons_e rfl (cons_e rfl nil_e)) (hs hh eg))) (seq_nx (if_no (opT_e rfl rfl rfl)) (seq_nx (app_e (d := d) (op_e rfl rfl rfl) rfl (by rw [line_val]; omega)) ?_))
        exact set_e (op_e rfl rfl rfl)
      rw [List.drop_drop] at e
      split at e
      · cases e
      · rename_i e2
        cases e
        obtain ⟨e', q⟩ := parts_loop (p := p) (t := t) (told := told) (cnt := cnt) hg hc hs (k := k) (h := h + l) (acc := acc ++ [d]) (b := .sh (.tuple [d, .int ((h + l : Nat) : Int)])) e2 (by rw [List.length_append, List.length_singleton]; omega) (by rw [List.length_append, List.length_singleton]; omega) (by omega) (.inr ⟨_, rfl⟩)
        exact ⟨e', wn_t w1 wb q⟩
      · rename_i ds m e2
        cases e
        obtain ⟨q0, b', q1, q⟩ := parts_loop (p := p) (t := t) (told := told) (cnt := cnt) hg hc hs (k := k) (h := h + l) (acc := acc ++ [d]) (b := .sh (.tuple [d, .int ((h + l : Nat) : Int)])) e2 (by rw [List.length_append, List.length_singleton]; omega) (by rw [List.length_append, List.length_singleton]; omega) (by omega) (.inr ⟨_, rfl⟩)
        refine ⟨by omega, b', q1, ?_⟩
        refine wn_t w1 wb (q.trans ?_)
        rw [List.append_assoc, Nat.add_assoc]
        rfl
theorem read_one {self : List D → Option D} {g : List Int → RT} (hg : Gd g) {c : List Int} {p : Nat} {r : Option (D × Nat)} (hc : c.length ≤ 100000) (h0 : ∀ b ∈ c, 0 ≤ b) (hp : p ≤ c.length) (hs : ∀ {q r}, q ≤ c.length → g (c.drop q) = some r → self [iL c, .int (q : Int)] = some (thD q r))
    (h : rt1 g (c.drop p) = some r) : runP 8 2 (m_read_thing self) [iL c, .int (p : Int)] = some (thD p r) := by
  by_cases hlt : p < c.length
  · have hd : c.drop p = c[p] :: c.drop (p + 1) := List.drop_eq_getElem_cons hlt
    have hget : c[p]? = some c[p] := List.getElem?_eq_getElem hlt
    rw [hd] at h
    generalize ht : c[p] = t at h hd hget
    have h : rtC g t (c.drop (p + 1)) = some r := h
    unfold rtC at h
    have pre : ∀ {q}, ∀ {m : MS Unit}, m [.sh (iL c), .sh (.int (p : Int)), .sh (.int t), .un, .un, .un, .un, .un] () = q → (mSeq (mIfS (mOpT dGeI (mVar 1) (mCall dLen (mCons (mVar 0) mNil))) (mRet (mC .none)) mSkip) (mSeq (mSet 2 (mOp dIx (mVar 0) (mVar 1))) m) : MS Unit) (startE 8 ([iL c, .int (p : Int)].map .sh)) () = q :=
      fun hm => seq_nx (if_no (opT_e rfl (call_e (cons_e rfl nil_e) iL_len) (ge_f (by omega)))) (seq_nx (set_e (op_e rfl rfl (iL_get hget))) hm)
    have i3 : (mOpT (dInF false) (mVar 2) (mTup (mCons (mC (.int 0)) (mCons (mC (.int 1)) (mCons (mC (.int 2)) mNil)))) : MT Unit) [.sh (iL c), .sh (.int (p : Int)), .sh (.int t), .un, .un, .un, .un, .un] () = some (decide (t = 0 ∨ t = 1 ∨ t = 2), ()) := opT_e rfl (tup_e rfl) (in3 t)
    have p1 : ((p : Int) + 1) = ((p + 1 : Nat) : Int) := rfl
    have dk : ∀ {d : D}, atK [0, 1, 2] [.none, .bool false, .bool true] t = some d → runP 8 2 (m_read_thing self) [iL c, .int (p : Int)] = some (.tuple [d, .int ((p + 1 : Nat) : Int)]) ∨ ¬ (t = 0 ∨ t = 1 ∨ t = 2) := fun {d} hk => by
      by_cases z : t = 0 ∨ t = 1 ∨ t = 2
      · rw [decide_eq_true z] at i3
        exact .inl (runP_re (pre (seq_re (if_t i3 (ret_e (tup_e (cons_e (dictIx_e rfl rfl rfl hk) (cons_e (op_e rfl rfl rfl) nil_e))))))))
      · exact .inr z
    by_cases z0 : t = 0
    · subst z0
      rw [if_pos rfl] at h
      cases h
      exact (dk (d := .none) rfl).resolve_right (by simp)
    rw [if_neg z0] at h
    by_cases z1 : t = 1
    · subst z1
      rw [if_pos rfl] at h
      cases h
      exact (dk (d := .bool false) rfl).resolve_right (by simp)
    rw [if_neg z1] at h
    by_cases z2 : t = 2
    · subst z2
      rw [if_pos rfl] at h
      cases h
      exact (dk (d := .bool true) rfl).resolve_right (by simp)
    rw [if_neg z2] at h
    rw [decide_eq_false (by simp [z0, z1, z2])] at i3
    by_cases z3 : t = 3
    · rw [if_pos z3] at h
      cases h
      have e := read_signed_e (c := c) (p + 1) hc
      refine (runP_re (pre (seq_nx (if_no i3) (seq_re (if_t (opT_e rfl rfl (eq_it z3)) (ret_e (call_e (cons_e rfl (cons_e (op_e rfl rfl rfl) nil_e)) e))))))).trans ?_
      cases rs (c.drop (p + 1)) with
      | none => rfl
      | some v => show some (PyData.tuple [.int v.1, .int ((p + 1 + v.2 : Nat) : Int)]) = some (.tuple [.int v.1, .int ((p + (v.2 + 1) : Nat) : Int)]); rw [show p + 1 + v.2 = p + (v.2 + 1) by omega]
    rw [if_neg z3] at h
    by_cases z4 : t = 4
    · rw [if_pos z4] at h
      cases h
      have e := read_text_e (c := c) (p + 1) hc (by omega) h0
      refine (runP_re (pre (seq_nx (if_no i3) (seq_nx (if_no (opT_e rfl rfl (eq_if z3))) (seq_re (if_t (opT_e rfl rfl (eq_it z4)) (ret_e (call_e (cons_e rfl (cons_e (op_e rfl rfl rfl) nil_e)) e)))))))).trans ?_
      cases rtx (c.drop (p + 1)) with
      | none => rfl
      | some v => show some (PyData.tuple [.str (tx v.1), .int ((p + 1 + v.2 : Nat) : Int)]) = some (.tuple [.str (tx v.1), .int ((p + (v.2 + 1) : Nat) : Int)]); rw [show p + 1 + v.2 = p + (v.2 + 1) by omega]
    rw [if_neg z4] at h
    have i2 : (mOpT (dInF false) (mVar 2) (mTup (mCons (mC (.int 5)) (mCons (mC (.int 6)) mNil))) : MT Unit) [.sh (iL c), .sh (.int (p : Int)), .sh (.int t), .un, .un, .un, .un, .un] () = some (decide (t = 5 ∨ t = 6), ()) := opT_e rfl (tup_e rfl) (in2 t)
    have pre2 : ∀ {q}, ∀ {m : MS Unit}, m [.sh (iL c), .sh (.int (p : Int)), .sh (.int t), .un, .un, .un, .un, .un] () = q → (mSeq (mIfS (mOpT dGeI (mVar 1) (mCall dLen (mCons (mVar 0) mNil))) (mRet (mC .none)) mSkip) (mSeq (mSet 2 (mOp dIx (mVar 0) (mVar 1)))
      (mSeq (mIfS (mOpT (dInF false) (mVar 2) (mTup (mCons (mC (.int 0)) (mCons (mC (.int 1)) (mCons (mC (.int 2)) mNil))))) (mRet (mTup (mCons (mDictIx [0, 1, 2] (mCons (mC .none) (mCons (mC (.bool false)) (mCons (mC (.bool true)) mNil))) (mVar 2)) (mCons (mOp dAdd (mVar 1) (mC (.int 1))) mNil)))) mSkip)
      (mSeq (mIfS (mOpT dEq (mVar 2) (mC (.int 3))) (mRet (mCall F_read_signed (mCons (mVar 0) (mCons (mOp dAdd (mVar 1) (mC (.int 1))) mNil)))) mSkip)
      (mSeq (mIfS (mOpT dEq (mVar 2) (mC (.int 4))) (mRet (mCall F_read_text (mCons (mVar 0) (mCons (mOp dAdd (mVar 1) (mC (.int 1))) mNil)))) mSkip) m)))) : MS Unit) (startE 8 ([iL c, .int (p : Int)].map .sh)) () = q :=
      fun hm => pre (seq_nx (if_no i3) (seq_nx (if_no (opT_e rfl rfl (eq_if z3))) (seq_nx (if_no (opT_e rfl rfl (eq_if z4))) hm)))
    by_cases z5 : t = 5 ∨ t = 6
    · rw [if_pos z5] at h
      rw [decide_eq_true z5] at i2
      unfold rtS at h
      have e := read_number_e (c := c) (p + 1) hc
      cases en : rn (c.drop (p + 1)) with
      | none =>
        rw [en] at h e
        cases h
        exact runP_re (pre2 (seq_nx (set_e (mif_t i2 (call_e (cons_e rfl (cons_e (op_e rfl rfl rfl) nil_e)) e))) (seq_re (if_t (opT_e rfl rfl rfl) rfl))))
      | some vl =>
        obtain ⟨v, l⟩ := vl
        rw [en] at h e
        obtain ⟨hv, hl1, hl2⟩ := rnA_ge (Int.le_refl 0) en
        rw [List.length_drop] at hl2
        have ev : v = (v.toNat : Int) := (Int.toNat_of_nonneg hv).symm
        have h : (match rtL g v.toNat ((c.drop (p + 1)).drop l) with
          | none => none
          | some none => some none
          | some (some (ds, m)) => some (some ((if t = 5 then PyData.tuple ds else PyData.list ds), 1 + l + m))) = some r := h
        rw [List.drop_drop] at h
        cases er : rtL g v.toNat (c.drop (p + 1 + l)) with
        | none => rw [er] at h; cases h
        | some o =>
          rw [er] at h
          have lp := parts_loop hg (p := p) (t := t) (told := .tuple [.int v, .int ((p + 1 + l : Nat) : Int)]) (cnt := v.toNat) hc hs (k := v.toNat) (h := p + 1 + l) (acc := []) (b := .un) er (by simp) (by simp) (by omega) (.inl rfl)
          have st : ∀ {q}, (mSeq (mWhile (wt_read_thing_1 self) (wb_read_thing_2 self)) (mFrz 6 (mRet (mTup (mCons (mIf (mOpT dEq (mVar 2) (mC (.int 5))) (mCall dTupleOf (mCons (mVar 6) mNil)) (mVar 6)) (mCons (mVar 5) mNil))))) : MS Unit) (envT c p t (.tuple [.int v, .int ((p + 1 + l : Nat) : Int)]) v.toNat (p + 1 + l) [] .un) () = q → m_read_thing self (startE 8 ([iL c, .int (p : Int)].map .sh)) () = q := fun {q} hq => by
            refine pre2 (seq_nx (set_e (mif_t i2 (call_e (cons_e rfl (cons_e (op_e rfl rfl rfl) nil_e)) e))) (seq_nx (if_no (opT_e rfl rfl rfl)) (seq_nx (asg_e (e1 := [.sh (iL c), .sh (.int (p : Int)), .sh (.int t), .sh (.tuple [.int v, .int ((p + 1 + l : Nat) : Int)]), .sh (.int (v.toNat : Int)), .sh (.int ((p + 1 + l : Nat) : Int)), .un, .un]) rfl (tup2_e rfl ?_)) (seq_nx (setF_e (lst_e rfl)) hq))))
            rw [← ev]; rfl
          cases o with
          | none =>
            cases h
            obtain ⟨e', q⟩ := lp
            exact runP_re (st (seq_re (while_e (v.toNat + 1) q)))
          | some dm =>
            obtain ⟨ds, m⟩ := dm
            cases h
            obtain ⟨q0, b', q1, q⟩ := lp
            have q : whileN (wt_read_thing_1 self) (wb_read_thing_2 self) (v.toNat + 1) (envT c p t (.tuple [.int v, .int ((p + 1 + l : Nat) : Int)]) v.toNat (p + 1 + l) [] .un) () = some (.nx, envT c p t (.tuple [.int v, .int ((p + 1 + l : Nat) : Int)]) v.toNat (p + 1 + l + m) ds b', ()) := q
            refine (runP_re (st (seq_nx (while_e (v.toNat + 1) q) (frz_e (ret_e (tup_e (cons_e (g1 := ()) (x := if t = 5 then .tuple ds else .list ds) ?_ (cons_e rfl nil_e)))))))).trans ?_
            · by_cases y : t = 5
              · rw [if_pos y]; exact mif_t (opT_e rfl rfl (eq_it y)) (call_e (cons_e rfl nil_e) rfl)
              · rw [if_neg y]; exact mif_f (opT_e rfl rfl (eq_if y)) rfl
            · show some (PyData.tuple [_, .int ((p + 1 + l + m : Nat) : Int)]) = some (.tuple [_, .int ((p + (1 + l + m) : Nat) : Int)])
              rw [show p + 1 + l + m = p + (1 + l + m) by omega]
    · rw [if_neg z5] at h
      cases h
      rw [decide_eq_false z5] at i2
      exact runP_re (pre2 (seq_nx (set_e (mif_f i2 rfl)) (seq_re (if_t (opT_e rfl rfl rfl) rfl))))
  · rw [List.drop_eq_nil_of_le (by omega)] at h
    cases h
    exact runP_re (seq_re (if_t (opT_e rfl (call_e (cons_e rfl nil_e) iL_len) (ge_t (by omega))) rfl))
theorem read_thing_e : ∀ {n : Nat} {c : List Int} {p : Nat} {r : Option (D × Nat)}, c.length ≤ 100000 → (∀ b ∈ c, 0 ≤ b) → p ≤ c.length → rt n (c.drop p) = some r → F_read_thing (n + 1) [iL c, .int (p : Int)] = some (thD p r)
  | 0, c, p, r, hc, h0, hp, h => read_one (g := fun _ => none) (fun h => by cases h) hc h0 hp (fun _ h => by cases h) h
  | n + 1, c, p, r, hc, h0, hp, h => read_one (rt_good n) hc h0 hp (fun hq hr => read_thing_e hc h0 hq hr) h
end K50

namespace K50
open PySem Pd
/-! things come back from their bytes; cut they are none -/
def Good1 (P : D → Prop) : D → Prop
  | .int i => i.natAbs < 2 ^ 50
  | .str s => s.cps.toList.length ≤ 10 ∧ ∀ c ∈ s.cps.toList, c ∈ dset
  | .tuple ds => ds.length ≤ 4 ∧ ∀ d ∈ ds, P d
  | .list ds => ds.length ≤ 4 ∧ ∀ d ∈ ds, P d
  | .dict _ => False
  | _ => True
def Good : Nat → D → Prop
  | 0 => Good1 fun _ => False
  | n + 1 => Good1 (Good n)
theorem good1_sz {P Q : D → Prop} (h : ∀ d, P d → Q d) {d : D} (g : Good1 P d) : Sz1 Q d := by
  cases d with
  | none => trivial
  | bool b => trivial
  | int i => exact g
  | str s => exact g.1
  | tuple ds => exact ⟨g.1, fun d hd => h d (g.2 d hd)⟩
  | list ds => exact ⟨g.1, fun d hd => h d (g.2 d hd)⟩
  | dict kvs => exact g.elim
theorem good_sz : ∀ {n : Nat} {d : D}, Good n d → Sz n d
  | 0, d, g => good1_sz (fun _ z => z) g
  | n + 1, d, g => good1_sz (fun _ z => good_sz z) g
structure Back (f : D → ER) (g : List Int → RT) (d : D) (xs : List Int) : Prop where
  e : f d = .ok xs
  b : ∀ x ∈ xs, 0 ≤ x ∧ x < 256
  l : 1 ≤ xs.length
  r : ∀ r, g (xs ++ r) = some (some (d, xs.length))
  c : ∀ k, k < xs.length → g (xs.take k) = some none
structure BackL (f : D → ER) (g : List Int → RT) (ds : List D) (xs : List Int) : Prop where
  e : ebL f ds = .ok xs
  b : ∀ x ∈ xs, 0 ≤ x ∧ x < 256
  r : ∀ r, rtL g ds.length (xs ++ r) = some (some (ds, xs.length))
  c : ∀ k, k < xs.length → rtL g ds.length (xs.take k) = some none
theorem backL {f : D → ER} {g : List Int → RT} : ∀ {ds : List D}, (∀ d ∈ ds, ∃ xs, Back f g d xs) → ∃ xs, BackL f g ds xs
  | [], _ => ⟨[], rfl, fun _ h => (nomatch h), fun _ => rfl, fun k h => absurd h (Nat.not_lt_zero k)⟩
  | d :: ds, h => by
    obtain ⟨xs, B⟩ := h d (by simp)
    obtain ⟨ys, C⟩ := backL (f := f) (g := g) (ds := ds) fun x hx => h x (List.mem_cons_of_mem _ hx)
    refine ⟨xs ++ ys, ?_, fun x hx => ?_, fun r => ?_, fun k hk => ?_⟩
    · unfold ebL
      rw [B.e, C.e]
    · rcases List.mem_append.mp hx with hx | hx
      · exact B.b x hx
      · exact C.b x hx
    · rw [List.length_cons]
      unfold rtL
      rw [List.append_assoc, B.r]
      dsimp only
      rw [List.drop_left, C.r]
      dsimp only
      rw [List.length_append]
    · rw [List.length_cons]
      unfold rtL
      by_cases hx : k < xs.length
      · rw [List.take_append_of_le_length (by omega), B.c k hx]
      · rw [List.length_append] at hk
        have e : (xs ++ ys).take k = xs ++ ys.take (k - xs.length) := by rw [List.take_append, List.take_of_length_le (by omega)]
        rw [e, B.r]
        dsimp only
        rw [List.drop_left, C.c _ (by omega)]
theorem rs_nb (i : Int) (r : List Int) : rs (nb (zg i) ++ r) = some (i, (nb (zg i)).length) := by
  unfold rs
  rw [rn_nb]
  show some (uz (zg i), _) = _
  rw [uz_zg]
theorem tb_row {cs : List Nat} (h : ∀ c ∈ cs, c ∈ sgl) : ((cs.map fun c => (six c : Int)).map fun b => sgl.getD b.toNat 0) = cs := by
  rw [List.map_map]
  refine (List.map_congr_left fun c hc => ?_).trans (List.map_id cs)
  show sgl.getD (six c : Int).toNat 0 = id c
  rw [Int.toNat_natCast, List.getD_eq_getElem?_getD, six_get (h c hc)]
  rfl
theorem rtx_tb {cs : List Nat} (h : ∀ c ∈ cs, c ∈ sgl) (r : List Int) : rtx (tb cs ++ r) = some (cs, (tb cs).length) := by
  unfold rtx tb
  rw [List.append_assoc, rn_nb]
  dsimp only
  rw [Int.toNat_natCast, List.drop_left, if_neg (by simp), List.take_left' (by simp), if_pos, tb_row h]
  · rw [List.length_append, List.length_map]
  · rw [List.all_eq_true]
    intro b hb
    obtain ⟨c, hc, rfl⟩ := List.mem_map.mp hb
    have := six_lt (h c hc)
    exact decide_eq_true (by omega)
theorem rtx_cut {cs : List Nat} {k : Nat} (hk : k < (tb cs).length) : rtx ((tb cs).take k) = none := by
  unfold tb at hk ⊢
  rw [List.length_append, List.length_map] at hk
  unfold rtx
  by_cases h : k < (nb cs.length).length
  · rw [List.take_append_of_le_length (by omega), rn_cut h]
  · have e : (nb cs.length ++ cs.map fun c => (six c : Int)).take k = nb cs.length ++ (cs.map fun c => (six c : Int)).take (k - (nb cs.length).length) := by rw [List.take_append, List.take_of_length_le (by omega)]
    rw [e, rn_nb]
    dsimp only
    rw [if_pos]
    rw [List.length_append, List.length_take, List.length_map, Int.toNat_natCast]
    omega
theorem back_seq {f : D → ER} {g : List Int → RT} {ds : List D} {xs : List Int} {t : Int} {d : D} (B : BackL f g ds xs) (ht : t = 5 ∧ d = .tuple ds ∨ t = 6 ∧ d = .list ds) (he : eb1 f d = ebP t ds.length (ebL f ds)) : Back (eb1 f) (rt1 g) d (t :: (nb ds.length ++ xs)) := by
  have hC : ∀ c, rt1 g (t :: c) = rtS g t c := fun c => by
    show rtC g t c = _
    unfold rtC
    rcases ht with ⟨rfl, _⟩ | ⟨rfl, _⟩
    · rw [if_neg (by decide), if_neg (by decide), if_neg (by decide), if_neg (by decide), if_neg (by decide), if_pos (by decide)]
    · rw [if_neg (by decide), if_neg (by decide), if_neg (by decide), if_neg (by decide), if_neg (by decide), if_pos (by decide)]
  have hd : (if t = 5 then PyData.tuple ds else PyData.list ds) = d := by
    rcases ht with ⟨rfl, rfl⟩ | ⟨rfl, rfl⟩ <;> rfl
  refine ⟨?_, fun x hx => ?_, by simp, fun r => ?_, fun k hk => ?_⟩
  · rw [he, B.e]; rfl
  · rcases List.mem_cons.mp hx with rfl | hx
    · rcases ht with ⟨rfl, _⟩ | ⟨rfl, _⟩ <;> decide
    · rcases List.mem_append.mp hx with hx | hx
      · exact nb_byte hx
      · exact B.b x hx
  · rw [List.cons_append, hC]
    unfold rtS
    rw [List.append_assoc, rn_nb]
    dsimp only
    rw [Int.toNat_natCast, List.drop_left, B.r]
    dsimp only
    rw [hd, List.length_cons, List.length_append]
    congr 3
    omega
  · cases k with
    | zero => rfl
    | succ j =>
      rw [List.length_cons, List.length_append] at hk
      rw [List.take_succ_cons, hC]
      unfold rtS
      by_cases h : j < (nb ds.length).length
      · rw [List.take_append_of_le_length (by omega), rn_cut h]
      · have e : (nb ds.length ++ xs).take j = nb ds.length ++ xs.take (j - (nb ds.length).length) := by rw [List.take_append, List.take_of_length_le (by omega)]
        rw [e, rn_nb]
        dsimp only
        rw [Int.toNat_natCast, List.drop_left, B.c _ (by omega)]
theorem one_cut {g : List Int → RT} {x : Int} {k : Nat} (hk : k < [x].length) : rt1 g ([x].take k) = some none := by
  obtain rfl : k = 0 := by
    rw [List.length_singleton] at hk
    omega
  rfl
theorem back_one {f : D → ER} {g : List Int → RT} {P : D → Prop} {d : D} (h : ∀ d, P d → ∃ xs, Back f g d xs) (s : Good1 P d) : ∃ xs, Back (eb1 f) (rt1 g) d xs := by
  cases d with
  | none => exact ⟨[0], rfl, by decide, by decide, fun r => rfl, fun k hk => one_cut hk⟩
  | bool b =>
    cases b
    · exact ⟨[1], rfl, by decide, by decide, fun r => rfl, fun k hk => one_cut hk⟩
    · exact ⟨[2], rfl, by decide, by decide, fun r => rfl, fun k hk => one_cut hk⟩
  | int i =>
    have hC : ∀ c, rt1 g (3 :: c) = some ((rs c).map fun v => (.int v.1, v.2 + 1)) := fun c => rfl
    refine ⟨3 :: nb (zg i), rfl, fun x hx => ?_, by simp, fun r => ?_, fun k hk => ?_⟩
    · rcases List.mem_cons.mp hx with rfl | hx
      · decide
      · exact nb_byte hx
    · rw [List.cons_append, hC, rs_nb]; rfl
    · cases k with
      | zero => rfl
      | succ j =>
        rw [List.length_cons] at hk
        rw [List.take_succ_cons, hC, rs, rn_cut (by omega)]
        rfl
  | str z =>
    have hz : ∀ c ∈ z.cps.toList, c ∈ sgl := fun c hc => dset_sgl (s.2 c hc)
    have hC : ∀ c, rt1 g (4 :: c) = some ((rtx c).map fun v => (.str (tx v.1), v.2 + 1)) := fun c => rfl
    refine ⟨4 :: tb z.cps.toList, ?_, fun x hx => ?_, by simp, fun r => ?_, fun k hk => ?_⟩
    · exact if_pos (List.all_eq_true.mpr fun c hc => decide_eq_true (hz c hc))
    · rcases List.mem_cons.mp hx with rfl | hx
      · decide
      · unfold tb at hx
        rcases List.mem_append.mp hx with hx | hx
        · exact nb_byte hx
        · obtain ⟨c, hc, rfl⟩ := List.mem_map.mp hx
          have := six_lt (hz c hc)
          omega
    · rw [List.cons_append, hC, rtx_tb hz]
      show some (some (PyData.str (tx z.cps.toList), _)) = _
      rw [← tx_of]
      rfl
    · cases k with
      | zero => rfl
      | succ j =>
        rw [List.length_cons] at hk
        rw [List.take_succ_cons, hC, rtx_cut (by omega)]
        rfl
  | tuple ds =>
    obtain ⟨xs, B⟩ := backL (f := f) (g := g) fun d hd => h d (s.2 d hd)
    exact ⟨_, back_seq B (.inl ⟨rfl, rfl⟩) rfl⟩
  | list ds =>
    obtain ⟨xs, B⟩ := backL (f := f) (g := g) fun d hd => h d (s.2 d hd)
    exact ⟨_, back_seq B (.inr ⟨rfl, rfl⟩) rfl⟩
  | dict kvs => exact s.elim
theorem back : ∀ {n : Nat} {d : D}, Good n d → ∃ xs, Back (eb n) (rt n) d xs
  | 0, d, s => back_one (fun _ z => z.elim) s
  | n + 1, d, s => back_one (fun _ z => back z) s
/-- no thing's bytes begin another one's -/
theorem pre_one {f : D → ER} {g : List Int → RT} {d e : D} {xs ys r : List Int} (B : Back f g d xs) (C : Back f g e ys) (h : xs = ys ++ r) : d = e := by
  have h1 := B.r []
  rw [List.append_nil] at h1
  have h2 := C.r r
  rw [← h, h1] at h2
  exact (Prod.mk.inj (Option.some.inj (Option.some.inj h2))).1
end K50

namespace K50
open PySem Pd
/-! whole, of, refused, none -/
theorem len_t {ds : List D} : dLen [.tuple ds] = some (.int ds.length) := rfl
theorem whole_e {c : List Int} {r : Option (D × Nat)} (hc : c.length ≤ 100000) (h0 : ∀ b ∈ c, 0 ≤ b) (h : rt 4 c = some r) : F_whole_thing [iL c] = some (match r with
    | none => .none
    | some (d, l) => if l = c.length then .tuple [d] else .none) := by
  have e := read_thing_e (n := 4) (p := 0) (r := r) hc h0 (Nat.zero_le _) h
  cases r with
  | none => exact runP_re (N := 2) (n := 1) (m := m_whole_thing) (ds := [iL c]) (u := ()) (seq_nx (set_e (call_e (cons_e rfl (cons_e rfl nil_e)) e)) (ret_e (mif_f (and_f (opT_e rfl rfl rfl)) rfl)))
  | some dl =>
    obtain ⟨d, l⟩ := dl
    show _ = some (if l = c.length then PyData.tuple [d] else .none)
    by_cases hl : l = c.length
    · rw [if_pos hl]
      exact runP_re (N := 2) (n := 1) (m := m_whole_thing) (ds := [iL c]) (u := ()) (seq_nx (set_e (call_e (cons_e rfl (cons_e rfl nil_e)) e)) (ret_e (mif_t (and_t (opT_e rfl rfl rfl) (opT_e (op_e rfl rfl rfl) (call_e (cons_e rfl nil_e) iL_len) (eq_it (by rw [hl]; simp)))) (tup_e (cons_e (op_e rfl rfl rfl) nil_e)))))
    · rw [if_neg hl]
      exact runP_re (N := 2) (n := 1) (m := m_whole_thing) (ds := [iL c]) (u := ()) (seq_nx (set_e (call_e (cons_e rfl (cons_e rfl nil_e)) e)) (ret_e (mif_f (and_t (opT_e rfl rfl rfl) (opT_e (op_e rfl rfl rfl) (call_e (cons_e rfl nil_e) iL_len) (eq_if (by omega)))) rfl)))
theorem of_ok {c : List Int} {d : D} {l : Nat} (hc : c.length ≤ 100000) (h0 : ∀ b ∈ c, 0 ≤ b) (h : rt 4 c = some (some (d, l))) : F_thing_of [iL c] = some (.ok d) := by
  have e := read_thing_e (n := 4) (p := 0) hc h0 (Nat.zero_le _) h
  exact runPX_ok (N := 2) (n := 1) (m := m_thing_of) (ds := [iL c]) (u := ()) (sx_nx (nm_e (set_e (call_e (cons_e rfl (cons_e rfl nil_e)) e))) (sx_nx (ifx_f (opT_e rfl rfl rfl) (nm_e rfl)) (nm_e (ret_e (op_e rfl rfl rfl)))))
theorem of_er {c : List Int} (hc : c.length ≤ 100000) (h0 : ∀ b ∈ c, 0 ≤ b) (h : rt 4 c = some none) : F_thing_of [iL c] = some (.error "bytes") := by
  have e := read_thing_e (n := 4) (p := 0) hc h0 (Nat.zero_le _) h
  exact runPX_er (N := 2) (n := 1) (m := m_thing_of) (ds := [iL c]) (u := ()) (sx_nx (nm_e (set_e (call_e (cons_e rfl (cons_e rfl nil_e)) e))) (sx_xw (ifx_t (opT_e rfl rfl rfl) (raise_e rfl (by decide)))))
theorem none_e {c : List Int} (hc : c.length ≤ 100000) (h0 : ∀ b ∈ c, 0 ≤ b) (h : rt 4 c = some none) : F__law_none [iL c] = some (.str "bytes") :=
  runP_re (N := 2) (n := 1) (m := m__law_none) (ds := [iL c]) (u := ()) (seq_re (tryw_xw (dropx_er (callx_e (cons_e rfl nil_e) (of_er hc h0 h))) (by show 1 < 2; decide)))
theorem refused_no {d : D} {xs : List Int} (s : Sz 4 d) (h : eb 4 d = .ok xs) : F__law_refused [d] = some .none := by
  have e := bytes_of_e (n := 4) (by decide) s
  rw [h] at e
  exact runP_re (N := 2) (n := 1) (m := m__law_refused) (ds := [d]) (u := ()) (seq_nx (tryw_nm (dropx_ok (lx_ok (callx_e (cons_e rfl nil_e) e)))) (ret_e rfl))
theorem refused_e {d : D} {w : Str} (s : Sz 4 d) (h : eb 4 d = .error w) : F__law_refused [d] = some (.str w) := by
  have e := bytes_of_e (n := 4) (by decide) s
  rw [h] at e
  exact runP_re (N := 2) (n := 1) (m := m__law_refused) (ds := [d]) (u := ()) (seq_re (tryw_xw (dropx_er (lx_er (callx_e (cons_e rfl nil_e) e))) (by show 1 < 2; decide)))
theorem bytes_ok {d : D} {xs : List Int} (s : Sz 4 d) (h : eb 4 d = .ok xs) : okF (F_bytes_of 5) [d] = some (xs.map .int) := by
  have e := bytes_of_e (n := 4) (by decide) s
  rw [h] at e
  exact okF_e e
/-! the law's own bytes -/
theorem law_loop {self : List D → Option D} {f : D → ER} {t : SV} {L : Nat} (hL : L ≤ 400000) : ∀ {ds : List D} {acc ys : List Int} {b : SV}, ebL f ds = .ok ys → ds.length ≤ 4 → acc.length + ds.length * L ≤ 4000000 → (∀ d ∈ ds, ∀ ys, f d = .ok ys → self [d] = some (iL ys) ∧ ys.length ≤ L) →
    ∃ b', loopL (bName 3) (lb__law_bytes_1 self) ds [t, .un, .sh (iL acc), b] () = some (.nx, [t, .un, .sh (iL (acc ++ ys)), b'], ())
  | [], acc, ys, b, h, _, _, _ => by cases h; exact ⟨b, by rw [List.append_nil]; rfl⟩
  | d :: ds, acc, ys, b, h, h4, hz, hd => by
    rw [List.length_cons, Nat.succ_mul] at hz
    rw [List.length_cons] at h4
    unfold ebL at h
    cases e1 : f d with
    | error w => rw [e1] at h; cases h
    | ok xs =>
      rw [e1] at h
      cases e2 : ebL f ds with
      | error w => rw [e2] at h; cases h
      | ok zs =>
        rw [e2] at h
        cases h
        obtain ⟨hs, hl⟩ := hd d (by simp) xs e1
        have st : lb__law_bytes_1 self [t, .un, .sh (iL acc), .sh d] () = some (.nx, [t, .un, .sh (iL (acc ++ xs)), .sh d], ()) := by
          refine (set_e (d := iL (acc ++ xs)) (op_e rfl (call_e (cons_e rfl nil_e) hs) ?_)).trans rfl
          refine (if_pos ?_).trans ?_
          · rw [List.length_map, List.length_map, line_val]; omega
          · rw [← List.map_append]
        obtain ⟨b', q⟩ := law_loop hL (t := t) (acc := acc ++ xs) (b := .sh d) e2 (by omega) (by rw [List.length_append]; omega) (fun x hx => hd x (List.mem_cons_of_mem _ hx))
        exact ⟨b', by rw [← List.append_assoc]; exact loop_nx (e1 := [t, .un, .sh (iL acc), .sh d]) rfl st q⟩
theorem law_seq {self : List D → Option D} {f : D → ER} {L : Nat} {ds : List D} {t : D} {k : Int} {ys : List Int} (hL : L ≤ 400000) (h4 : ds.length ≤ 4) (e : ebL f ds = .ok ys) (hd : ∀ d ∈ ds, ∀ ys, f d = .ok ys → self [d] = some (iL ys) ∧ ys.length ≤ L)
    (ht : t = .tuple ds ∧ k = 5 ∨ t = .list ds ∧ k = 6) : runP 4 1 (m__law_bytes self) [t] = some (iL (k :: (nb ds.length ++ ys))) := by
  have hn := small9 (n := ds.length) (by omega)
  have hbl := nb_len hn
  have hz : (k :: nb ds.length).length + ds.length * L ≤ 4000000 := by
    have := Nat.mul_le_mul h4 hL
    rw [List.length_cons]; omega
  obtain ⟨b', q⟩ := law_loop (t := .sh t) hL (acc := k :: nb ds.length) (b := .un) e h4 hz hd
  rcases ht with ⟨rfl, rfl⟩ | ⟨rfl, rfl⟩
  · refine runP_re (N := 4) (n := 1) (m := m__law_bytes self) (u := ()) (seq_nx (if_no (or_f (opT_e rfl rfl rfl) (or_f (opT_e rfl rfl rfl) (opT_e rfl rfl rfl)))) (seq_nx (if_no (tru_e (isi_e rfl rfl) rfl)) (seq_nx (if_no (tru_e (isi_e rfl rfl) rfl)) (seq_nx (set_e (d := iL (5 :: nb ds.length)) (L_e (cat_e (L_e (lst_e (cons_e (mif_t (tru_e (isi_e rfl rfl) rfl) rfl) nil_e))) (call_e (cons_e (call_e (cons_e rfl nil_e) len_t) nil_e) (law_number_e hn)) ?_))) (seq_nx (for_e (itQ_t rfl) q) (ret_e rfl))))))
    rw [List.length_map, line_val]; show 1 + _ ≤ _; omega
  · refine runP_re (N := 4) (n := 1) (m := m__law_bytes self) (u := ()) (seq_nx (if_no (or_f (opT_e rfl rfl rfl) (or_f (opT_e rfl rfl rfl) (opT_e rfl rfl rfl)))) (seq_nx (if_no (tru_e (isi_e rfl rfl) rfl)) (seq_nx (if_no (tru_e (isi_e rfl rfl) rfl)) (seq_nx (set_e (d := iL (6 :: nb ds.length)) (L_e (cat_e (L_e (lst_e (cons_e (mif_f (tru_e (isi_e rfl rfl) rfl) rfl) nil_e))) (call_e (cons_e (call_e (cons_e rfl nil_e) len_e) nil_e) (law_number_e hn)) ?_))) (seq_nx (for_e (itQ_l rfl) q) (ret_e rfl))))))
    rw [List.length_map, line_val]; show 1 + _ ≤ _; omega
theorem law_one {self : List D → Option D} {f : D → ER} {P : D → Prop} {L : Nat} {d : D} {ys : List Int} (hL : L ≤ 400000) (s : Good1 P d) (h : eb1 f d = .ok ys) (hP : ∀ d, P d → ∀ ys, f d = .ok ys → self [d] = some (iL ys) ∧ ys.length ≤ L) : runP 4 1 (m__law_bytes self) [d] = some (iL ys) := by
  cases d with
  | none => cases h; exact runP_rl (N := 4) (n := 1) (u := ()) (xs := [.int 0]) (seq_rl (if_t (or_t (opT_e rfl rfl rfl)) (retF_e (lst_e (cons_e (mif_t (opT_e rfl rfl rfl) rfl) nil_e)))))
  | bool b =>
    cases h
    cases b
    · exact runP_rl (N := 4) (n := 1) (u := ()) (xs := [.int 1]) (seq_rl (if_t (or_f (opT_e rfl rfl rfl) (or_t (opT_e rfl rfl rfl))) (retF_e (lst_e (cons_e (mif_f (opT_e rfl rfl rfl) (mif_t (opT_e rfl rfl rfl) rfl)) nil_e)))))
    · exact runP_rl (N := 4) (n := 1) (u := ()) (xs := [.int 2]) (seq_rl (if_t (or_f (opT_e rfl rfl rfl) (or_f (opT_e rfl rfl rfl) (opT_e rfl rfl rfl))) (retF_e (lst_e (cons_e (mif_f (opT_e rfl rfl rfl) (mif_f (opT_e rfl rfl rfl) rfl)) nil_e)))))
  | int i =>
    cases h
    have hb := nb_len (zg_lt s)
    refine runP_rl (N := 4) (n := 1) (u := ()) (xs := (3 :: nb (zg i)).map .int) (seq_nx (if_no (or_f (opT_e rfl rfl rfl) (or_f (opT_e rfl rfl rfl) (opT_e rfl rfl rfl)))) (seq_nx (if_no (tru_e (isi_e rfl rfl) rfl)) (seq_rl (if_t (tru_e (isi_e rfl rfl) rfl) (retF_e (cat_e (L_e (lst_e (xs := [.int 3]) rfl)) (call_e (cons_e (zgm_e rfl) nil_e) (law_number_e (zg_lt s))) ?_))))))
    rw [List.length_map, line_val]; show 1 + _ ≤ _; omega
  | str z =>
    have hz : ∀ c ∈ z.cps.toList, c ∈ sgl := fun c hc => dset_sgl (s.2 c hc)
    have s1 := s.1
    have hn := small9 (n := z.cps.toList.length) (by omega)
    have hb := nb_len hn
    have h : (if (z.cps.toList.all fun c => decide (c ∈ sgl)) = true then .ok (4 :: tb z.cps.toList) else .error "text" : ER) = .ok ys := h
    rw [if_pos (List.all_eq_true.mpr fun c hc => decide_eq_true (hz c hc))] at h
    cases h
    have e0 : ∀ {g : Unit}, mVar 0 (startE 4 [SV.sh (.str z)]) g = some (.str (tx z.cps.toList), g) := fun {g} => by rw [← tx_of]; rfl
    refine (runP_rl (N := 4) (n := 1) (u := ()) (xs := (([.int 4] ++ (nb z.cps.toList.length).map .int) ++ (z.cps.toList.map fun c => PyData.int (six c : Int)))) (seq_nx (if_no (or_f (opT_e rfl rfl rfl) (or_f (opT_e rfl rfl rfl) (opT_e rfl rfl rfl)))) (seq_rl (if_t (tru_e (isi_e rfl rfl) rfl)
      (retF_e (cat_e (L_e (cat_e (L_e (lst_e (xs := [.int 4]) rfl)) (call_e (cons_e (call_e (cons_e rfl nil_e) rfl) nil_e) (law_number_e hn)) ?_)) (L_e (comp_e (its_e e0) rfl (compL_mm (fun c => .str (ch c)) (fun c => .int (six c : Int)) fun c hc => ⟨_, rfl, m1_e rfl rfl (ix_low (s.2 c hc))⟩))) ?_)))))).trans ?_
    · rw [List.length_map, line_val]; show 1 + _ ≤ _; omega
    · rw [List.length_append, List.length_map, List.length_map, line_val]; show 1 + _ + _ ≤ _; omega
    · show some (PyData.list _) = some (PyData.list _)
      rw [tb, List.map_cons, List.map_append, List.map_map]
      rfl
  | tuple ds =>
    have h : ebP 5 ds.length (ebL f ds) = .ok ys := h
    cases e : ebL f ds with
    | error w => rw [e] at h; cases h
    | ok zs => rw [e] at h; cases h; exact law_seq hL s.1 e (fun d hd => hP d (s.2 d hd)) (.inl ⟨rfl, rfl⟩)
  | list ds =>
    have h : ebP 6 ds.length (ebL f ds) = .ok ys := h
    cases e : ebL f ds with
    | error w => rw [e] at h; cases h
    | ok zs => rw [e] at h; cases h; exact law_seq hL s.1 e (fun d hd => hP d (s.2 d hd)) (.inr ⟨rfl, rfl⟩)
  | dict kvs => exact s.elim
theorem law_bytes_e : ∀ {n : Nat} {d : D} {ys : List Int}, n ≤ 6 → Good n d → eb n d = .ok ys → F__law_bytes (n + 1) [d] = some (iL ys)
  | 0, d, ys, _, s, h => law_one (L := 0) (by decide) s h fun _ z => z.elim
  | n + 1, d, ys, hn, s, h => law_one (L := 20 * 5 ^ n) (pow5 (by omega)) s h fun d z ys e => ⟨law_bytes_e (by omega) z e, eb_len (good_sz z) e⟩
end K50

namespace K50
open PySem Pd
/-! the same thing of the same kinds -/
theorem bnot_e {G : Type} {env : Pd.Env} {g g1 : G} {ma : ME G} {b : Bool} (h : ma env g = some (.bool b, g1)) : mBNot ma env g = some (.bool (!b), g1) := by unfold mBNot; rw [h]
theorem same_seq {self : List D → Option D} {ds : List D} {t : D} (h4 : ds.length ≤ 4) (ht : t = .tuple ds ∨ t = .list ds) (hd : ∀ d ∈ ds, self [d, d] = some (.bool true)) : runP 3 2 (m__law_same self) [t, t] = some (.bool true) := by
  have hl : dLen [t] = some (.int (ds.length : Int)) := by rcases ht with rfl | rfl <;> rfl
  have hx : ∀ j : Nat, j < ds.length → ∃ d, dIx t (.int (j : Int)) = some d ∧ d ∈ ds := fun j hj => ⟨ds[j], by
    rcases ht with rfl | rfl
    · exact L2.atI_nat (List.getElem?_eq_getElem hj)
    · exact L2.atI_nat (List.getElem?_eq_getElem hj), List.getElem_mem hj⟩
  have h2 : isTy2 "tuple" "list" t = some true := by rcases ht with rfl | rfl <;> rfl
  have h1 : ∃ b, isTy "tuple" t = some b := by
    rcases ht with rfl | rfl
    · exact ⟨true, rfl⟩
    · exact ⟨false, rfl⟩
  obtain ⟨b, hb⟩ := h1
  have q := compL_filter (G := Unit) (env := (startE 3 ([t, t].map SV.sh)).wipe [2]) (g := ()) (bt := bName 2) (me := mVar 2) (mt := mNot (mTru (mCall self (mCons (mOp dIx (mVar 0) (mVar 2)) (mCons (mOp dIx (mVar 1) (mVar 2)) mNil))))) (fun k : Nat => PyData.int (k : Int)) (fun k : Nat => PyData.int (k : Int)) (fun _ => false) (l := List.range ds.length) (fun j hj => by
    obtain ⟨d, e, hdm⟩ := hx j (List.mem_range.mp hj)
    exact ⟨[.sh t, .sh t, .sh (.int (j : Int))], rfl, not_e (tru_e (call_e (cons_e (op_e rfl rfl e) (cons_e (op_e rfl rfl e) nil_e)) (hd d hdm)) rfl), rfl⟩)
  rw [List.filter_eq_nil_iff.mpr (fun _ _ z => by cases z), ← rng0] at q
  refine runP_re (N := 3) (n := 2) (m := m__law_same self) (u := ()) (seq_re (if_t (tru_e (isi2_e rfl h2) rfl) (seq_nx (if_no (or_f (not_e (b := true) (tru_e (isi2_e rfl h2) rfl)) (or_f (opT_e (isi_e rfl hb) (isi_e rfl hb) (by rw [ne_bb]; simp)) (opT_e (call_e (cons_e rfl nil_e) hl) (call_e (cons_e rfl nil_e) hl) (neq_f rfl)))))
    (ret_e (op_e (call_e (cons_e (L_e (xs := []) (comp_e (rng1_e (cons_e (call_e (cons_e rfl nil_e) hl) nil_e) (by omega)) rfl ?_)) nil_e) rfl) rfl (eq_it rfl))))))
  exact q
theorem same_one {self : List D → Option D} {P : D → Prop} {d : D} (s : Good1 P d) (h : ∀ d, P d → self [d, d] = some (.bool true)) : runP 3 2 (m__law_same self) [d, d] = some (.bool true) := by
  cases d with
  | none => exact runP_re (N := 3) (n := 2) (u := ()) (seq_nx (if_no (tru_e (isi2_e rfl rfl) rfl)) (seq_re (if_t (opT_e rfl rfl rfl) rfl)))
  | bool b => exact runP_re (N := 3) (n := 2) (u := ()) (seq_nx (if_no (tru_e (isi2_e rfl rfl) rfl)) (seq_nx (if_no (opT_e rfl rfl rfl)) (seq_re (if_t (tru_e (isi_e rfl rfl) rfl) (ret_e (band_t (isi_e rfl rfl) (op_e rfl rfl (eq_self rfl (by show 0 ≤ 64; decide)))))))))
  | int i => exact runP_re (N := 3) (n := 2) (u := ()) (seq_nx (if_no (tru_e (isi2_e rfl rfl) rfl)) (seq_nx (if_no (opT_e rfl rfl rfl)) (seq_nx (if_no (tru_e (isi_e rfl rfl) rfl)) (ret_e (band_t (op_e rfl rfl rfl) (band_t (bnot_e (b := false) (isi_e rfl rfl)) (band_t (op_e (isi_e rfl rfl) (isi_e rfl rfl) (eq_self rfl (by show 0 ≤ 64; decide))) (op_e rfl rfl (eq_it rfl)))))))))
  | str z => exact runP_re (N := 3) (n := 2) (u := ()) (seq_nx (if_no (tru_e (isi2_e rfl rfl) rfl)) (seq_nx (if_no (opT_e rfl rfl rfl)) (seq_nx (if_no (tru_e (isi_e rfl rfl) rfl)) (ret_e (band_t (op_e rfl rfl rfl) (band_t (bnot_e (b := false) (isi_e rfl rfl)) (band_t (op_e (isi_e rfl rfl) (isi_e rfl rfl) (eq_self rfl (by show 0 ≤ 64; decide))) (op_e rfl rfl (eq_self rfl (by show 0 ≤ 64; decide))))))))))
  | tuple ds => exact same_seq s.1 (.inl rfl) fun d hd => h d (s.2 d hd)
  | list ds => exact same_seq s.1 (.inr rfl) fun d hd => h d (s.2 d hd)
  | dict kvs => exact s.elim
theorem same_e : ∀ {n : Nat} {d : D}, Good n d → F__law_same (n + 1) [d, d] = some (.bool true)
  | 0, d, s => same_one s fun _ z => z.elim
  | n + 1, d, s => same_one s fun d z => same_e z
/-! drawn things -/
theorem drawn (g : Dr) (i : Nat) {m : Int} (hm : 0 < m ∧ m < 1073741824) {me : ME Dr} {e : Pd.Env} (he : e.at i = .st) (h : me e g = some (.int m, g)) : ∃ j g1, mCallG drawA (gConsS i (gCons me gNil)) e g = some (.int j, g1) ∧ 0 ≤ j ∧ j < m := by
  obtain ⟨j, g1, h1, h2⟩ := draw_ev g hm
  refine ⟨j, g1, ?_, h2⟩
  refine callG_e (as := [.st, .sh (.int m)]) (g1 := g) ?_ h1
  unfold gConsS
  rw [he]
  unfold gCons
  dsimp only
  rw [h]
  rfl
theorem pow_e {i j : Int} (h : 0 ≤ j ∧ j ≤ 1000000 ∧ i.natAbs < 2 ^ 64) : dPow (.int i) (.int j) = some (.int (i ^ j.toNat)) := if_pos h
theorem whole_ev (g : Dr) : ∃ i g1, F__law_whole [.st] g = some (.int i, g1) ∧ i.natAbs < 2 ^ 49 := by
  obtain ⟨a, g1, e1, a0, a1⟩ := drawn g 0 (m := 8) (by decide) (me := mC (.int 8)) (e := startE 1 [.st]) rfl rfl
  obtain ⟨b, g2, e2, b0, b1⟩ := drawn g1 0 (m := 2) (by decide) (me := mC (.int 2)) (e := startE 1 [.st]) rfl rfl
  obtain ⟨c, g3, e3, c0, c1⟩ := drawn g2 0 (m := 9) (by decide) (me := mC (.int 9)) (e := startE 1 [.st]) rfl rfl
  have hx : ∃ x, dIx (.list [.int 0, .int 1, .int 63, .int 64, .int 127, .int 128, .int 1000000000, .int 1099511627776]) (.int a) = some (.int x) ∧ 0 ≤ x ∧ x ≤ 1099511627776 := by
    have : a = 0 ∨ a = 1 ∨ a = 2 ∨ a = 3 ∨ a = 4 ∨ a = 5 ∨ a = 6 ∨ a = 7 := by omega
    rcases this with rfl | rfl | rfl | rfl | rfl | rfl | rfl | rfl
    · exact ⟨0, rfl, by decide⟩
    · exact ⟨1, rfl, by decide⟩
    · exact ⟨63, rfl, by decide⟩
    · exact ⟨64, rfl, by decide⟩
    · exact ⟨127, rfl, by decide⟩
    · exact ⟨128, rfl, by decide⟩
    · exact ⟨1000000000, rfl, by decide⟩
    · exact ⟨1099511627776, rfl, by decide⟩
  have hy : ∃ y, dIx (.list [.int 1, .int (-1)]) (.int b) = some (.int y) ∧ (y = 1 ∨ y = -1) := by
    have : b = 0 ∨ b = 1 := by omega
    rcases this with rfl | rfl
    · exact ⟨1, rfl, by decide⟩
    · exact ⟨-1, rfl, by decide⟩
  obtain ⟨x, ex, x0, x1⟩ := hx
  obtain ⟨y, ey, hy⟩ := hy
  refine ⟨x * y + c, g3, runG_re (N := 1) (n := 1) (m := m__law_whole) (ret_e (op_e (op_e (op_e (L_e (lst_e (cons_e rfl (cons_e rfl (cons_e rfl (cons_e rfl (cons_e rfl (cons_e rfl (cons_e (op_e rfl rfl (pow_e ⟨by decide, by decide, by decide⟩)) (cons_e (op_e rfl rfl (pow_e ⟨by decide, by decide, by decide⟩)) nil_e)))))))))) e1 ex) (op_e (L_e (lst_e (cons_e rfl (cons_e (op_e rfl rfl rfl) nil_e)))) e2 ey) (mul_r (by omega))) e3 rfl)), ?_⟩
  have : (2 : Nat) ^ 49 = 562949953421312 := by decide
  rcases hy with rfl | rfl <;> omega
theorem text_ev (g : Dr) : ∃ (cs : List Nat) (g1 : Dr), F__law_text [.st, .sh (.int 6)] g = some (.str (tx cs), g1) ∧ cs.length ≤ 6 ∧ ∀ c ∈ cs, c ∈ dset := by
  obtain ⟨n, g2, e2, n0, n1⟩ := drawn g 0 (m := 7) (by decide) (me := mOp dAdd (mVar 1) (mC (.int 1))) (e := startE 3 [.st, .sh (.int 6)]) rfl rfl
  have hc : ∀ (env : Pd.Env) (he : env.at 0 = .st) (l : List D) (g : Dr), ∃ (cs : List Nat) (g3 : Dr), compL (bName 2) mYes (mOp dIx (mC (.str " 019_abz")) (mCallG drawA (gConsS 0 (gCons (mC (.int 8)) gNil)))) env l g = some (cs.map (fun c => PyData.str (ch c)), g3) ∧ cs.length = l.length ∧ ∀ c ∈ cs, c ∈ dset := by
    intro env he l
    induction l with
    | nil => exact fun g => ⟨[], g, rfl, rfl, fun _ h => nomatch h⟩
    | cons d l ih =>
      intro g
      obtain ⟨b, g2, e2, b0, b1⟩ := drawn g 0 (m := 8) (by decide) (me := mC (.int 8)) (e := env.set 2 (.sh d)) (by rw [at_set, if_neg (by simp)]; exact he) rfl
      have hx : ∃ c, dIx (.str " 019_abz") (.int b) = some (.str (ch c)) ∧ c ∈ dset := by
        have : b = 0 ∨ b = 1 ∨ b = 2 ∨ b = 3 ∨ b = 4 ∨ b = 5 ∨ b = 6 ∨ b = 7 := by omega
        rcases this with rfl | rfl | rfl | rfl | rfl | rfl | rfl | rfl
        · exact ⟨32, rfl, by decide⟩
        · exact ⟨48, rfl, by decide⟩
        · exact ⟨49, rfl, by decide⟩
        · exact ⟨57, rfl, by decide⟩
        · exact ⟨95, rfl, by decide⟩
        · exact ⟨97, rfl, by decide⟩
        · exact ⟨98, rfl, by decide⟩
        · exact ⟨122, rfl, by decide⟩
      obtain ⟨c, hc, hcs⟩ := hx
      obtain ⟨cs, g3, q1, q2, q3⟩ := ih g2
      refine ⟨c :: cs, g3, ?_, by rw [List.length_cons, List.length_cons, q2], fun x hx => ?_⟩
      · rw [List.map_cons]
        exact compL_cons rfl (op_e rfl e2 hc) q1
      · rcases List.mem_cons.mp hx with e | e
        · rw [e]; exact hcs
        · exact q3 x e
  obtain ⟨cs, g3, e3, q2, q3⟩ := hc ((startE 3 [SV.st, .sh (.int 6)]).wipe [2]) rfl (rng 0 n.toNat) g2
  rw [rng_len] at q2
  exact ⟨cs, g3, runG_re (N := 3) (n := 2) (m := m__law_text) (ret_e (m1_e rfl (L_e (comp_e (rng1_e (cons_e e2 nil_e) (by omega)) rfl e3)) (join_ch (by decide) (by omega)))), by omega, q3⟩
theorem thing_one {self : List SV → Dr → Option (D × Dr)} {P : D → Prop} {k : Nat} (h : 0 < k → ∀ g, ∃ d g1, self [.st, .sh (.int ((k : Int) - 1))] g = some (d, g1) ∧ P d) (g : Dr) : ∃ d g1, runG 5 2 (m__law_thing self) [.st, .sh (.int (k : Int))] g = some (d, g1) ∧ Good1 P d := by
  have hk : ∃ m : Int, (mIf (mOpT dGtI (mVar 1) (mC (.int 0))) (mC (.int 8)) (mC (.int 5)) : ME Dr) (startE 5 [.st, .sh (.int (k : Int))]) g = some (.int m, g) ∧ (m = 8 ∧ 0 < k ∨ m = 5) := by
    by_cases z : 0 < k
    · exact ⟨8, mif_t (opT_e rfl rfl (gt_t (by omega))) rfl, .inl ⟨rfl, z⟩⟩
    · exact ⟨5, mif_f (opT_e rfl rfl (gt_f (by omega))) rfl, .inr rfl⟩
  obtain ⟨m, em, hm⟩ := hk
  obtain ⟨a, g1, e1, a0, a1⟩ := drawn g 0 (m := m) (by omega) (e := startE 5 [.st, .sh (.int (k : Int))]) rfl em
  by_cases h3 : a < 3
  · have hx : ∃ d, dIx (.list [.none, .bool false, .bool true]) (.int a) = some d ∧ Good1 P d := by
      have : a = 0 ∨ a = 1 ∨ a = 2 := by omega
      rcases this with rfl | rfl | rfl
      · exact ⟨.none, rfl, trivial⟩
      · exact ⟨.bool false, rfl, trivial⟩
      · exact ⟨.bool true, rfl, trivial⟩
    obtain ⟨d, ed, gd⟩ := hx
    exact ⟨d, g1, runG_re (seq_nx (set_e e1) (seq_re (if_t (opT_e rfl rfl (lt_t h3)) (ret_e (op_e (L_e (lst_e rfl)) rfl ed))))), gd⟩
  by_cases e3 : a = 3
  · obtain ⟨i, g2, e2, hi⟩ := whole_ev g1
    exact ⟨.int i, g2, runG_re (seq_nx (set_e e1) (seq_nx (if_no (opT_e rfl rfl (lt_f h3))) (seq_re (if_t (opT_e rfl rfl (eq_it e3)) (ret_e (callG_e rfl e2)))))), Nat.lt_trans hi (by decide)⟩
  by_cases e4 : a = 4
  · obtain ⟨cs, g2, e2, hl, hc⟩ := text_ev g1
    exact ⟨.str (tx cs), g2, runG_re (seq_nx (set_e e1) (seq_nx (if_no (opT_e rfl rfl (lt_f h3))) (seq_nx (if_no (opT_e rfl rfl (eq_if e3))) (seq_re (if_t (opT_e rfl rfl (eq_it e4)) (ret_e (callG_e rfl e2))))))), by show (tx cs).cps.toList.length ≤ 10; simp [tx]; omega, by simpa [tx] using hc⟩
  have k0 : 0 < k := by omega
  obtain ⟨n, g2, e2, n0, n1⟩ := drawn g1 0 (m := 4) (by decide) (me := mC (.int 4)) (e := [.st, .sh (.int (k : Int)), .sh (.int a), .un, .un]) rfl rfl
  obtain ⟨xs, g3, q, hl, hx⟩ := compL_ex (bt := bName 4) (me := mCallG self (gConsS 0 (gCons (mOp dSub (mVar 1) (mC (.int 1))) gNil))) (env := Pd.Env.wipe [.st, .sh (.int (k : Int)), .sh (.int a), .un, .un] [4]) P (ds := rng 0 n.toNat) (g := g2) (fun d _ g => by
    obtain ⟨d', g3, e, ok⟩ := h k0 g
    exact ⟨_, rfl, _, g3, callG_e rfl e, ok⟩)
  rw [rng_len] at hl
  have pre : ∀ {r} {m : MS Dr}, m [.st, .sh (.int (k : Int)), .sh (.int a), .sh (.list xs), .un] g3 = r → (mSeq (mSet 2 (mCallG drawA (gConsS 0 (gCons (mIf (mOpT dGtI (mVar 1) (mC (.int 0))) (mC (.int 8)) (mC (.int 5))) gNil))))
    (mSeq (mIfS (mOpT dLtI (mVar 2) (mC (.int 3))) (mRet (mOp dIx (mL (mLst (mCons (mC .none) (mCons (mC (.bool false)) (mCons (mC (.bool true)) mNil))))) (mVar 2))) mSkip)
    (mSeq (mIfS (mOpT dEq (mVar 2) (mC (.int 3))) (mRet (mCallG F__law_whole (gConsS 0 gNil))) mSkip)
    (mSeq (mIfS (mOpT dEq (mVar 2) (mC (.int 4))) (mRet (mCallG F__law_text (gConsS 0 (gCons (mC (.int 6)) gNil)))) mSkip)
    (mSeq (mThen (mSetF 3 (mComp (mRng1 (mCons (mCallG drawA (gConsS 0 (gCons (mC (.int 4)) gNil))) mNil)) [4] (bName 4) mYes (mCallG self (gConsS 0 (gCons (mOp dSub (mVar 1) (mC (.int 1))) gNil))))) 3) m)))) : MS Dr) (startE 5 [.st, .sh (.int (k : Int))]) g = r :=
    fun hm => seq_nx (set_e e1) (seq_nx (if_no (opT_e rfl rfl (lt_f h3))) (seq_nx (if_no (opT_e rfl rfl (eq_if e3))) (seq_nx (if_no (opT_e rfl rfl (eq_if e4))) (seq_nx (then_e (setF_e (comp_e (rng1_e (cons_e e2 nil_e) (by omega)) rfl q))) hm))))
  by_cases h7 : a < 7
  · exact ⟨.tuple xs, g3, runG_re (pre (ret_e (mif_t (opT_e rfl rfl (lt_t h7)) (call_e (cons_e rfl nil_e) rfl)))), by omega, hx⟩
  · exact ⟨.list xs, g3, runG_re (pre (ret_e (mif_f (opT_e rfl rfl (lt_f h7)) rfl))), by omega, hx⟩
theorem thing_ev : ∀ {n k : Nat} (g : Dr), k ≤ n → ∃ d g1, F__law_thing (n + 1) [.st, .sh (.int (k : Int))] g = some (d, g1) ∧ Good n d
  | 0, k, g, h => thing_one (P := fun _ => False) (fun z => by omega) g
  | n + 1, k, g, h => thing_one (P := Good n) (fun z g => by
    have := thing_ev (n := n) (k := k - 1) g (by omega)
    rw [show ((k - 1 : Nat) : Int) = (k : Int) - 1 by omega] at this
    exact this) g
end K50

namespace K50
open PySem Pd
/-! the law's parts -/
theorem add_iL {xs ys : List Int} (h : xs.length + ys.length ≤ sizeLine) : dAdd (iL xs) (iL ys) = some (iL (xs ++ ys)) := by
  show (if (xs.map PyData.int).length + (ys.map PyData.int).length ≤ sizeLine then some (PyData.list (xs.map PyData.int ++ ys.map PyData.int)) else none) = _
  rw [List.length_map, List.length_map, if_pos h, ← List.map_append]
theorem cut_iL (xs : List Int) (k : Nat) : cut (xs.map PyData.int) none (some (k : Int)) = (xs.take k).map .int := by rw [cut_to, List.map_take]
/-- a thing and its bytes -/
structure Pair (d : D) (c : List Int) : Prop where
  g : Good 4 d
  k : Back (eb 4) (rt 4) d c
  z : c.length ≤ 12500
theorem pair_ev (g : Dr) : ∃ d g1 c, F__law_thing 5 [.st, .sh (.int 3)] g = some (d, g1) ∧ Pair d c := by
  obtain ⟨d, g1, e, gd⟩ := thing_ev (n := 4) (k := 3) g (by decide)
  obtain ⟨c, B⟩ := back gd
  have := eb_len (good_sz gd) B.e
  exact ⟨d, g1, c, e, gd, B, by have h : 20 * 5 ^ 4 = 12500 := by decide
                                omega⟩
section
variable {d e : D} {c m : List Int}
theorem Pair.bytes (p : Pair d c) : okF (F_bytes_of 5) [d] = some (c.map .int) := bytes_ok (good_sz p.g) p.k.e
theorem Pair.law (p : Pair d c) : F__law_bytes 5 [d] = some (iL c) := law_bytes_e (n := 4) (by decide) p.g p.k.e
theorem Pair.same (p : Pair d c) : F__law_same 5 [d, d] = some (.bool true) := same_e (n := 4) p.g
theorem Pair.nn (p : Pair d c) {x : Int} (h : x ∈ c) : 0 ≤ x := (p.k.b x h).1
theorem Pair.read (p : Pair d c) (q : Pair e m) {ah : List Int} (h0 : ∀ b ∈ ah, 0 ≤ b) (hl : ah.length ≤ 3) : F_read_thing 5 [iL (ah ++ c ++ m), .int (ah.length : Int)] = some (.tuple [d, .int ((ah.length + c.length : Nat) : Int)]) := by
  have h1 := p.z
  have h2 := q.z
  refine read_thing_e (n := 4) (r := some (d, c.length)) (by simp only [List.length_append]; omega) (fun b hb => ?_) (by simp only [List.length_append]; omega) ?_
  · rcases List.mem_append.mp hb with hb | hb
    · rcases List.mem_append.mp hb with hb | hb
      · exact h0 b hb
      · exact p.nn hb
    · exact q.nn hb
  · rw [List.append_assoc, List.drop_left]
    exact p.k.r m
theorem Pair.of (p : Pair d c) (q : Pair e m) : okF F_thing_of [iL (c ++ m)] = some d := okF_e (of_ok (l := c.length) (by have h1 := p.z; have h2 := q.z; rw [List.length_append]; omega) (fun b hb => by
  rcases List.mem_append.mp hb with hb | hb
  · exact p.nn hb
  · exact q.nn hb) (p.k.r m))
theorem Pair.whole (p : Pair d c) : F_whole_thing [iL c] = some (.tuple [d]) := by
  have h := p.k.r []
  rw [List.append_nil] at h
  exact (whole_e (by have := p.z; omega) (fun b hb => p.nn hb) h).trans (by show some (if c.length = c.length then _ else _) = _; rw [if_pos rfl])
theorem Pair.long (p : Pair d c) (q : Pair e m) : F_whole_thing [iL (c ++ m)] = some .none := by
  have h := p.k.r m
  have h1 := p.z
  have h2 := q.z
  have h3 := q.k.l
  refine (whole_e (by rw [List.length_append]; omega) (fun b hb => ?_) h).trans ?_
  · rcases List.mem_append.mp hb with hb | hb
    · exact p.nn hb
    · exact q.nn hb
  · show some (if c.length = (c ++ m).length then _ else _) = _
    rw [List.length_append, if_neg (by omega)]
theorem Pair.cutR (p : Pair d c) {k : Nat} (h : k < c.length) : F_read_thing 5 [iL (c.take k), .int 0] = some .none :=
  read_thing_e (n := 4) (p := 0) (r := none) (by have := p.z; rw [List.length_take]; omega) (fun b hb => p.nn (List.mem_of_mem_take hb)) (Nat.zero_le _) (p.k.c k h)
theorem Pair.cutW (p : Pair d c) {k : Nat} (h : k < c.length) : F_whole_thing [iL (c.take k)] = some .none :=
  whole_e (by have := p.z; rw [List.length_take]; omega) (fun b hb => p.nn (List.mem_of_mem_take hb)) (p.k.c k h)
theorem Pair.cutN (p : Pair d c) {k : Nat} (h : k < c.length) : F__law_none [iL (c.take k)] = some (.str "bytes") :=
  none_e (by have := p.z; rw [List.length_take]; omega) (fun b hb => p.nn (List.mem_of_mem_take hb)) (p.k.c k h)
theorem Pair.uni (p : Pair d c) (q : Pair e m) (h : c.take m.length = m) : d = e := pre_one (r := c.drop m.length) p.k q.k (by
  have e := (List.take_append_drop m.length c).symm
  rw [h] at e
  exact e)
end
/-! numbers -/
theorem rnA_hi0 : ∀ {xs : List Int} {s : Nat} {acc : Int}, (∀ x ∈ xs, ¬ x < 128) → 0 < s + xs.length → rnA (xs ++ [0]) s acc = none
  | [], s, acc, _, h => by
    show rnA [0] s acc = none
    unfold rnA
    rw [if_pos (by decide), if_pos ⟨rfl, by simpa using h⟩]
  | x :: xs, s, acc, h, _ => by
    rw [List.cons_append]
    unfold rnA
    rw [if_neg (h x (by simp))]
    exact rnA_hi0 (fun y hy => h y (List.mem_cons_of_mem _ hy)) (by omega)
theorem read_high {n : Nat} (hn : n < 128 ^ 9) : F_read_number [iL (((nb n).map fun b => if b < 128 then b + 128 else b) ++ [0]), .int 0] = some .none := by
  have hl := nb_len hn
  refine (read_number_e (c := ((nb n).map fun b => if b < 128 then b + 128 else b) ++ [0]) 0 (by rw [List.length_append, List.length_map, List.length_singleton]; omega)).trans ?_
  rw [List.drop_zero]
  rw [show rn (((nb n).map fun b => if b < 128 then b + 128 else b) ++ [0]) = none from rnA_hi0 (fun x hx => by
    obtain ⟨b, hb, rfl⟩ := List.mem_map.mp hx
    have := nb_byte hb
    split <;> omega) (by rw [List.length_map]; omega)]
  rfl
theorem read_last {n : Nat} (hn : n < 128 ^ 9) : F_read_number [iL (nb n).dropLast, .int 0] = some .none := by
  have hl := nb_len hn
  refine (read_number_e (c := (nb n).dropLast) 0 (by rw [List.length_dropLast]; omega)).trans ?_
  rw [List.drop_zero, List.dropLast_eq_take, rn_cut (by omega)]
  rfl
theorem read_back {n : Nat} {ah : List Int} (hn : n < 128 ^ 9) (hl : ah.length ≤ 3) : F_read_number [iL (ah ++ nb n ++ [5]), .int (ah.length : Int)] = some (.tuple [.int (n : Int), .int ((ah.length + (nb n).length : Nat) : Int)]) := by
  have h := nb_len hn
  refine (read_number_e (c := ah ++ nb n ++ [5]) ah.length (by simp only [List.length_append, List.length_singleton]; omega)).trans ?_
  rw [List.append_assoc, List.drop_left, rn_nb]
  rfl
theorem read_empty : F_read_number [iL [], .int 0] = some .none := read_number_e (c := []) 0 (by decide)
theorem read_sback {i : Int} (hi : i.natAbs < 2 ^ 50) : F_read_signed [iL (nb (zg i) ++ [1]), .int 0] = some (.tuple [.int i, .int ((nb (zg i)).length : Int)]) := by
  have h := nb_len (zg_lt hi)
  refine (read_signed_e (c := nb (zg i) ++ [1]) 0 (by rw [List.length_append, List.length_singleton]; omega)).trans ?_
  rw [List.drop_zero, rs_nb]
  show some (PyData.tuple [.int i, .int ((0 + (nb (zg i)).length : Nat) : Int)]) = _
  rw [Nat.zero_add]
/-! what is none -/
theorem bad_e {b : Int} (hb : 0 ≤ b) {x : D} (h : x ∈ [iL [7 + b], iL [3], iL [4, 1], iL [4, 1, 95], iL [5, 1], iL [6, 128, 0], iL [3, 128, 0]]) : F_read_thing 5 [x, .int 0] = some .none := by
  have go : ∀ {c : List Int}, c.length ≤ 3 → (∀ y ∈ c, 0 ≤ y) → rt 4 c = some none → F_read_thing 5 [iL c, .int 0] = some .none := fun hl h0 hr => read_thing_e (n := 4) (p := 0) (r := none) (by omega) h0 (Nat.zero_le _) hr
  simp only [List.mem_cons, List.not_mem_nil, or_false] at h
  rcases h with rfl | rfl | rfl | rfl | rfl | rfl | rfl
  · refine go (by simp) (fun y hy => by rw [List.mem_singleton.mp hy]; omega) ?_
    show rtC (rt 3) (7 + b) [] = some none
    unfold rtC
    rw [if_neg (by omega), if_neg (by omega), if_neg (by omega), if_neg (by omega), if_neg (by omega), if_neg (by omega)]
  · exact go (by decide) (by decide) rfl
  · exact go (by decide) (by decide) rfl
  · exact go (by decide) (by decide) rfl
  · exact go (by decide) (by decide) rfl
  · exact go (by decide) (by decide) rfl
  · exact go (by decide) (by decide) rfl
/-! the other signs -/
abbrev REST : Str := "'(),.*+-=<>\x0a!\"#$&/:;?@ABCDEFGHIJKLMNOPQRSTUVWXYZ[\\]^`{|}~"
def rsl : List Nat := REST.cps.toList
theorem rsl_len : rsl.length = 57 := by decide +kernel
theorem rsl_in {j c : Nat} (h : rsl[j]? = some c) : c ∈ sgl ∧ six c = 38 + j := by
  have : ∀ k < 57, ∀ c, rsl[k]? = some c → c ∈ sgl ∧ six c = 38 + k := by
    have q : ∀ k < 57, (match rsl[k]? with
      | none => true
      | some c => decide (c ∈ sgl ∧ six c = 38 + k)) = true := by decide +kernel
    intro k hk c hc
    have := q k hk
    rw [hc] at this
    exact of_decide_eq_true this
  refine this j ?_ c h
  have := (List.getElem?_eq_some_iff.mp h).1
  rw [rsl_len] at this
  exact this
theorem rest_at {j c : Nat} (h : rsl[j]? = some c) : dIx (.str REST) (.int (j : Int)) = some (.str (ch c)) := by
  show (L2.atI REST.cps.toList (j : Int)).map _ = _
  rw [L2.atI_nat (show REST.cps.toList[j]? = some c from h)]
  rfl
theorem tb_one {j c : Nat} (h : rsl[j]? = some c) : tb [c] = [1, ((38 + j : Nat) : Int)] := by
  unfold tb
  rw [show ([c] : List Nat).length = 1 from rfl, nb_n (by decide), List.map_cons, (rsl_in h).2]
  rfl
theorem rest_bytes {j c : Nat} (h : rsl[j]? = some c) : okF (F_bytes_of 5) [.str (ch c)] = some ([4, 1, ((38 + j : Nat) : Int)].map .int) := by
  refine bytes_ok (by show ([c] : List Nat).length ≤ 10; simp) ?_
  show (if (([c] : List Nat).all fun c => decide (c ∈ sgl)) = true then .ok (4 :: tb [c]) else .error "text" : ER) = _
  rw [if_pos (by simp [(rsl_in h).1]), tb_one h]
theorem rest_of {j c : Nat} (h : rsl[j]? = some c) : okF F_thing_of [iL [4, 1, ((38 + j : Nat) : Int)]] = some (.str (ch c)) := by
  have e : rt 4 (4 :: tb [c]) = some (some (.str (ch c), 3)) := by
    show some ((rtx (tb [c])).map fun v => (PyData.str (tx v.1), v.2 + 1)) = _
    have := rtx_tb (cs := [c]) (fun x hx => by rw [List.mem_singleton.mp hx]; exact (rsl_in h).1) []
    rw [List.append_nil] at this
    rw [this, tb_one h]
    rfl
  rw [tb_one h] at e
  exact okF_e (of_ok (by show 3 ≤ 100000; decide) (fun b hb => by
    simp only [List.mem_cons, List.not_mem_nil, or_false] at hb
    rcases hb with rfl | rfl | rfl
    · decide
    · decide
    · omega) e)
/-! what is refused -/
theorem eb_str {n : Nat} {s : Str} (h : (s.cps.toList.all fun c => decide (c ∈ sgl)) = false) : eb n (.str s) = .error "text" := by
  have e : eb1 (fun _ => .error "deep") (.str s) = (.error "text" : ER) := by
    show (if (s.cps.toList.all fun c => decide (c ∈ sgl)) = true then _ else _) = _
    rw [if_neg (by rw [h]; decide)]
  cases n <;> exact e
theorem eb_str_ok {n : Nat} {s : Str} (h : (s.cps.toList.all fun c => decide (c ∈ sgl)) = true) : eb n (.str s) = .ok (4 :: tb s.cps.toList) := by
  have e : eb1 (fun _ => .error "deep") (.str s) = (.ok (4 :: tb s.cps.toList) : ER) := by
    show (if (s.cps.toList.all fun c => decide (c ∈ sgl)) = true then _ else _) = _
    rw [if_pos h]
  cases n <;> exact e
theorem ref1 : F__law_refused [.str "a\x09"] = some (.str "text") := refused_e (by show (Str.cps "a\x09").toList.length ≤ 10; decide +kernel) (eb_str (by decide +kernel))
theorem ref2 : F__law_refused [.list [.int 1, .tuple [.str "b", .str "c\x09d"]]] = some (.str "text") := by
  refine refused_e ?_ ?_
  · refine ⟨by decide, fun d hd => ?_⟩
    simp only [List.mem_cons, List.not_mem_nil, or_false] at hd
    rcases hd with rfl | rfl
    · show (1 : Int).natAbs < 2 ^ 50; decide
    · refine ⟨by decide, fun d hd => ?_⟩
      simp only [List.mem_cons, List.not_mem_nil, or_false] at hd
      rcases hd with rfl | rfl
      · show (Str.cps "b").toList.length ≤ 10; decide +kernel
      · show (Str.cps "c\x09d").toList.length ≤ 10; decide +kernel
  · have h1 : ebL (eb 2) [.str "b", .str "c\x09d"] = .error "text" := by
      unfold ebL ebL
      rw [eb_str_ok (s := "b") (by decide +kernel), eb_str (s := "c\x09d") (by decide +kernel)]
    have h2 : eb 3 (.tuple [.str "b", .str "c\x09d"]) = .error "text" := by
      show ebP 5 2 (ebL (eb 2) [.str "b", .str "c\x09d"]) = _
      rw [h1]; rfl
    show ebP 6 2 (ebL (eb 3) [.int 1, .tuple [.str "b", .str "c\x09d"]]) = _
    have h3 : ebL (eb 3) [.int 1, .tuple [.str "b", .str "c\x09d"]] = .error "text" := by
      unfold ebL ebL
      rw [h2]; rfl
    rw [h3]; rfl
theorem ref3 : F__law_refused [EMP] = some (.str "thing") := refused_e (by show EMP = EMP; rfl) rfl
theorem ref4 : F__law_refused [.tuple [.int 1, .list [EMP]]] = some (.str "thing") := by
  refine refused_e ?_ ?_
  · refine ⟨by decide, fun d hd => ?_⟩
    simp only [List.mem_cons, List.not_mem_nil, or_false] at hd
    rcases hd with rfl | rfl
    · show (1 : Int).natAbs < 2 ^ 50; decide
    · refine ⟨by decide, fun d hd => ?_⟩
      rw [List.mem_singleton.mp hd]
      show EMP = EMP
      rfl
  · show ebP 5 2 (ebL (eb 3) [.int 1, .list [EMP]]) = _
    have h3 : ebL (eb 3) [.int 1, .list [EMP]] = .error "thing" := by
      unfold ebL ebL
      rfl
    rw [h3]; rfl
theorem Pair.ref {d : D} {c : List Int} (p : Pair d c) : F__law_refused [d] = some .none := refused_no (good_sz p.g) p.k.e
end K50

namespace K50
open PySem Pd
abbrev LV (t o : D) (c m : List Int) (s6 s7 s8 s9 s10 s11 s12 s13 s14 s15 s16 : SV) : Pd.Env := [.un, .st, .sh t, .sh o, .sh (iL c), .sh (iL m), s6, s7, s8, s9, s10, s11, s12, s13, s14, s15, s16]
theorem small_add {a b : Nat} (ha : a ≤ 100000) (hb : b ≤ 100000) : a + b ≤ sizeLine := by rw [line_val]; omega
theorem sl_e {env : Pd.Env} {g g1 : Dr} {ma : ME Dr} {i : Nat} {xs : List Int} {k : Nat} (hi : env.at i = .sh (iL xs)) (h : ma env g = some (.int (k : Int), g1)) : mL (mSlL (mVar i) mNo (mPart ma)) env g = some (iL (xs.take k), g1) := by
  refine L_e ((slL_e (var_e hi) rfl (part_e h)).trans ?_)
  rw [cut_iL]
theorem cat_i {env : Pd.Env} {g : Dr} {ma mb : ME Dr} {xs ys : List Int} (ha : ma env g = some (iL xs, g)) (hb : mb env g = some (iL ys, g)) (hl : xs.length + ys.length ≤ sizeLine) : mL (mCat ma mb) env g = some (iL (xs ++ ys), g) := by
  refine L_e ((cat_e ha hb (by rw [List.length_map, List.length_map]; exact hl)).trans ?_)
  rw [List.map_append]
theorem last_e {env : Pd.Env} {g : Dr} {i : Nat} {xs : List Int} (hi : env.at i = .sh (iL xs)) : mL (mSlL (mVar i) mNo (mPart (mUn dNeg (mC (.int 1))))) env g = some (iL xs.dropLast, g) := by
  refine L_e ((slL_e (var_e hi) rfl (part_e (un_e (f := dNeg) (x := .int 1) (z := .int (-1)) rfl rfl))).trans ?_)
  rw [cut_last, List.map_dropLast]
theorem add2 {xs ys : List Int} {env : Pd.Env} {g : Dr} {i j : Nat} (hi : env.at i = .sh (iL xs)) (hj : env.at j = .sh (iL ys)) (h : xs.length + ys.length ≤ sizeLine) : mOp dAdd (mVar i) (mVar j) env g = some (iL (xs ++ ys), g) := op_e (var_e hi) (var_e hj) (add_iL h)
theorem lens {xs : List Int} {env : Pd.Env} {g : Dr} {i : Nat} (hi : env.at i = .sh (iL xs)) : mCall dLen (mCons (mVar i) mNil) env g = some (.int (xs.length : Int), g) := call_e (cons_e (var_e hi) nil_e) iL_len
/-- the end: signs, and what is refused -/
theorem tail_e {t o : D} {c m : List Int} (p : Pair t c) {s7 s8 s9 s10 s11 s12 s13 s14 : SV} {g : Dr} (s8o : s8.notOw = true) : Tr (mSeq (mSet 15 (mC (.str REST)))
    (mSeq (mFor (mRng1 (mCons (mCall dLen (mCons (mVar 15) mNil)) mNil)) (bName 8) lb_law_2)
    (mSeq (mSet 16 (mL (mLst (mCons (mCall F__law_refused (mCons (mC (.str "a\x09")) mNil)) (mCons (mCall F__law_refused (mCons (mL (mLst (mCons (mC (.int 1)) (mCons (mTup (mCons (mC (.str "b")) (mCons (mC (.str "c\x09d")) mNil))) mNil)))) mNil)) (mCons (mCall F__law_refused (mCons mEmp mNil)) (mCons (mCall F__law_refused (mCons (mTup (mCons (mC (.int 1)) (mCons (mL (mLst (mCons mEmp mNil))) mNil))) mNil)) (mCons (mCall F__law_refused (mCons (mVar 2) mNil)) mNil))))))))
    (mRet (mOp dEq (mVar 16) (mL (mLst (mCons (mC (.str "text")) (mCons (mC (.str "text")) (mCons (mC (.str "thing")) (mCons (mC (.str "thing")) (mCons (mC .none) mNil))))))))))))
    (LV t o c m .un s7 s8 s9 s10 s11 s12 s13 s14 .un .un) g := by
  refine tr_seq (set_e rfl) ?_
  change Tr _ (LV t o c m .un s7 s8 s9 s10 s11 s12 s13 s14 (.sh (.str REST)) .un) g
  obtain ⟨e5, g5, h5, ⟨s8', rfl⟩, rfl⟩ := loop_inv (bt := bName 8) (mb := lb_law_2) (fun e g' => (∃ s8, e = LV t o c m .un s7 s8 s9 s10 s11 s12 s13 s14 (.sh (.str REST)) .un) ∧ g' = g) (ds := rng 0 57) (env := LV t o c m .un s7 s8 s9 s10 s11 s12 s13 s14 (.sh (.str REST)) .un) (g := g) ⟨⟨_, rfl⟩, rfl⟩ (by
    rintro x hx e g' ⟨⟨s, rfl⟩, rfl⟩
    obtain ⟨j, hj, rfl⟩ := rng_mem hx
    have hlt : j < rsl.length := by rw [rsl_len]; exact hj
    have hr : rsl[j]? = some rsl[j] := List.getElem?_eq_getElem hlt
    have k0 : mOp dIx (mVar 15) (mVar 8) (LV t o c m .un s7 (.sh (.int (j : Int))) s9 s10 s11 s12 s13 s14 (.sh (.str REST)) .un) g' = some (.str (ch rsl[j]), g') := op_e rfl rfl (rest_at hr)
    have k1 : mOp dAdd (mC (.int 38)) (mVar 8) (LV t o c m .un s7 (.sh (.int (j : Int))) s9 s10 s11 s12 s13 s14 (.sh (.str REST)) .un) g' = some (.int ((38 + j : Nat) : Int), g') := op_e rfl rfl (by show some (PyData.int (38 + (j : Int))) = _; congr 2)
    refine ⟨_, rfl, LV t o c m .un s7 (.sh (.int (j : Int))) s9 s10 s11 s12 s13 s14 (.sh (.str REST)) .un, g', .inl (if_no (or_f (opT_e (L_e (callF_e (cons_e k0 nil_e) (rest_bytes hr))) (L_e (lst_e (xs := [.int 4, .int 1, .int ((38 + j : Nat) : Int)]) (cons_e rfl (cons_e rfl (cons_e k1 nil_e))))) ?_) (opT_e (call_e (cons_e (L_e (lst_e (xs := [.int 4, .int 1, .int ((38 + j : Nat) : Int)]) (cons_e rfl (cons_e rfl (cons_e k1 nil_e))))) nil_e) (rest_of hr)) k0 ?_))), ⟨_, rfl⟩, rfl⟩
    · exact (ne_iL [4, 1, ((38 + j : Nat) : Int)] [4, 1, ((38 + j : Nat) : Int)]).trans (by simp)
    · exact ne_self rfl (by show 0 ≤ 64; decide))
  refine tr_seq (for_e (rng1_e (j := 57) (cons_e (call_e (cons_e rfl nil_e) rfl) nil_e) (by decide)) h5) ?_
  refine tr_seq (set_e (L_e (lst_e (xs := [.str "text", .str "text", .str "thing", .str "thing", .none]) (cons_e (call_e (cons_e rfl nil_e) ref1) (cons_e (call_e (cons_e (L_e (lst_e (cons_e rfl (cons_e (tup_e rfl) nil_e)))) nil_e) ref2) (cons_e (call_e (cons_e rfl nil_e) ref3) (cons_e (call_e (cons_e (tup_e (cons_e rfl (cons_e (L_e (lst_e (cons_e rfl nil_e))) nil_e))) nil_e) ref4) (cons_e (call_e (cons_e rfl nil_e) p.ref) nil_e)))))))) ?_
  exact tr_ret (op_e rfl (L_e (lst_e rfl)) (eq_self rfl (by decide)))
/-- what is none -/
theorem bad_part {t o : D} {c m : List Int} {s7 s8 s9 s10 s11 s12 s13 s14 : SV} {g : Dr} {rest : MS Dr} (h : ∀ s14 g, Tr rest (LV t o c m .un s7 s8 s9 s10 s11 s12 s13 s14 .un .un) g) : Tr (mSeq (mFor (mItL (mL (mLst (mCons (mL (mLst (mCons (mOp dAdd (mC (.int 7)) (mCallG drawA (gConsS 1 (gCons (mC (.int 200)) gNil)))) mNil))) (mCons (mL (mLst (mCons (mC (.int 3)) mNil))) (mCons (mL (mLst (mCons (mC (.int 4)) (mCons (mC (.int 1)) mNil)))) (mCons (mL (mLst (mCons (mC (.int 4)) (mCons (mC (.int 1)) (mCons (mC (.int 95)) mNil))))) (mCons (mL (mLst (mCons (mC (.int 5)) (mCons (mC (.int 1)) mNil)))) (mCons (mL (mLst (mCons (mC (.int 6)) (mCons (mC (.int 128)) (mCons (mC (.int 0)) mNil))))) (mCons (mL (mLst (mCons (mC (.int 3)) (mCons (mC (.int 128)) (mCons (mC (.int 0)) mNil))))) mNil)))))))))) (bName 14) lb_law_1) rest)
    (LV t o c m .un s7 s8 s9 s10 s11 s12 s13 s14 .un .un) g := by
  obtain ⟨b, g1, e1, b0, b1⟩ := drawn g 1 (m := 200) (by decide) (me := mC (.int 200)) (e := LV t o c m .un s7 s8 s9 s10 s11 s12 s13 s14 .un .un) rfl rfl
  obtain ⟨e5, g5, h5, ⟨s14', rfl⟩, rfl⟩ := loop_inv (bt := bName 14) (mb := lb_law_1) (fun e g' => (∃ s14, e = LV t o c m .un s7 s8 s9 s10 s11 s12 s13 s14 .un .un) ∧ g' = g1) (ds := [iL [7 + b], iL [3], iL [4, 1], iL [4, 1, 95], iL [5, 1], iL [6, 128, 0], iL [3, 128, 0]]) (env := LV t o c m .un s7 s8 s9 s10 s11 s12 s13 s14 .un .un) (g := g1) ⟨⟨_, rfl⟩, rfl⟩ (by
    rintro x hx e g' ⟨⟨s, rfl⟩, rfl⟩
    have h := bad_e b0 hx
    refine ⟨_, rfl, LV t o c m .un s7 s8 s9 s10 s11 s12 s13 (.sh x) .un .un, g', .inl (if_no (opT_e (x := .none) (call_e (cons_e rfl (cons_e rfl nil_e)) ?_) rfl ?_)), ⟨_, rfl⟩, rfl⟩
    · exact h
    · rfl)
  refine tr_seq (for_e (itL_e (L_e (lst_e (cons_e (L_e (lst_e (cons_e (op_e rfl e1 rfl) nil_e))) rfl)))) h5) ?_
  exact h _ _
/-- the numbers -/
theorem num_part {t o : D} {c m : List Int} {ah : List Int} (hl : ah.length ≤ 3) {s8 s9 s10 s11 s14 : SV} {g : Dr} {rest : MS Dr} (h : ∀ s10 s12 s13 g, Tr rest (LV t o c m .un (.sh (iL ah)) s8 s9 s10 s11 s12 s13 s14 .un .un) g) :
    Tr (mSeq (mSet 12 (mCall dAbs (mCons (mCallG F__law_whole (gConsS 1 gNil)) mNil)))
    (mSeq (mSet 13 (mCall F_number_bytes (mCons (mVar 12) mNil)))
    (mSeq (mIfS (mOr (mOpT dNe (mVar 13) (mCall F__law_number (mCons (mVar 12) mNil))) (mOr (mOpT dNe (mCall F_read_number (mCons (mL (mCat (mOp dAdd (mVar 7) (mVar 13)) (mL (mLst (mCons (mC (.int 5)) mNil))))) (mCons (mCall dLen (mCons (mVar 7) mNil)) mNil))) (mTup (mCons (mVar 12) (mCons (mOp dAdd (mCall dLen (mCons (mVar 7) mNil)) (mCall dLen (mCons (mVar 13) mNil))) mNil)))) (mOpT dIsNot (mCall F_read_number (mCons (mL (mSlL (mVar 13) mNo (mPart (mUn dNeg (mC (.int 1)))))) (mCons (mC (.int 0)) mNil))) (mC .none))))
    (mRet (mC (.bool false)))
    mSkip)
    (mSeq (mIfS (mOr (mOpT dIsNot (mCall F_read_number (mCons (mL (mCat (mL (mComp (mItL (mVar 13)) [6] (bName 6) mYes (mIf (mOpT dLtI (mVar 6) (mC (.int 128))) (mOp dAdd (mVar 6) (mC (.int 128))) (mVar 6)))) (mL (mLst (mCons (mC (.int 0)) mNil))))) (mCons (mC (.int 0)) mNil))) (mC .none)) (mOpT dIsNot (mCall F_read_number (mCons (mL (mLst mNil)) (mCons (mC (.int 0)) mNil))) (mC .none)))
    (mRet (mC (.bool false)))
    mSkip)
    (mSeq (mSet 10 (mCallG F__law_whole (gConsS 1 gNil)))
    (mSeq (mIfS (mOr (mOpT dNe (mCall F_signed_bytes (mCons (mVar 10) mNil)) (mCall F__law_number (mCons (mIf (mOpT dGeI (mVar 10) (mC (.int 0))) (mOp dMul (mC (.int 2)) (mVar 10)) (mOp dSub (mOp dSub (mC (.int 0)) (mOp dMul (mC (.int 2)) (mVar 10))) (mC (.int 1)))) mNil))) (mOpT dNe (mCall F_read_signed (mCons (mL (mCat (mCall F_signed_bytes (mCons (mVar 10) mNil)) (mL (mLst (mCons (mC (.int 1)) mNil))))) (mCons (mC (.int 0)) mNil))) (mTup (mCons (mVar 10) (mCons (mCall dLen (mCons (mCall F_signed_bytes (mCons (mVar 10) mNil)) mNil)) mNil)))))
    (mRet (mC (.bool false)))
    mSkip)
    rest)))))) (LV t o c m .un (.sh (iL ah)) s8 s9 s10 s11 .un .un s14 .un .un) g := by
  obtain ⟨i, g1, e1, hi⟩ := whole_ev g
  obtain ⟨j, g2, e2, hj⟩ := whole_ev g1
  have hi2 : i.natAbs < 128 ^ 9 := Nat.lt_trans hi (by decide)
  have hj2 : j.natAbs < 2 ^ 50 := Nat.lt_trans hj (by decide)
  have hn := nb_len hi2
  have hz := nb_len (zg_lt hj2)
  have ea : dAbs [.int i] = some (.int (i.natAbs : Int)) := by
    show some (PyData.int (if i < 0 then -i else i)) = _
    congr 2
    split <;> omega
  refine tr_seq (set_e (call_e (cons_e (callG_e rfl e1) nil_e) ea)) ?_
  refine tr_seq (set_e (call_e (cons_e rfl nil_e) (number_bytes_e hi2))) ?_
  change Tr _ (LV t o c m .un (.sh (iL ah)) s8 s9 s10 s11 (.sh (.int (i.natAbs : Int))) (.sh (iL (nb i.natAbs))) s14 .un .un) g1
  have rb : mCall F_read_number (mCons (mL (mCat (mOp dAdd (mVar 7) (mVar 13)) (mL (mLst (mCons (mC (.int 5)) mNil))))) (mCons (mCall dLen (mCons (mVar 7) mNil)) mNil)) (LV t o c m .un (.sh (iL ah)) s8 s9 s10 s11 (.sh (.int (i.natAbs : Int))) (.sh (iL (nb i.natAbs))) s14 .un .un) g1 = some (.tuple [.int (i.natAbs : Int), .int ((ah.length + (nb i.natAbs).length : Nat) : Int)], g1) :=
    call_e (cons_e (cat_i (ys := [5]) (add2 rfl rfl (small_add (by omega) (by omega))) (L_e (lst_e rfl)) (small_add (by rw [List.length_append]; omega) (by decide))) (cons_e (lens rfl) nil_e)) (read_back hi2 hl)
  have rh : mCall F_read_number (mCons (mL (mCat (mL (mComp (mItL (mVar 13)) [6] (bName 6) mYes (mIf (mOpT dLtI (mVar 6) (mC (.int 128))) (mOp dAdd (mVar 6) (mC (.int 128))) (mVar 6)))) (mL (mLst (mCons (mC (.int 0)) mNil))))) (mCons (mC (.int 0)) mNil)) (LV t o c m .un (.sh (iL ah)) s8 s9 s10 s11 (.sh (.int (i.natAbs : Int))) (.sh (iL (nb i.natAbs))) s14 .un .un) g1 = some (.none, g1) := by
    refine call_e (cons_e (cat_i (xs := (nb i.natAbs).map fun b => if b < 128 then b + 128 else b) (ys := [0]) (L_e ((comp_e (ds := (nb i.natAbs).map .int) (itL_e rfl) rfl (compL_mm PyData.int (fun b => PyData.int (if b < 128 then b + 128 else b)) fun b hb => ⟨_, rfl, ?_⟩)).trans ?_)) (L_e (lst_e rfl)) (small_add (by rw [List.length_map]; omega) (by decide))) (cons_e rfl nil_e)) (read_high hi2)
    · by_cases y : b < 128
      · rw [if_pos y]; exact mif_t (opT_e rfl rfl (lt_t y)) (op_e rfl rfl rfl)
      · rw [if_neg y]; exact mif_f (opT_e rfl rfl (lt_f y)) rfl
    · rw [List.map_map]; rfl
  refine tr_seq (g1 := g1) (if_no (or_f (opT_e rfl (call_e (cons_e rfl nil_e) (law_number_e hi2)) ((ne_iL _ _).trans (by simp))) (or_f (opT_e rb (tup_e (cons_e rfl (cons_e (op_e (lens rfl) (lens rfl) rfl) nil_e))) ?_) (opT_e (x := .none) (call_e (cons_e (last_e rfl) (cons_e rfl nil_e)) (read_last hi2)) rfl rfl)))) ?_
  · rw [show ((ah.length + (nb i.natAbs).length : Nat) : Int) = (ah.length : Int) + ((nb i.natAbs).length : Int) by omega]
    exact ne_self rfl (by show 1 ≤ 64; decide)
  refine tr_seq (g1 := g1) (if_no (or_f (opT_e (x := .none) rh rfl rfl) (opT_e (x := .none) (call_e (cons_e (L_e (lst_e rfl)) (cons_e rfl nil_e)) read_empty) rfl rfl))) ?_
  refine tr_seq (set_e (callG_e rfl e2)) ?_
  change Tr _ (LV t o c m .un (.sh (iL ah)) s8 s9 (.sh (.int j)) s11 (.sh (.int (i.natAbs : Int))) (.sh (iL (nb i.natAbs))) s14 .un .un) g2
  have sb : ∀ {G : Dr}, mCall F_signed_bytes (mCons (mVar 10) mNil) (LV t o c m .un (.sh (iL ah)) s8 s9 (.sh (.int j)) s11 (.sh (.int (i.natAbs : Int))) (.sh (iL (nb i.natAbs))) s14 .un .un) G = some (iL (nb (zg j)), G) := call_e (cons_e rfl nil_e) (signed_bytes_e hj2)
  have rsb : mCall F_read_signed (mCons (mL (mCat (mCall F_signed_bytes (mCons (mVar 10) mNil)) (mL (mLst (mCons (mC (.int 1)) mNil))))) (mCons (mC (.int 0)) mNil)) (LV t o c m .un (.sh (iL ah)) s8 s9 (.sh (.int j)) s11 (.sh (.int (i.natAbs : Int))) (.sh (iL (nb i.natAbs))) s14 .un .un) g2 = some (.tuple [.int j, .int ((nb (zg j)).length : Int)], g2) :=
    call_e (cons_e (cat_i (ys := [1]) sb (L_e (lst_e rfl)) (small_add (by omega) (by decide))) (cons_e rfl nil_e)) (read_sback hj2)
  refine tr_seq (g1 := g2) (if_no (or_f (opT_e sb (call_e (cons_e (zgm_e rfl) nil_e) (law_number_e (zg_lt hj2))) ((ne_iL _ _).trans (by simp))) (opT_e rsb (tup_e (cons_e rfl (cons_e (call_e (cons_e sb nil_e) iL_len) nil_e))) (ne_self rfl (by show 1 ≤ 64; decide))))) ?_
  exact h _ _ _ _
theorem law_true (g : Dr) : ∃ e g1, m_law (lawE n_law.length 1) g = some (.re (.bool true), e, g1) := by
  show Tr m_law (lawE n_law.length 1) g
  obtain ⟨t, g1, c, e1, p⟩ := pair_ev g
  obtain ⟨o, g2, m, e2, q⟩ := pair_ev g1
  have hc := p.z
  have hm := q.z
  have hc1 := p.k.l
  refine tr_seq (par_e (cons_e (callG_e rfl e1) (cons_e (callG_e rfl e2) nil_e))) ?_
  refine tr_seq (par_e (cons_e (L_e (callF_e (cons_e rfl nil_e) p.bytes)) (cons_e (L_e (callF_e (cons_e rfl nil_e) q.bytes)) nil_e))) ?_
  change Tr _ (LV t o c m .un .un .un .un .un .un .un .un .un .un .un) g2
  refine tr_seq (g1 := g2) (if_no (or_f (opT_e rfl (call_e (cons_e rfl nil_e) p.law) ((ne_iL _ _).trans (by simp))) (or_f (opT_e rfl (call_e (cons_e rfl nil_e) q.law) ((ne_iL _ _).trans (by simp))) (opT_e (call_e (cons_e (L_e (xs := []) (comp_e (ds := c.map .int) (itL_e rfl) rfl ((compL_filter PyData.int PyData.int (fun _ => false) fun b hb => ⟨_, rfl, ?_, rfl⟩).trans ?_))) nil_e) rfl) rfl (gt_f (by decide)))))) ?_
  · have := p.k.b b hb
    exact not_e (b := true) (chain_t rfl rfl (le_t this.1) rfl (lt_t this.2))
  · rw [List.filter_eq_nil_iff.mpr (fun _ _ z => by cases z)]; rfl
  -- ahead
  obtain ⟨n, g3, e3, n0, n1⟩ := drawn g2 1 (m := 4) (by decide) (me := mC (.int 4)) (e := LV t o c m .un .un .un .un .un .un .un .un .un .un .un) rfl rfl
  obtain ⟨xs, g4, e4, hl, hx⟩ := compL_ex (bt := bName 8) (me := mCallG drawA (gConsS 1 (gCons (mC (.int 256)) gNil))) (env := Pd.Env.wipe (LV t o c m .un .un .un .un .un .un .un .un .un .un .un) [8]) (fun d => ∃ b : Int, d = .int b ∧ 0 ≤ b) (ds := rng 0 n.toNat) (g := g3) (fun d _ g => by
    obtain ⟨b, g3, e, b0, b1⟩ := drawn g 1 (m := 256) (by decide) (me := mC (.int 256)) (e := LV t o c m .un .un (.sh d) .un .un .un .un .un .un .un .un) rfl rfl
    exact ⟨_, rfl, _, g3, e, b, rfl, b0⟩)
  obtain ⟨ah, rfl, hah⟩ := map_of hx
  rw [rng_len, List.length_map] at hl
  have hl3 : ah.length ≤ 3 := by omega
  refine tr_seq (then_e (setF_e (comp_e (rng1_e (cons_e e3 nil_e) (by omega)) rfl e4))) ?_
  change Tr _ (LV t o c m .un (.sh (iL ah)) .un .un .un .un .un .un .un .un .un) g4
  -- read back
  refine tr_seq (set_e (call_e (cons_e (op_e (y := iL m) (op_e rfl rfl (add_iL (small_add (by omega) (by omega)))) rfl (add_iL (small_add (by rw [List.length_append]; omega) (by omega)))) (cons_e (call_e (cons_e rfl nil_e) iL_len) nil_e)) (p.read q hah hl3))) ?_
  change Tr _ (LV t o c m .un (.sh (iL ah)) .un (.sh (.tuple [t, .int ((ah.length + c.length : Nat) : Int)])) .un .un .un .un .un .un .un) g4
  refine tr_seq (if_no (or_f (opT_e rfl rfl rfl) (or_f (opT_e (op_e rfl rfl rfl) (op_e (call_e (cons_e rfl nil_e) iL_len) (call_e (cons_e rfl nil_e) iL_len) rfl) (neq_f (by omega))) (or_f (not_e (b := true) (tru_e (call_e (cons_e (op_e rfl rfl rfl) (cons_e rfl nil_e)) p.same) rfl)) (not_e (b := true) (tru_e (call_e (cons_e (call_e (cons_e (op_e rfl rfl (add_iL (small_add (by omega) (by omega)))) nil_e) (p.of q)) (cons_e rfl nil_e)) p.same) rfl)))))) ?_
  refine tr_seq (set_e (call_e (cons_e rfl nil_e) p.whole)) ?_
  change Tr _ (LV t o c m .un (.sh (iL ah)) .un (.sh (.tuple [t, .int ((ah.length + c.length : Nat) : Int)])) (.sh (.tuple [t])) .un .un .un .un .un .un) g4
  refine tr_seq (if_no (or_f (opT_e rfl rfl rfl) (or_f (not_e (b := true) (tru_e (call_e (cons_e (op_e rfl rfl rfl) (cons_e rfl nil_e)) p.same) rfl)) (opT_e (x := .none) (call_e (cons_e (op_e rfl rfl (add_iL (small_add (by omega) (by omega)))) nil_e) (p.long q)) rfl rfl)))) ?_
  -- cut
  obtain ⟨k, g5, e5, k0, k1⟩ := drawn g4 1 (m := (c.length : Int)) (by omega) (me := mCall dLen (mCons (mVar 4) mNil)) (e := LV t o c m .un (.sh (iL ah)) .un (.sh (.tuple [t, .int ((ah.length + c.length : Nat) : Int)])) (.sh (.tuple [t])) .un .un .un .un .un .un) rfl (call_e (cons_e rfl nil_e) iL_len)
  obtain ⟨k, rfl⟩ := Int.eq_ofNat_of_zero_le k0
  have hk : k < c.length := by omega
  refine tr_seq (set_e e5) ?_
  change Tr _ (LV t o c m .un (.sh (iL ah)) .un (.sh (.tuple [t, .int ((ah.length + c.length : Nat) : Int)])) (.sh (.tuple [t])) (.sh (.int (k : Int))) .un .un .un .un .un) g5
  refine tr_seq (if_no (or_f (opT_e (x := .none) (call_e (cons_e (sl_e rfl rfl) (cons_e rfl nil_e)) (p.cutR hk)) rfl rfl) (or_f (opT_e (x := .none) (call_e (cons_e (sl_e rfl rfl) nil_e) (p.cutW hk)) rfl rfl) (opT_e (call_e (cons_e (sl_e rfl rfl) nil_e) (p.cutN hk)) rfl (ne_self rfl (by show 0 ≤ 64; decide)))))) ?_
  -- no beginning
  refine tr_seq (g1 := g5) (if_no (mt := mAnd _ _) ?_) ?_
  · by_cases y : c.take m.length = m
    · have := p.uni q y
      subst this
      exact and_t (opT_e (sl_e rfl (call_e (cons_e rfl nil_e) iL_len)) rfl ((eq_iL _ _).trans (by rw [decide_eq_true y]))) (not_e (b := true) (tru_e (call_e (cons_e rfl (cons_e rfl nil_e)) p.same) rfl))
    · exact and_f (opT_e (sl_e rfl (call_e (cons_e rfl nil_e) iL_len)) rfl ((eq_iL _ _).trans (by rw [decide_eq_false y])))
  exact num_part hl3 fun s10 s12 s13 g => bad_part fun s14 g => tail_e p rfl
end K50

namespace K50
open PySem PySem.Spec L2 Pd
section
variable {P : Program} {wd : World} {K : PySem.W.Frag} {mg : Str → Option Value} {base : Heap}
theorem ok_law {f : Addr} {fd : FuncData} (F : Fun K "law" "law" s_law f fd) (T : Txt P K mg) : FnOk P wd K mg base CX0 11 f fd ["script"] (spLaw K) := by
  refine F.ok sc_law (fun vs H Q E h => ?_) (fun cdv A outer s H vs Q E hr h => ?_)
  · obtain ⟨a, ns, rfl, _⟩ := h
    rfl
  · obtain ⟨a, ns, rfl, hS, hl, kk⟩ := h
    obtain ⟨f1, fd1, F1, hm, hk, hB⟩ := (ok__law_state T).ex
    refine ⟨_, pss_cons (ps_set (i := 1) sc_law.nd rfl (by first | exact Or.inl rfl | exact Or.inr rfl) (pe_call F1 (hr.mono (by decide)) rfl hm hk hB .nil pass0 (pa_cons (pv 0) pa_nil))) (body_law T f cdv A outer s H E hr), ?_⟩
    exact ⟨_, rfl, a, ns, rfl, hS, hl, fun g H' _ _ ok _ => law_start (N := n_law.length) (i := 1) rfl rfl ok (law_true g) fun H' => kk H'⟩
end
theorem all_mk {l : PySem.W.OpenLaw} {w : World} {K : PySem.W.Frag} {h : Heap} {mg : Str → Option Value} {fa : Addr} (X : K.In h) (G : h.Ns mainGlobals mg) (hfa : mg "law" = some (.ref fa))
    {tk0 : Tok}
    {tk1 : Tok}
    {tk2 : Tok}
    {tk3 : Tok}
    {tk4 : Tok}
    {tk5 : Tok}
    {tk6 : Tok}
    {tk7 : Tok}
    {f0 : Addr} {od0 an0 : Option Addr} {sl0 : Array (Option Value)} {oc0 kV0 dc0 pm0 cd0 ct0 : Value}
    {f1 : Addr} {od1 an1 : Option Addr} {sl1 : Array (Option Value)} {oc1 kV1 dc1 pm1 cd1 ct1 : Value}
    {f2 : Addr} {od2 an2 : Option Addr} {sl2 : Array (Option Value)} {oc2 kV2 dc2 pm2 cd2 ct2 : Value}
    {f3 : Addr} {od3 an3 : Option Addr} {sl3 : Array (Option Value)} {oc3 kV3 dc3 pm3 cd3 ct3 : Value}
    {f4 : Addr} {od4 an4 : Option Addr} {sl4 : Array (Option Value)} {oc4 kV4 dc4 pm4 cd4 ct4 : Value}
    {f5 : Addr} {od5 an5 : Option Addr} {sl5 : Array (Option Value)} {oc5 kV5 dc5 pm5 cd5 ct5 : Value}
    {f6 : Addr} {od6 an6 : Option Addr} {sl6 : Array (Option Value)} {oc6 kV6 dc6 pm6 cd6 ct6 : Value}
    {f7 : Addr} {od7 an7 : Option Addr} {sl7 : Array (Option Value)} {oc7 kV7 dc7 pm7 cd7 ct7 : Value}
    {f8 : Addr} {od8 an8 : Option Addr} {sl8 : Array (Option Value)} {oc8 kV8 dc8 pm8 cd8 ct8 : Value}
    {f9 : Addr} {od9 an9 : Option Addr} {sl9 : Array (Option Value)} {oc9 kV9 dc9 pm9 cd9 ct9 : Value}
    {f10 : Addr} {od10 an10 : Option Addr} {sl10 : Array (Option Value)} {oc10 kV10 dc10 pm10 cd10 ct10 : Value}
    {f11 : Addr} {od11 an11 : Option Addr} {sl11 : Array (Option Value)} {oc11 kV11 dc11 pm11 cd11 ct11 : Value}
    {f12 : Addr} {od12 an12 : Option Addr} {sl12 : Array (Option Value)} {oc12 kV12 dc12 pm12 cd12 ct12 : Value}
    {f13 : Addr} {od13 an13 : Option Addr} {sl13 : Array (Option Value)} {oc13 kV13 dc13 pm13 cd13 ct13 : Value}
    {f14 : Addr} {od14 an14 : Option Addr} {sl14 : Array (Option Value)} {oc14 kV14 dc14 pm14 cd14 ct14 : Value}
    {f15 : Addr} {od15 an15 : Option Addr} {sl15 : Array (Option Value)} {oc15 kV15 dc15 pm15 cd15 ct15 : Value}
    {f16 : Addr} {od16 an16 : Option Addr} {sl16 : Array (Option Value)} {oc16 kV16 dc16 pm16 cd16 ct16 : Value}
    {f17 : Addr} {od17 an17 : Option Addr} {sl17 : Array (Option Value)} {oc17 kV17 dc17 pm17 cd17 ct17 : Value}
    {f18 : Addr} {od18 an18 : Option Addr} {sl18 : Array (Option Value)} {oc18 kV18 dc18 pm18 cd18 ct18 : Value}
    {f19 : Addr} {od19 an19 : Option Addr} {sl19 : Array (Option Value)} {oc19 kV19 dc19 pm19 cd19 ct19 : Value}
    {f20 : Addr} {od20 an20 : Option Addr} {sl20 : Array (Option Value)} {oc20 kV20 dc20 pm20 cd20 ct20 : Value}
    {C_0 fx_0 cx_0 cda_0 N_0 : Addr} {nm_0 qq_0 fi_0 : Str} {bs_0 bm_0 sub_0 : List Value} {sn_0 : List Str} {ab_0 : Bool} {col_0 : Option Bool} {dd_0 odx_0 cld_0 cdd_0 : Option Addr} {m0_0 m1_0 m2_0 m3_0 m5_0 : Option Value} {osl_0 csl_0 ccs_0 : Array (Option Value)} {ocx_0 dcx_0 pmx_0 ctx_0 cl_0 ccl_0 : Value} {vs_0 : Array Value} {tf_0 : Tok}
    (e0 : PySem.W.nsIn K mainGlobals "FALSE" = some (some (.int 1 tk0)))
    (e1 : PySem.W.nsIn K mainGlobals "LIST" = some (some (.int 6 tk1)))
    (e2 : PySem.W.nsIn K mainGlobals "NONE" = some (some (.int 0 tk2)))
    (e3 : PySem.W.nsIn K mainGlobals "NUMBER" = some (some (.int 3 tk3)))
    (e4 : PySem.W.nsIn K mainGlobals "SIGNS" = some (some (.str " 0123456789_abcdefghijklmnopqrstuvwxyz'(),.*+-=<>\x0a!\"#$&/:;?@ABCDEFGHIJKLMNOPQRSTUVWXYZ[\\]^`{|}~" tk4)))
    (e5 : PySem.W.nsIn K mainGlobals "TEXT" = some (some (.int 4 tk5)))
    (e6 : PySem.W.nsIn K mainGlobals "TRUE" = some (some (.int 2 tk6)))
    (e7 : PySem.W.nsIn K mainGlobals "TUPLE" = some (some (.int 5 tk7)))
    (a0 : PySem.W.nsIn K mainGlobals "number_bytes" = some (some (.ref f0))) (l0 : K.lookup f0 = some ⟨oc0, od0, .func (PySem.W.fnOf "number_bytes" "number_bytes" (defArgs s_number_bytes) (defBody s_number_bytes) (defScope s_number_bytes) .none kV0 dc0 pm0 an0 cd0 ct0), sl0⟩) (c0 : PySem.W.codeIn K cd0 "number_bytes" = true) (k0 : PySem.W.keepIn K (.ref f0) = true)
    (a1 : PySem.W.nsIn K mainGlobals "read_number" = some (some (.ref f1))) (l1 : K.lookup f1 = some ⟨oc1, od1, .func (PySem.W.fnOf "read_number" "read_number" (defArgs s_read_number) (defBody s_read_number) (defScope s_read_number) .none kV1 dc1 pm1 an1 cd1 ct1), sl1⟩) (c1 : PySem.W.codeIn K cd1 "read_number" = true) (k1 : PySem.W.keepIn K (.ref f1) = true)
    (a2 : PySem.W.nsIn K mainGlobals "signed_bytes" = some (some (.ref f2))) (l2 : K.lookup f2 = some ⟨oc2, od2, .func (PySem.W.fnOf "signed_bytes" "signed_bytes" (defArgs s_signed_bytes) (defBody s_signed_bytes) (defScope s_signed_bytes) .none kV2 dc2 pm2 an2 cd2 ct2), sl2⟩) (c2 : PySem.W.codeIn K cd2 "signed_bytes" = true) (k2 : PySem.W.keepIn K (.ref f2) = true)
    (a3 : PySem.W.nsIn K mainGlobals "read_signed" = some (some (.ref f3))) (l3 : K.lookup f3 = some ⟨oc3, od3, .func (PySem.W.fnOf "read_signed" "read_signed" (defArgs s_read_signed) (defBody s_read_signed) (defScope s_read_signed) .none kV3 dc3 pm3 an3 cd3 ct3), sl3⟩) (c3 : PySem.W.codeIn K cd3 "read_signed" = true) (k3 : PySem.W.keepIn K (.ref f3) = true)
    (a4 : PySem.W.nsIn K mainGlobals "text_bytes" = some (some (.ref f4))) (l4 : K.lookup f4 = some ⟨oc4, od4, .func (PySem.W.fnOf "text_bytes" "text_bytes" (defArgs s_text_bytes) (defBody s_text_bytes) (defScope s_text_bytes) .none kV4 dc4 pm4 an4 cd4 ct4), sl4⟩) (c4 : PySem.W.codeIn K cd4 "text_bytes" = true) (k4 : PySem.W.keepIn K (.ref f4) = true)
    (a5 : PySem.W.nsIn K mainGlobals "read_text" = some (some (.ref f5))) (l5 : K.lookup f5 = some ⟨oc5, od5, .func (PySem.W.fnOf "read_text" "read_text" (defArgs s_read_text) (defBody s_read_text) (defScope s_read_text) .none kV5 dc5 pm5 an5 cd5 ct5), sl5⟩) (c5 : PySem.W.codeIn K cd5 "read_text" = true) (k5 : PySem.W.keepIn K (.ref f5) = true)
    (a6 : PySem.W.nsIn K mainGlobals "bytes_of" = some (some (.ref f6))) (l6 : K.lookup f6 = some ⟨oc6, od6, .func (PySem.W.fnOf "bytes_of" "bytes_of" (defArgs s_bytes_of) (defBody s_bytes_of) (defScope s_bytes_of) .none kV6 dc6 pm6 an6 cd6 ct6), sl6⟩) (c6 : PySem.W.codeIn K cd6 "bytes_of" = true) (k6 : PySem.W.keepIn K (.ref f6) = true)
    (a7 : PySem.W.nsIn K mainGlobals "read_thing" = some (some (.ref f7))) (l7 : K.lookup f7 = some ⟨oc7, od7, .func (PySem.W.fnOf "read_thing" "read_thing" (defArgs s_read_thing) (defBody s_read_thing) (defScope s_read_thing) .none kV7 dc7 pm7 an7 cd7 ct7), sl7⟩) (c7 : PySem.W.codeIn K cd7 "read_thing" = true) (k7 : PySem.W.keepIn K (.ref f7) = true)
    (a8 : PySem.W.nsIn K mainGlobals "whole_thing" = some (some (.ref f8))) (l8 : K.lookup f8 = some ⟨oc8, od8, .func (PySem.W.fnOf "whole_thing" "whole_thing" (defArgs s_whole_thing) (defBody s_whole_thing) (defScope s_whole_thing) .none kV8 dc8 pm8 an8 cd8 ct8), sl8⟩) (c8 : PySem.W.codeIn K cd8 "whole_thing" = true) (k8 : PySem.W.keepIn K (.ref f8) = true)
    (a9 : PySem.W.nsIn K mainGlobals "thing_of" = some (some (.ref f9))) (l9 : K.lookup f9 = some ⟨oc9, od9, .func (PySem.W.fnOf "thing_of" "thing_of" (defArgs s_thing_of) (defBody s_thing_of) (defScope s_thing_of) .none kV9 dc9 pm9 an9 cd9 ct9), sl9⟩) (c9 : PySem.W.codeIn K cd9 "thing_of" = true) (k9 : PySem.W.keepIn K (.ref f9) = true)
    (a10 : PySem.W.nsIn K mainGlobals "_law_state" = some (some (.ref f10))) (l10 : K.lookup f10 = some ⟨oc10, od10, .func (PySem.W.fnOf "_law_state" "_law_state" (defArgs s__law_state) (defBody s__law_state) (defScope s__law_state) .none kV10 dc10 pm10 an10 cd10 ct10), sl10⟩) (c10 : PySem.W.codeIn K cd10 "_law_state" = true) (k10 : PySem.W.keepIn K (.ref f10) = true)
    (a11 : PySem.W.nsIn K mainGlobals "_law_take" = some (some (.ref f11))) (l11 : K.lookup f11 = some ⟨oc11, od11, .func (PySem.W.fnOf "_law_take" "_law_take" (defArgs s__law_take) (defBody s__law_take) (defScope s__law_take) .none kV11 dc11 pm11 an11 cd11 ct11), sl11⟩) (c11 : PySem.W.codeIn K cd11 "_law_take" = true) (k11 : PySem.W.keepIn K (.ref f11) = true)
    (a12 : PySem.W.nsIn K mainGlobals "_law_number" = some (some (.ref f12))) (l12 : K.lookup f12 = some ⟨oc12, od12, .func (PySem.W.fnOf "_law_number" "_law_number" (defArgs s__law_number) (defBody s__law_number) (defScope s__law_number) .none kV12 dc12 pm12 an12 cd12 ct12), sl12⟩) (c12 : PySem.W.codeIn K cd12 "_law_number" = true) (k12 : PySem.W.keepIn K (.ref f12) = true)
    (a13 : PySem.W.nsIn K mainGlobals "_law_bytes" = some (some (.ref f13))) (l13 : K.lookup f13 = some ⟨oc13, od13, .func (PySem.W.fnOf "_law_bytes" "_law_bytes" (defArgs s__law_bytes) (defBody s__law_bytes) (defScope s__law_bytes) .none kV13 dc13 pm13 an13 cd13 ct13), sl13⟩) (c13 : PySem.W.codeIn K cd13 "_law_bytes" = true) (k13 : PySem.W.keepIn K (.ref f13) = true)
    (a14 : PySem.W.nsIn K mainGlobals "_law_text" = some (some (.ref f14))) (l14 : K.lookup f14 = some ⟨oc14, od14, .func (PySem.W.fnOf "_law_text" "_law_text" (defArgs s__law_text) (defBody s__law_text) (defScope s__law_text) .none kV14 dc14 pm14 an14 cd14 ct14), sl14⟩) (c14 : PySem.W.codeIn K cd14 "_law_text" = true) (k14 : PySem.W.keepIn K (.ref f14) = true)
    (a15 : PySem.W.nsIn K mainGlobals "_law_whole" = some (some (.ref f15))) (l15 : K.lookup f15 = some ⟨oc15, od15, .func (PySem.W.fnOf "_law_whole" "_law_whole" (defArgs s__law_whole) (defBody s__law_whole) (defScope s__law_whole) .none kV15 dc15 pm15 an15 cd15 ct15), sl15⟩) (c15 : PySem.W.codeIn K cd15 "_law_whole" = true) (k15 : PySem.W.keepIn K (.ref f15) = true)
    (a16 : PySem.W.nsIn K mainGlobals "_law_thing" = some (some (.ref f16))) (l16 : K.lookup f16 = some ⟨oc16, od16, .func (PySem.W.fnOf "_law_thing" "_law_thing" (defArgs s__law_thing) (defBody s__law_thing) (defScope s__law_thing) .none kV16 dc16 pm16 an16 cd16 ct16), sl16⟩) (c16 : PySem.W.codeIn K cd16 "_law_thing" = true) (k16 : PySem.W.keepIn K (.ref f16) = true)
    (a17 : PySem.W.nsIn K mainGlobals "_law_same" = some (some (.ref f17))) (l17 : K.lookup f17 = some ⟨oc17, od17, .func (PySem.W.fnOf "_law_same" "_law_same" (defArgs s__law_same) (defBody s__law_same) (defScope s__law_same) .none kV17 dc17 pm17 an17 cd17 ct17), sl17⟩) (c17 : PySem.W.codeIn K cd17 "_law_same" = true) (k17 : PySem.W.keepIn K (.ref f17) = true)
    (a18 : PySem.W.nsIn K mainGlobals "_law_refused" = some (some (.ref f18))) (l18 : K.lookup f18 = some ⟨oc18, od18, .func (PySem.W.fnOf "_law_refused" "_law_refused" (defArgs s__law_refused) (defBody s__law_refused) (defScope s__law_refused) .none kV18 dc18 pm18 an18 cd18 ct18), sl18⟩) (c18 : PySem.W.codeIn K cd18 "_law_refused" = true) (k18 : PySem.W.keepIn K (.ref f18) = true)
    (a19 : PySem.W.nsIn K mainGlobals "_law_none" = some (some (.ref f19))) (l19 : K.lookup f19 = some ⟨oc19, od19, .func (PySem.W.fnOf "_law_none" "_law_none" (defArgs s__law_none) (defBody s__law_none) (defScope s__law_none) .none kV19 dc19 pm19 an19 cd19 ct19), sl19⟩) (c19 : PySem.W.codeIn K cd19 "_law_none" = true) (k19 : PySem.W.keepIn K (.ref f19) = true)
    (a20 : PySem.W.nsIn K mainGlobals "law" = some (some (.ref f20))) (l20 : K.lookup f20 = some ⟨oc20, od20, .func (PySem.W.fnOf "law" "law" (defArgs s_law) (defBody s_law) (defScope s_law) .none kV20 dc20 pm20 an20 cd20 ct20), sl20⟩) (c20 : PySem.W.codeIn K cd20 "law" = true) (k20 : PySem.W.keepIn K (.ref f20) = true)
    (z0 : PySem.W.nsIn K mainGlobals "abs" = some none)
    (z1 : PySem.W.nsIn K mainGlobals "all" = some none)
    (z2 : PySem.W.nsIn K mainGlobals "bool" = some none)
    (z3 : PySem.W.nsIn K mainGlobals "int" = some none)
    (z4 : PySem.W.nsIn K mainGlobals "isinstance" = some none)
    (z5 : PySem.W.nsIn K mainGlobals "len" = some none)
    (z6 : PySem.W.nsIn K mainGlobals "list" = some none)
    (z7 : PySem.W.nsIn K mainGlobals "range" = some none)
    (z8 : PySem.W.nsIn K mainGlobals "str" = some none)
    (z9 : PySem.W.nsIn K mainGlobals "tuple" = some none)
    (aC_0 : PySem.W.nsIn K mainGlobals "ShapeError" = some (some (.ref C_0))) (xL_0 : K.lookup C_0 = some (excClassObj nm_0 qq_0 C_0 N_0 bs_0 bm_0 true sn_0 sub_0 ab_0 col_0 dd_0 m0_0 m1_0 m2_0 m3_0 m5_0 "ValueError.__new__")) (rv_0 : PySem.HandSPX.refsVE bm_0 = true)
    (sa_0 : PySem.W.findIn K (.ref C_0) "__setattr__" = some (some (.builtin "object.__setattr__"))) (ga_0 : PySem.W.findIn K (.ref C_0) "__getattribute__" = some (some (.builtin "BaseException.__getattribute__"))) (gg_0 : PySem.W.findIn K (.ref C_0) "__getattr__" = some none) (nb_0 : PySem.W.findIn K (.ref C_0) "word" = some none)
    (ai_0 : PySem.W.findIn K (.ref C_0) "__init__" = some (some (.ref fx_0))) (ti_0 : PySem.W.typeIn K (.ref fx_0) = some (.type "function"))
    (li_0 : K.lookup fx_0 = some ⟨ocx_0, odx_0, .func (PySem.W.fnX "__init__" "ShapeError.__init__" (defArgs (clsFn s_ShapeError)) (defBody (clsFn s_ShapeError)) (defScope (clsFn s_ShapeError)) [("__class__", cx_0)] .none .none dcx_0 pmx_0 none (.ref cda_0) ctx_0), osl_0⟩) (ci_0 : PySem.W.codeIn K (.ref cda_0) "ShapeError.__init__" = true)
    (kC_0 : PySem.W.keepIn K (.ref C_0) = true) (eC_0 : PySem.W.subIn K (.ref C_0) (.type "BaseException") = some true) (tC_0 : PySem.W.typeIn K (.ref C_0) = some (.type "type")) (hC_0 : PySem.W.hasDictIn K C_0 = true) (iC_0 : PySem.W.isClsIn K C_0 = true) (sC_0 : PySem.W.subIn K (.ref C_0) (.ref C_0) = some true)
    (lc_0 : K.lookup cx_0 = some ⟨cl_0, cld_0, .cell (some (.ref C_0)), csl_0⟩) (ld_0 : K.lookup cda_0 = some ⟨ccl_0, cdd_0, .fields vs_0, ccs_0⟩) (ev_0 : vs_0[2]? = some (.str fi_0 tf_0)) (ef_0 : ((l.prog.main.file : Str) == fi_0) = true) (et_0 : (l.prog.main.scope.names.lookup ("super" : Str)).isSome = false)
    (mr_0 : PySem.W.mroIn K C_0 (.ref C_0) = some true) (sB_0 : PySem.W.subIn K (.ref C_0) (.type "ValueError") = some true) (su_0 : PySem.W.ks_superIn K C_0 C_0 "__init__" = some (some (.builtin "ValueError.__init__"))) (oq_0 : PySem.W.nsIn K cStatics "thirdparty.any" = some none) (zs_0 : PySem.W.nsIn K mainGlobals "super" = some none) :
    ∃ fd : FuncData, (∀ (s : Shared) (v : Value), BindsTo s fd ⟨[v], []⟩ [("script", v)]) ∧ ∀ base : Heap, K.In base → base.Ns mainGlobals mg → FnOk l.prog w K mg base CX0 11 fa fd ["script"] (spLaw K) := by
  have e := hfa.symm.trans (PySem.W.mg_of X G a20)
  cases e
  have F0 := fun_mk (st := s_number_bytes) l0 c0 k0
  have F1 := fun_mk (st := s_read_number) l1 c1 k1
  have F2 := fun_mk (st := s_signed_bytes) l2 c2 k2
  have F3 := fun_mk (st := s_read_signed) l3 c3 k3
  have F4 := fun_mk (st := s_text_bytes) l4 c4 k4
  have F5 := fun_mk (st := s_read_text) l5 c5 k5
  have F6 := fun_mk (st := s_bytes_of) l6 c6 k6
  have F7 := fun_mk (st := s_read_thing) l7 c7 k7
  have F8 := fun_mk (st := s_whole_thing) l8 c8 k8
  have F9 := fun_mk (st := s_thing_of) l9 c9 k9
  have F10 := fun_mk (st := s__law_state) l10 c10 k10
  have F11 := fun_mk (st := s__law_take) l11 c11 k11
  have F12 := fun_mk (st := s__law_number) l12 c12 k12
  have F13 := fun_mk (st := s__law_bytes) l13 c13 k13
  have F14 := fun_mk (st := s__law_text) l14 c14 k14
  have F15 := fun_mk (st := s__law_whole) l15 c15 k15
  have F16 := fun_mk (st := s__law_thing) l16 c16 k16
  have F17 := fun_mk (st := s__law_same) l17 c17 k17
  have F18 := fun_mk (st := s__law_refused) l18 c18 k18
  have F19 := fun_mk (st := s__law_none) l19 c19 k19
  have T : Txt l.prog K mg := ⟨⟨⟨f0, _, F0, PySem.W.mg_of X G a0, F0.binds (ps := ["number"]) fun _ _ _ _ _ _ us hl => match us, hl with | [_], _ => rfl⟩⟩,
    ⟨⟨f1, _, F1, PySem.W.mg_of X G a1, F1.binds (ps := ["content", "at"]) fun _ _ _ _ _ _ us hl => match us, hl with | [_, _], _ => rfl⟩⟩,
    ⟨⟨f2, _, F2, PySem.W.mg_of X G a2, F2.binds (ps := ["number"]) fun _ _ _ _ _ _ us hl => match us, hl with | [_], _ => rfl⟩⟩,
    ⟨⟨f3, _, F3, PySem.W.mg_of X G a3, F3.binds (ps := ["content", "at"]) fun _ _ _ _ _ _ us hl => match us, hl with | [_, _], _ => rfl⟩⟩,
    ⟨⟨f4, _, F4, PySem.W.mg_of X G a4, F4.binds (ps := ["text"]) fun _ _ _ _ _ _ us hl => match us, hl with | [_], _ => rfl⟩⟩,
    ⟨⟨f5, _, F5, PySem.W.mg_of X G a5, F5.binds (ps := ["content", "at"]) fun _ _ _ _ _ _ us hl => match us, hl with | [_, _], _ => rfl⟩⟩,
    ⟨⟨f6, _, F6, PySem.W.mg_of X G a6, F6.binds (ps := ["thing"]) fun _ _ _ _ _ _ us hl => match us, hl with | [_], _ => rfl⟩⟩,
    ⟨⟨f7, _, F7, PySem.W.mg_of X G a7, F7.binds (ps := ["content", "at"]) fun _ _ _ _ _ _ us hl => match us, hl with | [_, _], _ => rfl⟩⟩,
    ⟨⟨f8, _, F8, PySem.W.mg_of X G a8, F8.binds (ps := ["content"]) fun _ _ _ _ _ _ us hl => match us, hl with | [_], _ => rfl⟩⟩,
    ⟨⟨f9, _, F9, PySem.W.mg_of X G a9, F9.binds (ps := ["content"]) fun _ _ _ _ _ _ us hl => match us, hl with | [_], _ => rfl⟩⟩,
    ⟨⟨f10, _, F10, PySem.W.mg_of X G a10, F10.binds (ps := ["script"]) fun _ _ _ _ _ _ us hl => match us, hl with | [_], _ => rfl⟩⟩,
    ⟨⟨f11, _, F11, PySem.W.mg_of X G a11, F11.binds (ps := ["state", "most"]) fun _ _ _ _ _ _ us hl => match us, hl with | [_, _], _ => rfl⟩⟩,
    ⟨⟨f12, _, F12, PySem.W.mg_of X G a12, F12.binds (ps := ["number"]) fun _ _ _ _ _ _ us hl => match us, hl with | [_], _ => rfl⟩⟩,
    ⟨⟨f13, _, F13, PySem.W.mg_of X G a13, F13.binds (ps := ["thing"]) fun _ _ _ _ _ _ us hl => match us, hl with | [_], _ => rfl⟩⟩,
    ⟨⟨f14, _, F14, PySem.W.mg_of X G a14, F14.binds (ps := ["state", "most"]) fun _ _ _ _ _ _ us hl => match us, hl with | [_, _], _ => rfl⟩⟩,
    ⟨⟨f15, _, F15, PySem.W.mg_of X G a15, F15.binds (ps := ["state"]) fun _ _ _ _ _ _ us hl => match us, hl with | [_], _ => rfl⟩⟩,
    ⟨⟨f16, _, F16, PySem.W.mg_of X G a16, F16.binds (ps := ["state", "deep"]) fun _ _ _ _ _ _ us hl => match us, hl with | [_, _], _ => rfl⟩⟩,
    ⟨⟨f17, _, F17, PySem.W.mg_of X G a17, F17.binds (ps := ["one", "other"]) fun _ _ _ _ _ _ us hl => match us, hl with | [_, _], _ => rfl⟩⟩,
    ⟨⟨f18, _, F18, PySem.W.mg_of X G a18, F18.binds (ps := ["thing"]) fun _ _ _ _ _ _ us hl => match us, hl with | [_], _ => rfl⟩⟩,
    ⟨⟨f19, _, F19, PySem.W.mg_of X G a19, F19.binds (ps := ["content"]) fun _ _ _ _ _ _ us hl => match us, hl with | [_], _ => rfl⟩⟩,
    Cst.int (PySem.W.mg_of X G e0),
    Cst.int (PySem.W.mg_of X G e1),
    Cst.int (PySem.W.mg_of X G e2),
    Cst.int (PySem.W.mg_of X G e3),
    Cst.str (PySem.W.mg_of X G e4) ⟨by decide +kernel, by decide +kernel⟩,
    Cst.int (PySem.W.mg_of X G e5),
    Cst.int (PySem.W.mg_of X G e6),
    Cst.int (PySem.W.mg_of X G e7),
    PySem.W.mg_none_of X G z0,
    PySem.W.mg_none_of X G z1,
    PySem.W.mg_none_of X G z2,
    PySem.W.mg_none_of X G z3,
    PySem.W.mg_none_of X G z4,
    PySem.W.mg_none_of X G z5,
    PySem.W.mg_none_of X G z6,
    PySem.W.mg_none_of X G z7,
    PySem.W.mg_none_of X G z8,
    PySem.W.mg_none_of X G z9,
    fun wd base => exw_mk (i := clsFn s_ShapeError) X G aC_0 xL_0 rv_0 sa_0 ga_0 gg_0 nb_0 ai_0 ti_0 li_0 ci_0 kC_0 eC_0 tC_0 hC_0 iC_0 sC_0 lc_0 ld_0 ev_0 ef_0 et_0 mr_0 sB_0 su_0 oq_0 zs_0 rfl (by decide +kernel) rfl rfl rfl (by decide +kernel) (fun us hl => match us, hl with | [_, _], _ => rfl) (fun env => ⟨_, rfl⟩) wd base⟩
  have FL := fun_mk (st := s_law) l20 c20 k20
  exact ⟨PySem.W.fnOf "law" "law" (defArgs s_law) (defBody s_law) (defScope s_law) .none kV20 dc20 pm20 an20 cd20 ct20, fun s v => .of_eq rfl, fun base _ _ => ok_law FL T⟩
theorem walk {l : PySem.W.OpenLaw} {q : Program} {loose : List Str} {XP : (Str → Option Value) → Heap → Prop} {YP : World → Heap → Prop} {d : DefRec} {K : Params → PySem.W.Frag} (hn : l.most = some 63) (hdf : d.params.defaults = [])
    (hY : ∀ (w : World) (h : Heap), YP w h → (K w.params).In h)
    (F : ∀ (w : World) (mg : Str → Option Value) (fa : Addr) (h : Heap), (K w.params).In h → h.Ns mainGlobals mg → mg d.name = some (.ref fa) →
      ∃ fd : FuncData, (∀ (s : Shared) (u : Value), BindsTo s fd ⟨[u], []⟩ [("script", u)]) ∧ ∀ base : Heap, (K w.params).In base → base.Ns mainGlobals mg → FnOk l.prog w (K w.params) mg base CX0 11 fa fd ["script"] (spLaw (K w.params))) :
    PySem.W.WalkO q loose XP YP l.row.toRowW d [] (fun f vs => PySem.call f vs) :=
  L2.walk_of (n := 63) (k := 11) (x := "script") (CX := fun _ => CX0) (sp := fun w => spLaw (K w.params)) hn (by decide) hdf ⟨rfl, by decide, by decide⟩ hY F (fun _ _ a ns hl _ hS => ⟨a, ns, rfl, hS, hl, fun _ => rfl⟩) fun _ _ _ _ _ z => z
end K50
open PySem PySem.W PyProof.Rows
set_option maxRecDepth 100000 in
set_option maxHeartbeats 0 in
theorem PySem.Challenge.cw_plainserial_k50_whole_things_as_bytes_holds : PySem.Challenge.rw_plainserial_k50_whole_things_as_bytes.Holds := by
  w_on; o_law; k_head; (case hw => w_witness2)
  k_fill
  refine K50.walk (l := PySem.Challenge.rw_plainserial_k50_whole_things_as_bytes) rfl rfl (fun w h Y => PySem.W.kIn_of Y) ?F
  case F =>
    intro w mg fa h KX G hmg
    refine' K50.all_mk KX G hmg ?e0 ?e1 ?e2 ?e3 ?e4 ?e5 ?e6 ?e7 ?a0 ?l0 ?c0 ?k0 ?a1 ?l1 ?c1 ?k1 ?a2 ?l2 ?c2 ?k2 ?a3 ?l3 ?c3 ?k3 ?a4 ?l4 ?c4 ?k4 ?a5 ?l5 ?c5 ?k5 ?a6 ?l6 ?c6 ?k6 ?a7 ?l7 ?c7 ?k7 ?a8 ?l8 ?c8 ?k8 ?a9 ?l9 ?c9 ?k9 ?a10 ?l10 ?c10 ?k10 ?a11 ?l11 ?c11 ?k11 ?a12 ?l12 ?c12 ?k12 ?a13 ?l13 ?c13 ?k13 ?a14 ?l14 ?c14 ?k14 ?a15 ?l15 ?c15 ?k15 ?a16 ?l16 ?c16 ?k16 ?a17 ?l17 ?c17 ?k17 ?a18 ?l18 ?c18 ?k18 ?a19 ?l19 ?c19 ?k19 ?a20 ?l20 ?c20 ?k20 ?z0 ?z1 ?z2 ?z3 ?z4 ?z5 ?z6 ?z7 ?z8 ?z9 ?aC_0 ?xL_0 ?rv_0 ?sa_0 ?ga_0 ?gg_0 ?nb_0 ?ai_0 ?ti_0 ?li_0 ?ci_0 ?kC_0 ?eC_0 ?tC_0 ?hC_0 ?iC_0 ?sC_0 ?lc_0 ?ld_0 ?ev_0 ?ef_0 ?et_0 ?mr_0 ?sB_0 ?su_0 ?oq_0 ?zs_0
    (case e0 => k_is); (case e1 => k_is); (case e2 => k_is); (case e3 => k_is); (case e4 => k_is); (case e5 => k_is); (case e6 => k_is); (case e7 => k_is)
    (case a0 => k_is); (case l0 => k_is); (case c0 => k_is); (case k0 => k_is); (case a1 => k_is); (case l1 => k_is); (case c1 => k_is); (case k1 => k_is)
    (case a2 => k_is); (case l2 => k_is); (case c2 => k_is); (case k2 => k_is); (case a3 => k_is); (case l3 => k_is); (case c3 => k_is); (case k3 => k_is)
    (case a4 => k_is); (case l4 => k_is); (case c4 => k_is); (case k4 => k_is); (case a5 => k_is); (case l5 => k_is); (case c5 => k_is); (case k5 => k_is)
    (case a6 => k_is); (case l6 => k_is); (case c6 => k_is); (case k6 => k_is); (case a7 => k_is); (case l7 => k_is); (case c7 => k_is); (case k7 => k_is)
    (case a8 => k_is); (case l8 => k_is); (case c8 => k_is); (case k8 => k_is); (case a9 => k_is); (case l9 => k_is); (case c9 => k_is); (case k9 => k_is)
    (case a10 => k_is); (case l10 => k_is); (case c10 => k_is); (case k10 => k_is); (case a11 => k_is); (case l11 => k_is); (case c11 => k_is); (case k11 => k_is)
    (case a12 => k_is); (case l12 => k_is); (case c12 => k_is); (case k12 => k_is); (case a13 => k_is); (case l13 => k_is); (case c13 => k_is); (case k13 => k_is)
    (case a14 => k_is); (case l14 => k_is); (case c14 => k_is); (case k14 => k_is); (case a15 => k_is); (case l15 => k_is); (case c15 => k_is); (case k15 => k_is)
    (case a16 => k_is); (case l16 => k_is); (case c16 => k_is); (case k16 => k_is); (case a17 => k_is); (case l17 => k_is); (case c17 => k_is); (case k17 => k_is)
    (case a18 => k_is); (case l18 => k_is); (case c18 => k_is); (case k18 => k_is); (case a19 => k_is); (case l19 => k_is); (case c19 => k_is); (case k19 => k_is)
    (case a20 => k_is); (case l20 => k_is); (case c20 => k_is); (case k20 => k_is); (case z0 => k_is); (case z1 => k_is); (case z2 => k_is); (case z3 => k_is)
    (case z4 => k_is); (case z5 => k_is); (case z6 => k_is); (case z7 => k_is); (case z8 => k_is); (case z9 => k_is); (case aC_0 => k_is); (case xL_0 => k_is)
    (case rv_0 => first | rfl | decide +kernel); (case sa_0 => k_is); (case ga_0 => k_is); (case gg_0 => k_is); (case nb_0 => k_is); (case ai_0 => k_is); (case ti_0 => k_is); (case li_0 => k_is)
    (case ci_0 => k_is); (case kC_0 => k_is); (case eC_0 => k_is); (case tC_0 => k_is); (case hC_0 => k_is); (case iC_0 => k_is); (case sC_0 => first | rfl | k_is); (case lc_0 => k_is)
    (case ld_0 => k_is); (case ev_0 => first | rfl | decide +kernel); (case ef_0 => first | rfl | decide +kernel); (case et_0 => first | rfl | decide +kernel); (case mr_0 => k_is); (case sB_0 => k_is); (case su_0 => kernel_rfl); (case oq_0 => k_is)
    (case zs_0 => k_is)
