import PyProof.Rows.All
import Wide.All
import OpenK.AllK
import Wide.FinOn
import HandS.ForMost
import HandS.ForExc
import HandS.TupAny
import HandS.Deep
import HandS.IsInst
import HandS.Zip
import HandS.Rev
import HandS.RevRange
import HandS.Conv
import HandS.CallSlots
import HandS.TryMany
import HandS.TupLe
import HandS.Wide
import HandS.StrMore
import KE.KDictKeyed
import KE.SortData
import KE.DataEq
import HandS.TupMul
import PySem.Challenge.RW_marblewright_k31_whole_same_trees
set_option Elab.async false
set_option linter.all false
set_option maxRecDepth 100000
set_option maxHeartbeats 4000000
set_option autoImplicit false
/-! PQ.1: pure data, slots, the relation of values to data -/
namespace PQ
open PySem PySem.Spec PyProof.Rows L2

abbrev D := PyData
abbrev St := L2.St

/-- an own exception: its class's name, its fields -/
structure Exc where
  cls : Str
  fld : List (Str × D)

inductive R (α : Type) where
  | ok (a : α)
  | exc (x : Exc)
  | stuck

namespace R
def bind {α β : Type} : R α → (α → R β) → R β
  | .ok a, f => f a
  | .exc x, _ => .exc x
  | .stuck, _ => .stuck
instance : Monad R where
  pure := .ok
  bind := R.bind
@[simp] theorem ok_bind {α β : Type} (a : α) (f : α → R β) : (R.ok a >>= f) = f a := id rfl
@[simp] theorem exc_bind {α β : Type} (x : Exc) (f : α → R β) : ((R.exc x : R α) >>= f) = .exc x := id rfl
@[simp] theorem stuck_bind {α β : Type} (f : α → R β) : ((R.stuck : R α) >>= f) = .stuck := id rfl
@[simp] theorem pure_eq {α : Type} (a : α) : (pure a : R α) = .ok a := id rfl
end R

/-- a slot: unset, frozen data, a list or dict of the slot's own -/
inductive Sl where
  | u
  | f (d : D)
  | o (d : D)
  | s (ns : List Int)
abbrev Rho := List Sl

/-! ### keys -/
mutual
def keyD : D → Option NestedKey
  | .none => some .none
  | .bool b => some (.num (if b = true then 1 else 0))
  | .int i => some (.num i)
  | .str x => some (.text x)
  | .tuple xs => (keyDs xs).map .tup
  | .list _ => none
  | .dict _ => none
def keyDs : List D → Option (List NestedKey)
  | [] => some []
  | d :: ds => (keyD d).bind fun k => (keyDs ds).map fun ks => k :: ks
end

/-! ### frozen values -/
abbrev rawH (a : Addr) (o : Obj) : HO := .ext fun h => h.get? a = some o
/-- the entries of a dict -/
structure Ents (w : World) (l : List DictEntry) (ks vs : List V) (kvs : List (D × D)) : Prop where
  ex : ∃ nks : List NestedKey, kvs.map (fun p => keyD p.1) = nks.map some ∧ nks.Nodup ∧ l.map (·.hash) = nks.map (NestedKey.hash w)
  ks : Vals ks (l.map (·.key))
  vs : Vals vs (l.map (·.val))
  sz : kvs.length ≤ sizeLine

mutual
inductive RD (w : World) (K : PySem.W.Frag) (Z : Hp) : V → D → Prop
  | non : RD w K Z .non .none
  | bl (b : Bool) : RD w K Z (.bl b) (.bool b)
  | int (i : Int) : RD w K Z (.int i) (.int i)
  | str (x : Str) : RD w K Z (.str x) (.str x)
  | lst {a : Addr} {xs : List V} {ds : List D} : Z a = some (.lst xs) → RDs w K Z xs ds → RD w K Z (.ref a) (.list ds)
  | tup {a : Addr} {xs : List V} {ds : List D} : SqT K Z a xs → RDs w K Z xs ds → RD w K Z (.ref a) (.tuple ds)
  | dct {a : Addr} {o : Obj} {es : Array DictEntry} {ep : Nat} {ks vs : List V} {kvs : List (D × D)} {kd vd : List D} : Z a = some (rawH a o) → (a == sysModules) = false → o.ExactDict → o.data = .dict es ep →
      Ents w es.toList ks vs kvs → kd = kvs.map (·.1) → vd = kvs.map (·.2) → RDs w K Z ks kd → RDs w K Z vs vd → RD w K Z (.ref a) (.dict kvs)
inductive RDs (w : World) (K : PySem.W.Frag) (Z : Hp) : List V → List D → Prop
  | nil : RDs w K Z [] []
  | cons {v : V} {d : D} {vs : List V} {ds : List D} : RD w K Z v d → RDs w K Z vs ds → RDs w K Z (v :: vs) (d :: ds)
end

section
variable {w : World} {K : PySem.W.Frag} {Z Z' H H' : Hp}
mutual
theorem RD.mono (s : Same Z Z') : ∀ {v : V} {d : D}, RD w K Z v d → RD w K Z' v d
  | _, _, .non => .non
  | _, _, .bl b => .bl b
  | _, _, .int i => .int i
  | _, _, .str x => .str x
  | _, _, .lst h r => .lst (s _ _ h) (RDs.mono s r)
  | _, _, .tup h r => .tup (by
      rcases h with (h | ⟨o, h⟩) | h
      · exact .inl (.inl (s _ _ h))
      · exact .inl (.inr ⟨o, s _ _ h⟩)
      · exact .inr h) (RDs.mono s r)
  | _, _, .dct h1 h2 h3 h4 h5 e1 e2 r1 r2 => .dct (s _ _ h1) h2 h3 h4 h5 e1 e2 (RDs.mono s r1) (RDs.mono s r2)
theorem RDs.mono (s : Same Z Z') : ∀ {v : List V} {d : List D}, RDs w K Z v d → RDs w K Z' v d
  | _, _, .nil => .nil
  | _, _, .cons h t => .cons (RD.mono s h) (RDs.mono s t)
end
theorem RDs.length : ∀ {vs : List V} {ds : List D}, RDs w K Z vs ds → vs.length = ds.length
  | _, _, .nil => rfl
  | _, _, .cons _ t => congrArg (· + 1) (RDs.length t)
theorem RDs.append : ∀ {vs vs' : List V} {ds ds' : List D}, RDs w K Z vs ds → RDs w K Z vs' ds' → RDs w K Z (vs ++ vs') (ds ++ ds')
  | _, _, _, _, .nil, h => h
  | _, _, _, _, .cons a t, h => .cons a (RDs.append t h)
theorem RDs.get : ∀ {vs : List V} {ds : List D} {i : Nat} {d : D}, RDs w K Z vs ds → ds[i]? = some d → ∃ v, vs[i]? = some v ∧ RD w K Z v d
  | _, _, _, _, .nil, e => by simp at e
  | _, _, 0, _, .cons a _, e => by simp at e; subst e; exact ⟨_, rfl, a⟩
  | _, _, i + 1, d, .cons _ t, e => by
    obtain ⟨v, h1, h2⟩ := RDs.get (i := i) (d := d) t (by simpa using e)
    exact ⟨v, by simpa using h1, h2⟩
theorem RDs.getV : ∀ {vs : List V} {ds : List D} {i : Nat} {v : V}, RDs w K Z vs ds → vs[i]? = some v → ∃ d, ds[i]? = some d ∧ RD w K Z v d
  | _, _, _, _, .nil, e => by simp at e
  | _, _, 0, _, .cons a _, e => by simp at e; subst e; exact ⟨_, rfl, a⟩
  | _, _, i + 1, d, .cons _ t, e => by
    obtain ⟨v, h1, h2⟩ := RDs.getV (i := i) (v := d) t (by simpa using e)
    exact ⟨v, by simpa using h1, h2⟩
theorem RDs.take : ∀ {vs : List V} {ds : List D} (n : Nat), RDs w K Z vs ds → RDs w K Z (vs.take n) (ds.take n)
  | _, _, 0, _ => .nil
  | _, _, _ + 1, .nil => .nil
  | _, _, n + 1, .cons a t => .cons a (RDs.take n t)
theorem RDs.drop : ∀ {vs : List V} {ds : List D} (n : Nat), RDs w K Z vs ds → RDs w K Z (vs.drop n) (ds.drop n)
  | _, _, 0, r => r
  | _, _, _ + 1, .nil => .nil
  | _, _, n + 1, .cons _ t => RDs.drop n t
theorem RDs.set {v : V} {d : D} (r : RD w K Z v d) : ∀ {vs : List V} {ds : List D} (i : Nat), RDs w K Z vs ds → RDs w K Z (vs.set i v) (ds.set i d)
  | _, _, _, .nil => .nil
  | _, _, 0, .cons _ t => .cons r t
  | _, _, i + 1, .cons q t => .cons q (RDs.set r i t)
theorem RDs.reverse : ∀ {vs : List V} {ds : List D}, RDs w K Z vs ds → RDs w K Z vs.reverse ds.reverse
  | _, _, .nil => .nil
  | _, _, .cons a t => by
    rw [List.reverse_cons, List.reverse_cons]
    exact (RDs.reverse t).append (.cons a .nil)
theorem RDs.rep {vs : List V} {ds : List D} (h : RDs w K Z vs ds) : ∀ k : Nat, RDs w K Z (List.replicate k vs).flatten (List.replicate k ds).flatten
  | 0 => .nil
  | k + 1 => by
    rw [List.replicate_succ, List.replicate_succ, List.flatten_cons, List.flatten_cons]
    exact h.append (RDs.rep h k)
theorem RDs.of_get {vs : List V} {ds : List D} (hl : vs.length = ds.length) (h : ∀ (i : Nat) v d, vs[i]? = some v → ds[i]? = some d → RD w K Z v d) : RDs w K Z vs ds := by
  induction vs generalizing ds with
  | nil =>
    cases ds with
    | nil => exact .nil
    | cons _ _ => simp at hl
  | cons v vs ih =>
    cases ds with
    | nil => simp at hl
    | cons d ds =>
      refine .cons (h 0 v d rfl rfl) (ih (by simpa using hl) fun i v' d' e1 e2 => h (i + 1) v' d' (by simpa using e1) (by simpa using e2))

/-! ### data without dicts, without lists -/
mutual
def noDict : D → Bool
  | .dict _ => false
  | .list xs => noDicts xs
  | .tuple xs => noDicts xs
  | _ => true
def noDicts : List D → Bool
  | [] => true
  | d :: ds => noDict d && noDicts ds
end
mutual
/-- tuples all the way -/
def noLst : D → Bool
  | .dict _ => false
  | .list _ => false
  | .tuple xs => noLsts xs
  | _ => true
def noLsts : List D → Bool
  | [] => true
  | d :: ds => noLst d && noLsts ds
end
mutual
theorem RD.dp : ∀ {v : V} {d : D}, RD w K Z v d → noDict d = true → Dp K Z v d
  | _, _, .non, _ => .non
  | _, _, .bl b, _ => .bl b
  | _, _, .int i, _ => .int i
  | _, _, .str x, _ => .str x
  | _, _, .lst h r, e => .lst (.inl (.inl h)) (RDs.dp r (by simpa [noDict] using e))
  | _, _, .tup h r, e => .tup h (RDs.dp r (by simpa [noDict] using e))
  | _, _, .dct _ _ _ _ _ _ _ _ _, e => by simp [noDict] at e
theorem RDs.dp : ∀ {v : List V} {d : List D}, RDs w K Z v d → noDicts d = true → DpAll K Z v d
  | _, _, .nil, _ => .nil
  | _, _, .cons h t, e => by
    simp only [noDicts, Bool.and_eq_true] at e
    exact .cons (RD.dp h e.1) (RDs.dp t e.2)
end

/-- the tuples of Z -/
def tupsOf (Z : Hp) : Hp := fun a => match Z a with
  | some (.tup xs) => some (.tup xs)
  | some (.frz o (.tup xs)) => some (.frz o (.tup xs))
  | _ => none
theorem tupsOf_le (Z : Hp) : Same (tupsOf Z) Z := fun a o e => by
  unfold tupsOf at e
  split at e <;> first | (cases e; assumption) | cases e
mutual
theorem RD.tups : ∀ {v : V} {d : D}, RD w K Z v d → noLst d = true → RD w K (tupsOf Z) v d
  | _, _, .non, _ => .non
  | _, _, .bl b, _ => .bl b
  | _, _, .int i, _ => .int i
  | _, _, .str x, _ => .str x
  | _, _, .lst h r, e => by simp [noLst] at e
  | _, _, .tup h r, e => .tup (by
      rcases h with (h | ⟨o, h⟩) | h
      · exact .inl (.inl (by unfold tupsOf; rw [h]))
      · exact .inl (.inr ⟨o, by unfold tupsOf; rw [h]⟩)
      · exact .inr h) (RDs.tups r (by simpa [noLst] using e))
  | _, _, .dct _ _ _ _ _ _ _ _ _, e => by simp [noLst] at e
theorem RDs.tups : ∀ {v : List V} {d : List D}, RDs w K Z v d → noLsts d = true → RDs w K (tupsOf Z) v d
  | _, _, .nil, _ => .nil
  | _, _, .cons h t, e => by
    simp only [noLsts, Bool.and_eq_true] at e
    exact .cons (RD.tups h e.1) (RDs.tups t e.2)
end
end

/-! ### the frozen part grows, what is tracked stands -/
structure Ext (Z H Z' H' : Hp) : Prop where
  hh : Same H H'
  zz : Same Z Z'
  zh : Same Z' H'
  nw : ∀ a o, Z a = none → H a = some o → Z' a = none
theorem Ext.refl {Z H : Hp} (s : Same Z H) : Ext Z H Z H := ⟨Same.refl _, Same.refl _, s, fun _ _ h _ => h⟩
theorem Ext.trans {Z H Z1 H1 Z2 H2 : Hp} (a : Ext Z H Z1 H1) (b : Ext Z1 H1 Z2 H2) : Ext Z H Z2 H2 :=
  ⟨a.hh.trans b.hh, a.zz.trans b.zz, b.zh, fun x o h1 h2 => b.nw x o (a.nw x o h1 h2) (a.hh x o h2)⟩
theorem same_upd {H : Hp} {p : Addr} {o : HO} (h : H p = none) : Same H (upd H p o) := fun b x e => by
  rw [upd_ne (ne_of_none e h)]
  exact e
theorem same_upds {Z H : Hp} (s : Same Z H) {p : Addr} {o : HO} : Same (upd Z p o) (upd H p o) := fun b x e => by
  by_cases hb : b = p
  · subst hb; rw [upd_same] at e ⊢; exact e
  · rw [upd_ne hb] at e ⊢; exact s b x e
/-- a new object, frozen at once -/
theorem Ext.new {Z H : Hp} (s : Same Z H) {p : Addr} {o : HO} (hp : H p = none) : Ext Z H (upd Z p o) (upd H p o) := by
  have zp : Z p = none := by
    cases e : Z p with
    | none => rfl
    | some u => have := s p u e; rw [hp] at this; cases this
  exact ⟨same_upd hp, same_upd zp, same_upds s, fun a u h1 h2 => by rw [upd_ne (ne_of_none h2 hp)]; exact h1⟩
/-- a new object that is not frozen -/
theorem Ext.newO {Z H : Hp} (s : Same Z H) {p : Addr} {o : HO} (hp : H p = none) : Ext Z H Z (upd H p o) :=
  ⟨same_upd hp, Same.refl _, s.trans (same_upd hp), fun a u h1 _ => h1⟩

/-- a list (or dict) of one's own at a -/
inductive Own (w : World) (K : PySem.W.Frag) (Z H : Hp) (a : Addr) : D → Prop
  | lst {xs : List V} {ds : List D} : Z a = none → H a = some (.lst xs) → RDs w K Z xs ds → Own w K Z H a (.list ds)
  | dct {o : Obj} {es : Array DictEntry} {ep : Nat} {ks vs : List V} {kvs : List (D × D)} {kd vd : List D} : Z a = none → H a = some (rawH a o) → (a == sysModules) = false → o.ExactDict → o.data = .dict es ep →
      Ents w es.toList ks vs kvs → kd = kvs.map (·.1) → vd = kvs.map (·.2) → RDs w K Z ks kd → RDs w K Z vs vd → Own w K Z H a (.dict kvs)
theorem Own.there {w K Z H a d} (h : Own w K Z H a d) : ∃ o, H a = some o := by
  cases h with
  | lst _ h _ => exact ⟨_, h⟩
  | dct _ h _ _ _ _ _ _ _ _ => exact ⟨_, h⟩
theorem Own.zno {w K Z H a d} (h : Own w K Z H a d) : Z a = none := by
  cases h with
  | lst h _ _ => exact h
  | dct h _ _ _ _ _ _ _ _ _ => exact h
theorem Own.keep {w : World} {K : PySem.W.Frag} {Z H Z' H' : Hp} {a : Addr} {d : D} (s : Same Z Z') (hz : Z' a = none) (hh : ∀ o, H a = some o → H' a = some o) (h : Own w K Z H a d) : Own w K Z' H' a d := by
  cases h with
  | lst _ h r => exact .lst hz (hh _ h) (r.mono s)
  | dct _ h h2 h3 h4 h5 e1 e2 r1 r2 => exact .dct hz (hh _ h) h2 h3 h4 h5 e1 e2 (r1.mono s) (r2.mono s)
theorem Own.ext {w : World} {K : PySem.W.Frag} {Z H Z' H' : Hp} {a : Addr} {d : D} (x : Ext Z H Z' H') (h : Own w K Z H a d) : Own w K Z' H' a d := by
  obtain ⟨o, ho⟩ := h.there
  exact h.keep x.zz (x.nw a o h.zno ho) fun _ e => x.hh _ _ e
/-- it is frozen -/
theorem Own.freeze {w : World} {K : PySem.W.Frag} {Z H : Hp} {a : Addr} {d : D} (s : Same Z H) (h : Own w K Z H a d) : ∃ o, H a = some o ∧ RD w K (upd Z a o) (.ref a) d ∧ Same Z (upd Z a o) ∧ Same (upd Z a o) H := by
  have zs : ∀ o, Same Z (upd Z a o) := fun o => same_upd h.zno
  have sh : ∀ o, H a = some o → Same (upd Z a o) H := fun o ho b u e => by
    by_cases hb : b = a
    · subst hb; rw [upd_same] at e; cases e; exact ho
    · rw [upd_ne hb] at e; exact s b u e
  cases h with
  | lst hz h r => exact ⟨_, h, .lst upd_same (r.mono (zs _)), zs _, sh _ h⟩
  | dct hz h h2 h3 h4 h5 e1 e2 r1 r2 => exact ⟨_, h, .dct upd_same h2 h3 h4 h5 e1 e2 (r1.mono (zs _)) (r2.mono (zs _)), zs _, sh _ h⟩

/-- a slot's value -/
def SlRep (w : World) (K : PySem.W.Frag) (H0 Z H : Hp) (c : Option V) : Sl → Prop
  | .u => True
  | .f d => ∃ v, c = some v ∧ RD w K Z v d
  | .o d => ∃ a, c = some (.ref a) ∧ Own w K Z H a d ∧ H0 a = none
  | .s ns => ∃ a, c = some (.ref a) ∧ SqL K H0 a (ns.map V.int)

/-- the slots σ in the heap H bear the data ρ; the entry was (Z0, H0) -/
structure Rep (w : World) (K : PySem.W.Frag) (Z0 H0 Z H : Hp) (σ : St) (ρ : Rho) : Prop where
  ext : Ext Z0 H0 Z H
  len : σ.length = ρ.length
  sl : ∀ (i : Nat) (c : Option V) (s : Sl), σ[i]? = some c → ρ[i]? = some s → SlRep w K H0 Z H c s
  dj : ∀ (i j : Nat) d e a, i ≠ j → ρ[i]? = some (.o d) → ρ[j]? = some (.o e) → σ[i]? = some (some (.ref a)) → σ[j]? = some (some (.ref a)) → False

section
variable {w : World} {K : PySem.W.Frag} {Z0 H0 Z H Z' H' : Hp} {σ : St} {ρ : Rho}
theorem Rep.zh (r : Rep w K Z0 H0 Z H σ ρ) : Same Z H := r.ext.zh
theorem SlRep.ext {c : Option V} {s : Sl} (x : Ext Z H Z' H') (h : SlRep w K H0 Z H c s) : SlRep w K H0 Z' H' c s := by
  cases s with
  | u => trivial
  | f d => obtain ⟨v, e, r⟩ := h; exact ⟨v, e, r.mono x.zz⟩
  | o d => obtain ⟨a, e, r, n⟩ := h; exact ⟨a, e, r.ext x, n⟩
  | s ns => exact h
theorem Rep.step (r : Rep w K Z0 H0 Z H σ ρ) (x : Ext Z H Z' H') : Rep w K Z0 H0 Z' H' σ ρ :=
  ⟨r.ext.trans x, r.len, fun i c s h1 h2 => (r.sl i c s h1 h2).ext x, r.dj⟩
theorem Rep.getS (r : Rep w K Z0 H0 Z H σ ρ) {i : Nat} {s : Sl} (h : ρ[i]? = some s) : ∃ c, σ[i]? = some c ∧ SlRep w K H0 Z H c s := by
  have hi : i < ρ.length := (List.getElem?_eq_some_iff.mp h).1
  have hi' : i < σ.length := by rw [r.len]; exact hi
  exact ⟨σ[i], by simp [hi'], r.sl i _ s (by simp [hi']) h⟩
theorem Rep.getF (r : Rep w K Z0 H0 Z H σ ρ) {i : Nat} {d : D} (h : ρ[i]? = some (.f d)) : ∃ v, σ[i]? = some (some v) ∧ RD w K Z v d := by
  obtain ⟨c, h1, v, e, q⟩ := r.getS h
  exact ⟨v, by rw [h1, e], q⟩
theorem Rep.getO (r : Rep w K Z0 H0 Z H σ ρ) {i : Nat} {d : D} (h : ρ[i]? = some (.o d)) : ∃ a, σ[i]? = some (some (.ref a)) ∧ Own w K Z H a d ∧ H0 a = none := by
  obtain ⟨c, h1, a, e, q⟩ := r.getS h
  exact ⟨a, by rw [h1, e], q⟩
/-- a frozen value into slot i -/
theorem Rep.setF (r : Rep w K Z0 H0 Z H σ ρ) (i : Nat) {v : V} {d : D} (q : RD w K Z v d) : Rep w K Z0 H0 Z H (σ.set i (some v)) (ρ.set i (.f d)) := by
  refine ⟨r.ext, by simpa using r.len, fun j c s h1 h2 => ?_, fun j k x y a n h1 h2 h3 h4 => ?_⟩
  · by_cases hj : i = j
    · subst hj
      rw [List.getElem?_set] at h1 h2
      simp only [if_true] at h1 h2
      split at h1 <;> split at h2 <;> first | (cases h2; done) | (cases h1; done) | (cases h1; cases h2; exact ⟨v, rfl, q⟩)
    · rw [List.getElem?_set_ne hj] at h1 h2
      exact r.sl j c s h1 h2
  · by_cases hj : i = j
    · subst hj
      rw [List.getElem?_set] at h1
      simp only [if_true] at h1
      split at h1 <;> cases h1
    · by_cases hk : i = k
      · subst hk
        rw [List.getElem?_set] at h2
        simp only [if_true] at h2
        split at h2 <;> cases h2
      · rw [List.getElem?_set_ne hj] at h1 h3
        rw [List.getElem?_set_ne hk] at h2 h4
        exact r.dj j k x y a n h1 h2 h3 h4
/-- slot i is forgotten -/
theorem Rep.setU (r : Rep w K Z0 H0 Z H σ ρ) (i : Nat) (c0 : Option V) : Rep w K Z0 H0 Z H (σ.set i c0) (ρ.set i .u) := by
  refine ⟨r.ext, by simpa using r.len, fun j c s h1 h2 => ?_, fun j k x y a n h1 h2 h3 h4 => ?_⟩
  · by_cases hj : i = j
    · subst hj
      rw [List.getElem?_set] at h1 h2
      simp only [if_true] at h1 h2
      split at h1 <;> split at h2 <;> first | (cases h2; done) | (cases h1; done) | (cases h1; cases h2; trivial)
    · rw [List.getElem?_set_ne hj] at h1 h2
      exact r.sl j c s h1 h2
  · by_cases hj : i = j
    · subst hj
      rw [List.getElem?_set] at h1
      simp only [if_true] at h1
      split at h1 <;> cases h1
    · by_cases hk : i = k
      · subst hk
        rw [List.getElem?_set] at h2
        simp only [if_true] at h2
        split at h2 <;> cases h2
      · rw [List.getElem?_set_ne hj] at h1 h3
        rw [List.getElem?_set_ne hk] at h2 h4
        exact r.dj j k x y a n h1 h2 h3 h4
theorem Rep.forget (r : Rep w K Z0 H0 Z H σ ρ) (i : Nat) : Rep w K Z0 H0 Z H σ (ρ.set i .u) := by
  have h := r.setU i (σ[i]?.getD none)
  have e : σ.set i (σ[i]?.getD none) = σ := by
    apply List.ext_getElem?
    intro j
    rw [List.getElem?_set]
    split
    · rename_i hj
      subst hj
      split
      · rename_i h2; simp [h2]
      · rename_i h2; simp at h2; simp [h2]
    · rfl
  rw [e] at h
  exact h
/-- an own object, new, into slot i -/
theorem Rep.setO (r : Rep w K Z0 H0 Z H σ ρ) (i : Nat) {a : Addr} {d : D} (q : Own w K Z H a d) (h0 : H0 a = none) (hn : ∀ (j : Nat) e, j ≠ i → ρ[j]? = some (.o e) → σ[j]? ≠ some (some (.ref a))) : Rep w K Z0 H0 Z H (σ.set i (some (.ref a))) (ρ.set i (.o d)) := by
  refine ⟨r.ext, by simpa using r.len, fun j c s h1 h2 => ?_, fun j k x y b n h1 h2 h3 h4 => ?_⟩
  · by_cases hj : i = j
    · subst hj
      rw [List.getElem?_set] at h1 h2
      simp only [if_true] at h1 h2
      split at h1 <;> split at h2 <;> first | (cases h2; done) | (cases h1; done) | (cases h1; cases h2; exact ⟨a, rfl, q, h0⟩)
    · rw [List.getElem?_set_ne hj] at h1 h2
      exact r.sl j c s h1 h2
  · by_cases hj : i = j
    · have hk : i ≠ k := fun z => n (hj ▸ z)
      subst hj
      rw [List.getElem?_set_ne hk] at h2 h4
      rw [List.getElem?_set] at h3
      simp only [if_true] at h3
      split at h3
      · cases h3; exact hn k y (Ne.symm hk) h2 h4
      · cases h3
    · by_cases hk : i = k
      · subst hk
        rw [List.getElem?_set_ne hj] at h1 h3
        rw [List.getElem?_set] at h4
        simp only [if_true] at h4
        split at h4
        · cases h4; exact hn j x (Ne.symm hj) h1 h3
        · cases h4
      · rw [List.getElem?_set_ne hj] at h1 h3
        rw [List.getElem?_set_ne hk] at h2 h4
        exact r.dj j k x y b n h1 h2 h3 h4
/-- slot i's own object is frozen -/
theorem Rep.freeze (r : Rep w K Z0 H0 Z H σ ρ) {i : Nat} {d : D} (h : ρ[i]? = some (.o d)) : ∃ Z', Rep w K Z0 H0 Z' H σ (ρ.set i (.f d)) ∧ Same Z Z' := by
  obtain ⟨a, h1, q, h0⟩ := r.getO h
  obtain ⟨o, ho, q', s1, s2⟩ := q.freeze r.zh
  refine ⟨upd Z a o, ⟨⟨r.ext.hh, r.ext.zz.trans s1, s2, fun b u hb1 hb2 => ?_⟩, by simpa using r.len, fun j c s e1 e2 => ?_, fun j k x y b n e1 e2 e3 e4 => ?_⟩, s1⟩
  · rw [upd_ne (fun z => by rw [z, h0] at hb2; cases hb2)]
    exact r.ext.nw b u hb1 hb2
  · by_cases hj : i = j
    · subst hj
      rw [h1] at e1; cases e1
      rw [List.getElem?_set] at e2
      simp only [if_true] at e2
      split at e2
      · cases e2; exact ⟨.ref a, rfl, q'⟩
      · cases e2
    · rw [List.getElem?_set_ne hj] at e2
      have := r.sl j c s e1 e2
      cases s with
      | u => trivial
      | f d' => obtain ⟨v, e, z⟩ := this; exact ⟨v, e, z.mono s1⟩
      | s ns => exact this
      | o d' =>
        obtain ⟨b, e, z, z0⟩ := this
        subst e
        refine ⟨b, rfl, z.keep s1 ?_ (fun _ e => e), z0⟩
        have hb : b ≠ a := fun hb => by subst hb; exact r.dj i j d d' b hj h e2 h1 e1
        rw [upd_ne hb]; exact z.zno
  · have hi : ∀ {m : Nat} {z : D}, (ρ.set i (.f d))[m]? = some (.o z) → ρ[m]? = some (.o z) := fun {m z} e => by
      by_cases hm : i = m
      · subst hm
        rw [List.getElem?_set] at e
        simp only [if_true] at e
        split at e <;> cases e
      · rw [List.getElem?_set_ne hm] at e; exact e
    exact r.dj j k x y b n (hi e1) (hi e2) e3 e4
/-- slot i's own object is changed (H a becomes o) -/
theorem Rep.mutate (r : Rep w K Z0 H0 Z H σ ρ) {i : Nat} {d d' : D} {a : Addr} {o : HO} (h : ρ[i]? = some (.o d)) (h1 : σ[i]? = some (some (.ref a))) (h0 : H0 a = none) (hz : Z a = none) (q : Own w K Z (upd H a o) a d') :
    Rep w K Z0 H0 Z (upd H a o) σ (ρ.set i (.o d')) := by
  refine ⟨⟨fun b u e => ?_, r.ext.zz, fun b u e => ?_, r.ext.nw⟩, by simpa using r.len, fun j c s e1 e2 => ?_, fun j k x y b n e1 e2 e3 e4 => ?_⟩
  · rw [upd_ne (fun z => by rw [z, h0] at e; cases e)]; exact r.ext.hh b u e
  · rw [upd_ne (fun z => by rw [z, hz] at e; cases e)]; exact r.zh b u e
  · by_cases hj : i = j
    · subst hj
      rw [h1] at e1; cases e1
      rw [List.getElem?_set] at e2
      simp only [if_true] at e2
      split at e2
      · cases e2; exact ⟨a, rfl, q, h0⟩
      · cases e2
    · rw [List.getElem?_set_ne hj] at e2
      have := r.sl j c s e1 e2
      cases s with
      | u => trivial
      | f d' => exact this
      | s ns => exact this
      | o d'' =>
        obtain ⟨b, e, z, z0⟩ := this
        subst e
        have hb : b ≠ a := fun hb => by subst hb; exact r.dj i j d d'' b hj h e2 h1 e1
        exact ⟨b, rfl, z.keep (Same.refl _) z.zno (fun _ e => by rw [upd_ne hb]; exact e), z0⟩
  · have hi : ∀ {m : Nat} {z : D}, (ρ.set i (.o d'))[m]? = some (.o z) → ∃ z', ρ[m]? = some (.o z') := fun {m z} e => by
      by_cases hm : i = m
      · subst hm; exact ⟨d, h⟩
      · rw [List.getElem?_set_ne hm] at e; exact ⟨z, e⟩
    obtain ⟨_, e1'⟩ := hi e1
    obtain ⟨_, e2'⟩ := hi e2
    exact r.dj j k _ _ b n e1' e2' e3 e4
end
end PQ

/-! PQ.2: what an expression computes -/
namespace PQ
open PySem PySem.Spec PyProof.Rows L2

/-! ### the judgements of the layer, at a point -/
def PEat (X : Cx) (e : Expr) (σ : St) (H : Hp) (Q : VK) : Prop := ∀ (pins : List (Addr × Obj)) (s : Shared), Inv X pins σ H s → wpAny (model X.prog X.w) X.A (eval e X.env) (EP X pins σ Q) X.xe s
theorem pe_at {X : Cx} {e : Expr} : PE X e (PEat X e) := ⟨fun pins s σ H Q I h => h pins s I⟩
theorem toAt {X : Cx} {e : Expr} {t : TE} {σ : St} {H : Hp} {Q : VK} (h : PE X e t) (q : t σ H Q) : PEat X e σ H Q := fun pins s I => h.run pins s σ H Q I q
def PTat (X : Cx) (e : Expr) (σ : St) (H : Hp) (Q : Bool → Hp → Prop) : Prop := ∀ (pins : List (Addr × Obj)) (s : Shared), Inv X pins σ H s → wpAny (model X.prog X.w) X.A (isTrue e X.env (eval e X.env)) (TP X pins σ Q) X.xe s
theorem pt_at {X : Cx} {e : Expr} : PT X e (PTat X e) := ⟨fun pins s σ H Q I h => h pins s I⟩
theorem toAtT {X : Cx} {e : Expr} {t : TT} {σ : St} {H : Hp} {Q : Bool → Hp → Prop} (h : PT X e t) (q : t σ H Q) : PTat X e σ H Q := fun pins s I => h.run pins s σ H Q I q
def PWat (X : Cx) (e : Expr) (σ : St) (H : Hp) (Q : Bool → Hp → Prop) : Prop := ∀ (whole : Sem Value) (pins : List (Addr × Obj)) (s : Shared), Inv X pins σ H s → wpAny (model X.prog X.w) X.A (isTrue e X.env whole) (TP X pins σ Q) X.xe s
theorem pw_at {X : Cx} {e : Expr} : PW X e (PWat X e) := ⟨fun whole pins s σ H Q I h => h whole pins s I⟩
theorem toAtW {X : Cx} {e : Expr} {t : TT} {σ : St} {H : Hp} {Q : Bool → Hp → Prop} (h : PW X e t) (q : t σ H Q) : PWat X e σ H Q := fun whole pins s I => h.run whole pins s σ H Q I q
def PAat (X : Cx) (es : List Expr) (σ : St) (H : Hp) (Q : List V → Hp → Prop) : Prop := ∀ (pos : Pos) (pins : List (Addr × Obj)) (s : Shared), Inv X pins σ H s → wpAny (model X.prog X.w) X.A (spliced (backTo pos (starEach es X.env))) (AP X pins σ Q) X.xe s
theorem pa_at {X : Cx} {es : List Expr} : PA X es (PAat X es) := ⟨fun pos pins s σ H Q I h => h pos pins s I⟩
theorem toAtA {X : Cx} {es : List Expr} {t : TA} {σ : St} {H : Hp} {Q : List V → Hp → Prop} (h : PA X es t) (q : t σ H Q) : PAat X es σ H Q := fun pos pins s I => h.run pos pins s σ H Q I q

/-! ### exceptions -/
inductive RX (w : World) (K : PySem.W.Frag) (mg : Str → Option Value) (Z : Hp) : Exc → Value → Option Addr → Prop
  | bare {n : Str} {C : Addr} : mg n = some (.ref C) → RX w K mg Z ⟨n, []⟩ (.ref C) none
  | fld {n f : Str} {C a : Addr} {v : V} {d : D} : mg n = some (.ref C) → Z a = some (.xd [(f, v)]) → RD w K Z v d → RX w K mg Z ⟨n, [(f, d)]⟩ (.ref C) (some a)
theorem RX.mono {w : World} {K : PySem.W.Frag} {mg : Str → Option Value} {Z Z' : Hp} (s : Same Z Z') {x : Exc} {c : Value} {d : Option Addr} (h : RX w K mg Z x c d) : RX w K mg Z' x c d := by
  cases h with
  | bare h => exact .bare h
  | fld h1 h2 h3 => exact .fld h1 (s _ _ h2) (h3.mono s)

def XPost (X : Cx) (W : WX) (Z H : Hp) (σ : St) (x : Exc) : Prop := ∀ cls dx Z' H', Ext Z H Z' H' → RX X.w X.K X.mg Z' x cls dx → W cls dx σ H'
theorem XPost.step {X : Cx} {W : WX} {Z H Z' H' : Hp} {σ : St} {x : Exc} (h : XPost X W Z H σ x) (e : Ext Z H Z' H') : XPost X W Z' H' σ x := fun cls dx Z2 H2 e2 r => h cls dx Z2 H2 (e.trans e2) r
/-- what is to hold of a result -/
def Post {α : Type} (X : Cx) (W : WX) (Z H : Hp) (σ : St) (r : R α) (P : α → Prop) : Prop :=
  match r with
  | .ok a => P a
  | .exc x => XPost X W Z H σ x
  | .stuck => False
/-- a result without exceptions -/
def Post0 {α : Type} (r : R α) (P : α → Prop) : Prop :=
  match r with
  | .ok a => P a
  | _ => False
theorem Post.mono {α : Type} {X : Cx} {W : WX} {Z H : Hp} {σ : St} {r : R α} {P P' : α → Prop} (h : Post X W Z H σ r P) (hp : ∀ a, P a → P' a) : Post X W Z H σ r P' := by
  cases r with
  | ok a => exact hp a h
  | exc x => exact h
  | stuck => exact h
theorem Post.bind {α β : Type} {X : Cx} {W : WX} {Z H : Hp} {σ : St} {r : R α} {k : α → R β} {P : β → Prop} (h : Post X W Z H σ (r >>= k) P) : Post X W Z H σ r fun a => Post X W Z H σ (k a) P := by
  cases r with
  | ok a => exact h
  | exc x => exact h
  | stuck => exact h
theorem Post.step {α : Type} {X : Cx} {W : WX} {Z H Z' H' : Hp} {σ : St} {r : R α} {P : α → Prop} (h : Post X W Z H σ r P) (e : Ext Z H Z' H') : Post X W Z' H' σ r P := by
  cases r with
  | ok a => exact h
  | exc x => exact XPost.step h e
  | stuck => exact h

abbrev EV := Rho → R D
abbrev EA := Rho → R (List D)
abbrev ET := Rho → R Bool
/-- what is asked of a value's end -/
abbrev QV (X : Cx) (Z H : Hp) (Q : VK) (d : D) : Prop := ∀ v Z' H', Ext Z H Z' H' → RD X.w X.K Z' v d → Q v H'
abbrev QB (Z H : Hp) (Q : Bool → Hp → Prop) (b : Bool) : Prop := ∀ Z' H', Ext Z H Z' H' → Q b H'

/-- the expression e computes F, frozen -/
structure Ev (X : Cx) (W : WX) (e : Expr) (F : EV) : Prop where
  go : ∀ {Z0 H0 Z H : Hp} {σ : St} {ρ : Rho} {Q : VK}, Rep X.w X.K Z0 H0 Z H σ ρ → Post X W Z H σ (F ρ) (QV X Z H Q) → PEat X e σ H Q
/-- .. a new list or dict -/
structure Eo (X : Cx) (W : WX) (e : Expr) (F : EV) : Prop where
  go : ∀ {Z0 H0 Z H : Hp} {σ : St} {ρ : Rho} {Q : VK}, Rep X.w X.K Z0 H0 Z H σ ρ → Post X W Z H σ (F ρ) (fun d => ∀ a Z' H', Ext Z H Z' H' → H a = none → Own X.w X.K Z' H' a d → Q (.ref a) H') → PEat X e σ H Q
structure Et (X : Cx) (W : WX) (e : Expr) (F : ET) : Prop where
  go : ∀ {Z0 H0 Z H : Hp} {σ : St} {ρ : Rho} {Q : Bool → Hp → Prop}, Rep X.w X.K Z0 H0 Z H σ ρ → Post X W Z H σ (F ρ) (QB Z H Q) → PTat X e σ H Q
structure Ew (X : Cx) (W : WX) (e : Expr) (F : ET) : Prop where
  go : ∀ {Z0 H0 Z H : Hp} {σ : St} {ρ : Rho} {Q : Bool → Hp → Prop}, Rep X.w X.K Z0 H0 Z H σ ρ → Post X W Z H σ (F ρ) (QB Z H Q) → PWat X e σ H Q
structure Ea (X : Cx) (W : WX) (es : List Expr) (F : EA) : Prop where
  go : ∀ {Z0 H0 Z H : Hp} {σ : St} {ρ : Rho} {Q : List V → Hp → Prop}, Rep X.w X.K Z0 H0 Z H σ ρ → Post X W Z H σ (F ρ) (fun ds => ∀ vs Z' H', Ext Z H Z' H' → RDs X.w X.K Z' vs ds → Q vs H') → PAat X es σ H Q
  len : ∀ ρ ds, F ρ = .ok ds → ds.length = es.length
  se : ∀ a as, es = a :: as → starEach (a :: as) X.env = (false, eval a X.env) :: starEach as X.env
  pl : ∀ pos, (backTo pos (starEach es X.env)).any (·.1) = false
  plt : ∀ a as, es = a :: as → ∀ pos, (backTo pos (starEach as X.env)).any (·.1) = false

section
variable {X : Cx} {W : WX} {a b c e : Expr} {es : List Expr} {pos : Pos} {F G : EV} {Fs : EA}

theorem Ew.et {F' : ET} (h : Ew X W e F') : Et X W e F' := ⟨fun r q pins s I => h.go r q _ pins s I⟩

/-- a new list is frozen -/
theorem Own.rd {w : World} {K : PySem.W.Frag} {Z H Z' H' : Hp} {a : Addr} {d : D} (x : Ext Z H Z' H') (hn : H a = none) (h : Own w K Z' H' a d) : ∃ Z'', Ext Z H Z'' H' ∧ RD w K Z'' (.ref a) d := by
  obtain ⟨o, ho, r, s1, s2⟩ := h.freeze x.zh
  refine ⟨upd Z' a o, ⟨x.hh, x.zz.trans s1, s2, fun b u h1 h2 => ?_⟩, r⟩
  rw [upd_ne (fun z => by rw [z, hn] at h2; cases h2)]
  exact x.nw b u h1 h2
theorem Eo.ev (h : Eo X W e F) : Ev X W e F := by
  refine ⟨fun r q => h.go r (q.mono fun d hd a Z' H' x hn ho => ?_)⟩
  obtain ⟨Z'', x', rd⟩ := Own.rd x hn ho
  exact hd _ _ _ x' rd

/-! ### names, constants -/
def eNone : EV := fun _ => .ok .none
def eBool (b : Bool) : EV := fun _ => .ok (.bool b)
def eInt (i : Int) : EV := fun _ => .ok (.int i)
def eStr (x : Str) : EV := fun _ => .ok (.str x)
def eD (d : D) : EV := fun _ => .ok d
def eVar (i : Nat) : EV := fun ρ => match ρ[i]? with
  | some (.f d) => .ok d
  | _ => .stuck
theorem ev_none {j p} : Ev X W (.Constant .none j p) eNone := ⟨fun r q => toAt pe_non (q _ _ _ (Ext.refl r.zh) .non)⟩
theorem ev_bool {b j p} : Ev X W (.Constant (.bool b) j p) (eBool b) := ⟨fun r q => toAt pe_bl (q _ _ _ (Ext.refl r.zh) (.bl b))⟩
theorem ev_int {i j p} : Ev X W (.Constant (.int i) j p) (eInt i) := ⟨fun r q => toAt pe_int (q _ _ _ (Ext.refl r.zh) (.int i))⟩
theorem ev_str {x j p} : Ev X W (.Constant (.str x) j p) (eStr x) := ⟨fun r q => toAt pe_str (q _ _ _ (Ext.refl r.zh) (.str x))⟩
theorem ev_var (i : Nat) {x : Str} (hN : X.N[i]? = some x := by rfl) (hv : Vis X.env.scope x := by first | exact Or.inl rfl | exact Or.inr (Or.inl rfl) | exact Or.inr (Or.inr rfl)) (hd : (x == ("__debug__" : Str)) = false := by decide)
    (hcd : (x == ("__classdict__" : Str)) = false := by decide) : Ev X W (.Name x pos) (eVar i) := by
  refine ⟨fun {Z0 H0 Z H σ ρ Q} r q => ?_⟩
  unfold eVar at q
  cases h : ρ[i]? with
  | none => rw [h] at q; exact q.elim
  | some s =>
    rw [h] at q
    cases s with
    | f d =>
      obtain ⟨v, hv', rd⟩ := r.getF h
      exact toAt (pe_var hN hv hd hcd) ⟨v, hv', q _ _ _ (Ext.refl r.zh) rd⟩
    | u => exact q.elim
    | o d => exact q.elim
    | s d => exact q.elim
/-- a module's constant -/
def GC (w : World) (K : PySem.W.Frag) (mg : Str → Option Value) (x : Str) (d : D) : Prop := ∃ v u, mg x = some u ∧ RelV v u ∧ RD w K (fun _ => none) v d
theorem ev_glob {x : Str} {d : D} (g : GC X.w X.K X.mg x d) (hg : Gl X x := by rfl) (hd : (x == ("__debug__" : Str)) = false := by decide) : Ev X W (.Name x pos) (eD d) := by
  obtain ⟨v, u, h1, h2, h3⟩ := g
  exact ⟨fun {Z0 H0 Z H σ ρ Q} r q => toAt (pe_glob hg h1 h2 hd) (q _ _ _ (Ext.refl r.zh) (h3.mono fun _ _ e => by cases e))⟩

/-! ### lists of expressions -/
def eNil : EA := fun _ => .ok []
def eCons (F : EV) (Fs : EA) : EA := fun ρ => F ρ >>= fun d => Fs ρ >>= fun ds => .ok (d :: ds)
theorem ea_nil : Ea X W [] eNil := ⟨fun r q => toAtA pa_nil (q _ _ _ (Ext.refl r.zh) .nil), fun ρ ds h => (by cases h; rfl), fun _ _ e => (by cases e), fun _ => rfl, fun _ _ e => (by cases e)⟩
theorem ea_cons (ha : Ev X W e F) (hs : Ea X W es Fs) (he : starEach (e :: es) X.env = (false, eval e X.env) :: starEach es X.env := by rfl) : Ea X W (e :: es) (eCons F Fs) := by
  refine ⟨fun {Z0 H0 Z H σ ρ Q} r q => ?_, fun ρ ds h => ?_, fun a as e => (by cases e; exact he), fun pos => ?_, fun a as e => (by cases e; exact hs.pl)⟩
  rotate_left 2
  · rw [he]
    show (false || (backTo pos (starEach es X.env)).any (·.1)) = false
    rw [hs.pl]; rfl
  · refine toAtA (pa_cons pe_at pa_at he) ?_
    refine ha.go r (q.bind.mono fun d hd v Z1 H1 x1 r1 => ?_)
    refine hs.go (r.step x1) ((hd.bind.step x1).mono fun ds hds vs Z2 H2 x2 r2 => ?_)
    exact hds _ _ _ (x1.trans x2) (.cons (r1.mono x2.zz) r2)
  · unfold eCons at h
    cases e1 : F ρ with
    | ok d =>
      rw [e1] at h
      cases e2 : Fs ρ with
      | ok r =>
        rw [R.ok_bind, e2, R.ok_bind] at h
        cases h
        rw [List.length_cons, List.length_cons, hs.len ρ r e2]
      | exc x => rw [R.ok_bind, e2] at h; cases h
      | stuck => rw [R.ok_bind, e2] at h; cases h
    | exc x => rw [e1] at h; cases h
    | stuck => rw [e1] at h; cases h
def eTup (Fs : EA) : EV := fun ρ => Fs ρ >>= fun ds => .ok (.tuple ds)
def eLst (Fs : EA) : EV := fun ρ => Fs ρ >>= fun ds => .ok (.list ds)
theorem Post.eq {α : Type} {W : WX} {Z H : Hp} {σ : St} {r : R α} {P : α → Prop} (h : Post X W Z H σ r P) : Post X W Z H σ r fun a => r = .ok a ∧ P a := by
  cases r with
  | ok a => exact ⟨rfl, h⟩
  | exc x => exact h
  | stuck => exact h
theorem ev_tup {k : Nat} (h : Ea X W es Fs) (hl : es.length ≤ 1000 := by decide) : Ev X W (.Tuple es k pos) (eTup Fs) := by
  refine ⟨fun {Z0 H0 Z H σ ρ Q} r q => toAt (pe_tup pa_at) ?_⟩
  refine h.go r (q.bind.eq.mono fun ds hds vs Z1 H1 x1 r1 => ?_)
  have hl' := h.len ρ ds hds.1
  refine ⟨by rw [r1.length, hl']; exact Nat.le_of_lt (small1000 hl), fun p hp => ?_⟩
  exact hds.2 _ _ _ (x1.trans (Ext.new x1.zh hp)) (.tup (.inl (.inl upd_same)) (r1.mono (Ext.new (o := .tup vs) x1.zh hp).zz))
theorem eo_lst (h : Ea X W es Fs) (hl : es.length ≤ 1000 := by decide) : Eo X W (.List es pos) (eLst Fs) := by
  refine ⟨fun {Z0 H0 Z H σ ρ Q} r q => toAt (pe_lst pa_at) ?_⟩
  refine h.go r (q.bind.eq.mono fun ds hds vs Z1 H1 x1 r1 => ?_)
  have hl' := h.len ρ ds hds.1
  refine ⟨by rw [r1.length, hl']; exact Nat.le_of_lt (small1000 hl), fun p hp => ?_⟩
  have zp : Z1 p = none := by
    cases e : Z1 p with
    | none => rfl
    | some u => have := x1.zh p u e; rw [hp] at this; cases this
  refine hds.2 _ _ _ (x1.trans (Ext.newO x1.zh hp)) ?_ (.lst zp upd_same r1)
  cases e : H p with
  | none => rfl
  | some u => have := x1.hh p u e; rw [hp] at this; cases this

/-! ### operators -/
/-- the rule r of an operator computes f -/
def OpD (X : Cx) (r : R2) (f : D → D → R D) : Prop := ∀ (Z H : Hp) (x y : V) (dx dy : D) (Q : VK), Same Z H → RD X.w X.K Z x dx → RD X.w X.K Z y dy → Post0 (f dx dy) (QV X Z H Q) → r x y H Q
def UnD (X : Cx) (r : V → Hp → VK → Prop) (f : D → R D) : Prop := ∀ (Z H : Hp) (x : V) (dx : D) (Q : VK), Same Z H → RD X.w X.K Z x dx → Post0 (f dx) (QV X Z H Q) → r x H Q
def CaD (X : Cx) (r : List V → Hp → VK → Prop) (f : List D → R D) : Prop := ∀ (Z H : Hp) (xs : List V) (ds : List D) (Q : VK), Same Z H → RDs X.w X.K Z xs ds → Post0 (f ds) (QV X Z H Q) → r xs H Q
/-- f never raises -/
def R.clean {α : Type} : R α → Prop
  | .exc _ => False
  | _ => True
def e1 (f : D → R D) (F : EV) : EV := fun ρ => F ρ >>= f
def e2 (f : D → D → R D) (F G : EV) : EV := fun ρ => F ρ >>= fun x => G ρ >>= fun y => f x y
def eA (f : List D → R D) (Fs : EA) : EV := fun ρ => Fs ρ >>= f
theorem Post.to0 {α : Type} {W : WX} {Z H : Hp} {σ : St} {r : R α} {P : α → Prop} (c : r.clean) (h : Post X W Z H σ r P) : Post0 r P := by
  cases r with
  | ok a => exact h
  | exc x => exact c.elim
  | stuck => exact h
theorem ev_2 {r : R2} {f : D → D → R D} (h : ∀ {ta tb : TE}, PE X a ta → PE X b tb → PE X e (tOp r ta tb)) (ho : OpD X r f) (cl : ∀ x y, (f x y).clean) (ha : Ev X W a F) (hb : Ev X W b G) : Ev X W e (e2 f F G) := by
  refine ⟨fun {Z0 H0 Z H σ ρ Q} r q => toAt (h pe_at pe_at) ?_⟩
  refine ha.go r (q.bind.mono fun d hd v Z1 H1 x1 r1 => ?_)
  refine hb.go (r.step x1) ((hd.bind.step x1).mono fun d2 hd2 v2 Z2 H2 x2 r2 => ?_)
  refine ho Z2 H2 v v2 d d2 Q x2.zh (r1.mono x2.zz) r2 ?_
  have p := hd2.to0 (cl d d2)
  cases hf : f d d2 with
  | ok z => rw [hf] at p; exact fun v3 Z3 H3 x3 r3 => p v3 Z3 H3 ((x1.trans x2).trans x3) r3
  | exc x => rw [hf] at p; exact p.elim
  | stuck => rw [hf] at p; exact p.elim
theorem ev_1 {r : V → Hp → VK → Prop} {f : D → R D} (h : ∀ {ta : TE}, PE X a ta → PE X e (tUn r ta)) (ho : UnD X r f) (cl : ∀ x, (f x).clean) (ha : Ev X W a F) : Ev X W e (e1 f F) := by
  refine ⟨fun {Z0 H0 Z H σ ρ Q} r q => toAt (h pe_at) ?_⟩
  refine ha.go r (q.bind.mono fun d hd v Z1 H1 x1 r1 => ?_)
  refine ho Z1 H1 v d Q x1.zh r1 ?_
  have p := hd.to0 (cl d)
  cases hf : f d with
  | ok z => rw [hf] at p; exact fun v3 Z3 H3 x3 r3 => p v3 Z3 H3 (x1.trans x3) r3
  | exc x => rw [hf] at p; exact p.elim
  | stuck => rw [hf] at p; exact p.elim
theorem ev_A {r : List V → Hp → VK → Prop} {f : List D → R D} (h : ∀ {ta : TA}, PA X es ta → PE X e (tCB r ta)) (ho : CaD X r f) (cl : ∀ x, (f x).clean) (ha : Ea X W es Fs) : Ev X W e (eA f Fs) := by
  refine ⟨fun {Z0 H0 Z H σ ρ Q} r q => toAt (h pa_at) ?_⟩
  refine ha.go r (q.bind.mono fun d hd v Z1 H1 x1 r1 => ?_)
  refine ho Z1 H1 v d Q x1.zh r1 ?_
  have p := hd.to0 (cl d)
  cases hf : f d with
  | ok z => rw [hf] at p; exact fun v3 Z3 H3 x3 r3 => p v3 Z3 H3 (x1.trans x3) r3
  | exc x => rw [hf] at p; exact p.elim
  | stuck => rw [hf] at p; exact p.elim
end
end PQ

/-! PQ.3: operators -/
namespace PQ
open PySem PySem.Spec PyProof.Rows L2
open PySem.W (alike alikeAll dataLt rcLt_alike)

/-- ok if c -/
def guardR {α : Type} (c : Bool) (a : α) : R α := if c = true then .ok a else .stuck
theorem guardR_true {α : Type} (a : α) : guardR true a = .ok a := rfl
theorem guardR_of {α : Type} {c : Bool} (h : c = true) (a : α) : guardR c a = .ok a := by unfold guardR; rw [if_pos h]
theorem clean_guard {α : Type} (c : Bool) (a : α) : (guardR c a).clean := by unfold guardR; split <;> trivial
theorem Post0.guard {α : Type} {c : Bool} {a : α} {P : α → Prop} (h : Post0 (guardR c a) P) : c = true ∧ P a := by
  unfold guardR at h
  split at h
  · exact ⟨by assumption, h⟩
  · exact h.elim

def fits (n : Nat) : Bool := decide (n ≤ 16777216)
theorem fits_le {n : Nat} (h : fits n = true) : n ≤ sizeLine := by
  have := of_decide_eq_true h
  rw [sizeLine_eq]; exact this

def dAdd : D → D → R D
  | .int i, .int j => .ok (.int (i + j))
  | .str a, .str b => guardR (fits (a.length + b.length)) (.str (a ++ b))
  | .tuple xs, .tuple ys => guardR (fits (xs.length + ys.length)) (.tuple (xs ++ ys))
  | .list xs, .list ys => guardR (fits (xs.length + ys.length)) (.list (xs ++ ys))
  | _, _ => .stuck
def dSub : D → D → R D
  | .int i, .int j => .ok (.int (i - j))
  | _, _ => .stuck
def mulOk (i j : Int) : Bool := decide (i.natAbs < 18446744073709551616) || decide (j.natAbs < 18446744073709551616)
def repOk (n : Nat) (k : Int) : Bool := decide (-1000000 ≤ k) && decide (k ≤ 1000000) && fits (n * k.toNat)
def dMul : D → D → R D
  | .int i, .int j => guardR (mulOk i j) (.int (i * j))
  | .str a, .int k => guardR (decide (0 ≤ k) && repOk a.length k) (.str ⟨(List.replicate k.toNat a.cps.toList).flatten.toArray⟩)
  | .list xs, .int k => guardR (repOk xs.length k) (.list (List.replicate k.toNat xs).flatten)
  | .tuple xs, .int k => guardR (!xs.isEmpty && decide (2 ≤ k) && decide (k ≤ 1000) && decide (xs.length ≤ 1000)) (.tuple (List.replicate k.toNat xs).flatten)
  | _, _ => .stuck
def divOk (j : Int) : Bool := decide (0 < j) && decide (j < 1073741824)
def dFdiv : D → D → R D
  | .int i, .int j => guardR (divOk j) (.int (i / j))
  | _, _ => .stuck
def dMod : D → D → R D
  | .int i, .int j => guardR (decide (0 < j)) (.int (i % j))
  | _, _ => .stuck
def dPow : D → D → R D
  | .int i, .int j => guardR (decide (0 ≤ j) && decide (j ≤ 1000000) && decide (i.natAbs < 18446744073709551616)) (.int (i ^ j.toNat))
  | _, _ => .stuck
def dShl : D → D → R D
  | .int i, .int j => guardR (decide (0 ≤ j) && decide (j ≤ 1000000) && decide (i.natAbs < 18446744073709551616)) (.int (i * 2 ^ j.toNat))
  | _, _ => .stuck
def dNeg : D → R D
  | .int i => .ok (.int (-i))
  | _ => .stuck

section
variable {X : Cx} {W : WX} {a b c e : Expr} {es : List Expr} {pos : Pos} {F G : EV} {Fs : EA}
theorem cl_add (x y : D) : (dAdd x y).clean := by cases x <;> cases y <;> first | trivial | exact clean_guard _ _
theorem cl_sub (x y : D) : (dSub x y).clean := by cases x <;> cases y <;> trivial
theorem cl_mul (x y : D) : (dMul x y).clean := by cases x <;> cases y <;> first | trivial | exact clean_guard _ _
theorem cl_fdiv (x y : D) : (dFdiv x y).clean := by cases x <;> cases y <;> first | trivial | exact clean_guard _ _
theorem cl_mod (x y : D) : (dMod x y).clean := by cases x <;> cases y <;> first | trivial | exact clean_guard _ _
theorem cl_pow (x y : D) : (dPow x y).clean := by cases x <;> cases y <;> first | trivial | exact clean_guard _ _
theorem cl_shl (x y : D) : (dShl x y).clean := by cases x <;> cases y <;> first | trivial | exact clean_guard _ _
theorem cl_neg (x : D) : (dNeg x).clean := by cases x <;> trivial

theorem SqT.mono {K : PySem.W.Frag} {Z H : Hp} (s : Same Z H) {p : Addr} {xs : List V} (h : SqT K Z p xs) : SqT K H p xs := by
  rcases h with (h | ⟨o, h⟩) | h
  · exact .inl (.inl (s _ _ h))
  · exact .inl (.inr ⟨o, s _ _ h⟩)
  · exact .inr h
theorem zfree {Z H : Hp} (s : Same Z H) {p : Addr} (h : H p = none) : Z p = none := by
  cases e : Z p with
  | none => rfl
  | some u => have := s p u e; rw [h] at this; cases this

abbrev rAddAll (K : PySem.W.Frag) : R2 := fun x y H Q => (fun x y H Q => rI0 (fun i j => .int (i + j)) x y H Q ∨ (∃ i j, x = .str i ∧ y = .str j ∧ i.length + j.length ≤ sizeLine ∧ Q (.str (i ++ j)) H)) x y H Q ∨ (rCatA K x y H Q ∨ rCat x y H Q)
theorem op_addAll : OpR X (binaryOp .Add) (rAddAll X.K) := (op_add.or op_add_str).or (op_catA.or op_cat)
theorem od_add : OpD X (rAddAll X.K) dAdd := by
  intro Z H x y dx dy Q s rx ry h
  cases rx <;> cases ry <;> try exact h.elim
  · exact .inl (.inl ⟨_, _, rfl, rfl, h _ _ _ (Ext.refl s) (.int _)⟩)
  · obtain ⟨hc, h⟩ := h.guard
    exact .inl (.inr ⟨_, _, rfl, rfl, fits_le hc, h _ _ _ (Ext.refl s) (.str _)⟩)
  · rename_i a1 xs ds h1 r1 a2 ys es h2 r2
    obtain ⟨hc, h⟩ := h.guard
    refine .inr (.inr ⟨a1, a2, xs, ys, rfl, rfl, s _ _ h1, s _ _ h2, by rw [r1.length, r2.length]; exact fits_le hc, fun p hp => ?_⟩)
    have x := Ext.new (o := .lst (xs ++ ys)) s hp
    exact h _ _ _ x (.lst upd_same ((r1.append r2).mono x.zz))
  · rename_i a1 xs ds h1 r1 a2 ys es h2 r2
    obtain ⟨hc, h⟩ := h.guard
    refine .inr (.inl ⟨a1, a2, xs, ys, rfl, rfl, SqT.mono s h1, SqT.mono s h2, by rw [r1.length, r2.length]; exact fits_le hc, fun e => ?_, fun _ e => ?_, fun _ _ p hp => ?_⟩)
    · subst e
      cases r1
      exact h _ _ _ (Ext.refl s) (.tup h2 r2)
    · subst e
      cases r2
      refine h _ _ _ (Ext.refl s) (.tup h1 ?_)
      rw [List.append_nil]; exact r1
    · have x := Ext.new (o := .tup (xs ++ ys)) s hp
      exact h _ _ _ x (.tup (.inl (.inl upd_same)) ((r1.append r2).mono x.zz))
theorem ev_add (ha : Ev X W a F) (hb : Ev X W b G) : Ev X W (.BinOp a .Add b pos) (e2 dAdd F G) := ev_2 (pe_op op_addAll) od_add cl_add ha hb
theorem od_sub : OpD X (rI0 fun i j => .int (i - j)) dSub := by
  intro Z H x y dx dy Q s rx ry h
  cases rx <;> cases ry <;> try exact h.elim
  exact ⟨_, _, rfl, rfl, h _ _ _ (Ext.refl s) (.int _)⟩
theorem ev_sub (ha : Ev X W a F) (hb : Ev X W b G) : Ev X W (.BinOp a .Sub b pos) (e2 dSub F G) := ev_2 (pe_op op_sub) od_sub cl_sub ha hb

/-- str * int -/
def rMulS : R2 := fun x y H Q => ∃ z k, x = .str z ∧ y = .int k ∧ 0 ≤ k ∧ k ≤ 1000000 ∧ z.length * k.toNat ≤ sizeLine ∧ Q (.str ⟨(List.replicate k.toNat z.cps.toList).flatten.toArray⟩) H
theorem str_ext {x y : Str} (h : x.cps.toList = y.cps.toList) : x = y := Str.ext' (Array.toList_inj.mp h)
theorem foldl_app (x : Array Nat) : ∀ (n : Nat) (acc : Array Nat), (List.foldl (fun x1 x2 => x1 ++ x2) acc (List.replicate n x)).toList = acc.toList ++ (List.replicate n x.toList).flatten
  | 0, acc => by simp
  | n + 1, acc => by
    rw [List.replicate_succ, List.foldl_cons, foldl_app x n, List.replicate_succ, List.flatten_cons, ← List.append_assoc]
    congr 1
    simp
theorem txt_mul (z : Str) (k : Int) (h0 : 0 ≤ k) : Txt.mul z k = ⟨(List.replicate k.toNat z.cps.toList).flatten.toArray⟩ := by
  apply str_ext
  unfold Txt.mul
  split
  · have : k = 0 := by omega
    subst this; rfl
  · split
    · rename_i h
      rw [Bool.or_eq_true, beq_iff_eq, beq_iff_eq] at h
      rcases h with h | h
      · subst h; simp
      · have : z.cps.toList = [] := by
          apply List.eq_nil_of_length_eq_zero
          rw [Array.length_toList]; exact h
        rw [this]; simp
    · show (List.foldl (fun x1 x2 => x1 ++ x2) #[] (List.replicate k.toNat z.cps)).toList = _
      rw [foldl_app]; simp
theorem op_mulS : OpR X (binaryOp .Mult) rMulS := by
  intro pins s σ H x y v u Q I rx ry h
  obtain ⟨z, k, rfl, rfl, h0, h1, hz, q⟩ := h
  obtain ⟨t, rfl⟩ := rx
  obtain ⟨t', rfl⟩ := ry
  rw [← txt_mul z k h0] at q
  refine SB.mul ⟨?_, fun h1' _ => ?_, fun h1' _ => ?_⟩ fun t2 k2 => ⟨.str _, H, I.tok _, ⟨_, rfl⟩, q⟩
  · rw [Bool.or_eq_false_iff]
    exact ⟨decide_eq_false (by omega), decide_eq_false (by omega)⟩
  · have hl : (z.length : Int) ≤ 16777216 := by
      have hk : 1 ≤ k.toNat := by omega
      have : z.length * 1 ≤ z.length * k.toNat := Nat.mul_le_mul_left _ hk
      have := sizeLine_eq
      omega
    have h2 : (16777216 : Int) ≤ (2 ^ 63 - 1) / k := by
      apply Int.le_ediv_of_mul_le (by omega)
      have : 16777216 * k ≤ 16777216 * 1000000 := by omega
      omega
    omega
  · unfold Builtin.Str.tooLong
    exact decide_eq_false (by omega)

theorem rep_fits {n : Nat} {k : Int} (h : repOk n k = true) : -1000000 ≤ k ∧ k ≤ 1000000 ∧ n * k.toNat ≤ sizeLine := by
  unfold repOk at h
  rw [Bool.and_eq_true, Bool.and_eq_true] at h
  exact ⟨of_decide_eq_true h.1.1, of_decide_eq_true h.1.2, fits_le h.2⟩
abbrev rMulAll (K : PySem.W.Frag) : R2 := fun x y H Q => (fun x y H Q => rI CMul (fun i j => .int (i * j)) x y H Q ∨ rMulS x y H Q) x y H Q ∨ (rRep x y H Q ∨ rRepT K x y H Q)
theorem op_mulAll : OpR X (binaryOp .Mult) (rMulAll X.K) := (op_mul.or op_mulS).or (op_rep.or op_repT)
theorem od_mul : OpD X (rMulAll X.K) dMul := by
  intro Z H x y dx dy Q s rx ry h
  cases rx <;> cases ry <;> try exact h.elim
  · obtain ⟨hc, h⟩ := h.guard
    refine .inl (.inl ⟨_, _, rfl, rfl, ?_, h _ _ _ (Ext.refl s) (.int _)⟩)
    unfold mulOk at hc
    rw [Bool.or_eq_true, decide_eq_true_eq, decide_eq_true_eq] at hc
    unfold CMul
    omega
  · obtain ⟨hc, h⟩ := h.guard
    rw [Bool.and_eq_true, decide_eq_true_eq] at hc
    obtain ⟨h1, h2, h3⟩ := rep_fits hc.2
    exact .inl (.inr ⟨_, _, rfl, rfl, hc.1, h2, h3, h _ _ _ (Ext.refl s) (.str _)⟩)
  · rename_i a1 xs ds h1 r1 k
    obtain ⟨hc, h⟩ := h.guard
    obtain ⟨c1, c2, c3⟩ := rep_fits hc
    refine .inr (.inl ⟨a1, k, xs, rfl, rfl, s _ _ h1, by omega, by omega, by rw [r1.length]; exact c3, fun p hp => ?_⟩)
    have x := Ext.new (o := .lst (List.replicate k.toNat xs).flatten) s hp
    exact h _ _ _ x (.lst upd_same ((r1.rep _).mono x.zz))
  · rename_i a1 xs ds h1 r1 k
    obtain ⟨hc, h⟩ := h.guard
    simp only [Bool.and_eq_true, decide_eq_true_eq, Bool.not_eq_true'] at hc
    refine .inr (.inr ⟨a1, k, xs, rfl, rfl, SqT.mono s h1, ?_, hc.1.1.2, hc.1.2, by rw [r1.length]; exact hc.2, fun p hp => ?_⟩)
    · intro e
      subst e
      cases r1
      simp at hc
    · have x := Ext.new (o := .tup (List.replicate k.toNat xs).flatten) s hp
      exact h _ _ _ x (.tup (.inl (.inl upd_same)) ((r1.rep _).mono x.zz))
theorem ev_mul (ha : Ev X W a F) (hb : Ev X W b G) : Ev X W (.BinOp a .Mult b pos) (e2 dMul F G) := ev_2 (pe_op op_mulAll) od_mul cl_mul ha hb
theorem od_fdiv : OpD X (rI CDiv fun i j => .int (i / j)) dFdiv := by
  intro Z H x y dx dy Q s rx ry h
  cases rx <;> cases ry <;> try exact h.elim
  obtain ⟨hc, h⟩ := h.guard
  unfold divOk at hc
  rw [Bool.and_eq_true, decide_eq_true_eq, decide_eq_true_eq] at hc
  exact ⟨_, _, rfl, rfl, hc, h _ _ _ (Ext.refl s) (.int _)⟩
theorem ev_fdiv (ha : Ev X W a F) (hb : Ev X W b G) : Ev X W (.BinOp a .FloorDiv b pos) (e2 dFdiv F G) := ev_2 (pe_op op_fdiv) od_fdiv cl_fdiv ha hb
theorem od_mod : OpD X (rI (fun _ j => 0 < j) fun i j => .int (i % j)) dMod := by
  intro Z H x y dx dy Q s rx ry h
  cases rx <;> cases ry <;> try exact h.elim
  obtain ⟨hc, h⟩ := h.guard
  exact ⟨_, _, rfl, rfl, of_decide_eq_true hc, h _ _ _ (Ext.refl s) (.int _)⟩
theorem ev_mod (ha : Ev X W a F) (hb : Ev X W b G) : Ev X W (.BinOp a .Mod b pos) (e2 dMod F G) := ev_2 (pe_op op_mod) od_mod cl_mod ha hb
theorem od_pow : OpD X (rI CPow fun i j => .int (i ^ j.toNat)) dPow := by
  intro Z H x y dx dy Q s rx ry h
  cases rx <;> cases ry <;> try exact h.elim
  obtain ⟨hc, h⟩ := h.guard
  simp only [Bool.and_eq_true, decide_eq_true_eq] at hc
  exact ⟨_, _, rfl, rfl, ⟨hc.1.1, hc.1.2, by omega⟩, h _ _ _ (Ext.refl s) (.int _)⟩
theorem ev_pow (ha : Ev X W a F) (hb : Ev X W b G) : Ev X W (.BinOp a .Pow b pos) (e2 dPow F G) := ev_2 (pe_op op_pow) od_pow cl_pow ha hb
theorem od_shl : OpD X (rI CPow fun i j => .int (i * 2 ^ j.toNat)) dShl := by
  intro Z H x y dx dy Q s rx ry h
  cases rx <;> cases ry <;> try exact h.elim
  obtain ⟨hc, h⟩ := h.guard
  simp only [Bool.and_eq_true, decide_eq_true_eq] at hc
  exact ⟨_, _, rfl, rfl, ⟨hc.1.1, hc.1.2, by omega⟩, h _ _ _ (Ext.refl s) (.int _)⟩
theorem ev_shl (ha : Ev X W a F) (hb : Ev X W b G) : Ev X W (.BinOp a .LShift b pos) (e2 dShl F G) := ev_2 (pe_op op_shl) od_shl cl_shl ha hb
theorem ud_neg : UnD X (rU fun i => .int (-i)) dNeg := by
  intro Z H x dx Q s rx h
  cases rx <;> try exact h.elim
  exact ⟨_, rfl, h _ _ _ (Ext.refl s) (.int _)⟩
theorem ev_neg (ha : Ev X W a F) : Ev X W (.UnaryOp .USub a pos) (e1 dNeg F) := ev_1 (pe_un un_neg) ud_neg cl_neg ha

/-! ### comparisons -/
def eqOk (x y : D) : Bool := x.plain && y.plain && decide (min x.depth y.depth ≤ 60)
def dEq (x y : D) : R D := guardR (eqOk x y) (.bool (PyData.eqv x y))
def dNe (x y : D) : R D := guardR (eqOk x y) (.bool (!PyData.eqv x y))
theorem cl_eq (x y : D) : (dEq x y).clean := clean_guard _ _
theorem cl_ne (x y : D) : (dNe x y).clean := clean_guard _ _
mutual
theorem plain_noDict : ∀ d : D, d.plain = true → noDict d = true
  | .none, _ => rfl
  | .bool _, _ => rfl
  | .int _, _ => rfl
  | .str _, _ => rfl
  | .list xs, h => by
    rw [noDict]; exact plains_noDict xs (by simpa [PyData.plain] using h)
  | .tuple xs, h => by
    rw [noDict]; exact plains_noDict xs (by simpa [PyData.plain] using h)
  | .dict _, h => by simp [PyData.plain] at h
theorem plains_noDict : ∀ d : List D, PyData.plainAll d = true → noDicts d = true
  | [], _ => rfl
  | d :: ds, h => by
    simp only [PyData.plainAll, Bool.and_eq_true] at h
    simp only [noDicts, plain_noDict d h.1, plains_noDict ds h.2, Bool.and_self]
end
theorem Dp.mono2 {K : PySem.W.Frag} {Z H : Hp} {w : World} (s : Same Z H) {v : V} {d : D} (h : RD w K Z v d) (p : d.plain = true) : Dp K H v d := (h.mono s).dp (plain_noDict d p)
def rEqP (K : PySem.W.Frag) (neg : Bool) : R2 := fun x y H Q => ∃ d e, Dp K H x d ∧ Dp K H y e ∧ eqOk d e = true ∧ Q (.bl (if neg then !PyData.eqv d e else PyData.eqv d e)) H
theorem op_eqP (hu : X.A.units + 64 < cLine) : OpR X (compareOp .Eq) (rEqP X.K false) := by
  intro pins s σ H x y v u Q I rx ry h
  obtain ⟨d, e, hd, he, sd, q⟩ := h
  obtain ⟨as, r1⟩ := Dp.reads I d x v hd rx
  obtain ⟨bs, r2⟩ := Dp.reads I e y u he ry
  simp only [eqOk, Bool.and_eq_true, decide_eq_true_eq] at sd
  exact SeqAt.eq_plain r1 r2 sd.1.1 sd.1.2 (by omega) ⟨.bl _, H, I, rfl, q⟩
theorem op_neP (hu : X.A.units + 64 < cLine) : OpR X (compareOp .NotEq) (rEqP X.K true) := by
  intro pins s σ H x y v u Q I rx ry h
  obtain ⟨d, e, hd, he, sd, q⟩ := h
  obtain ⟨as, r1⟩ := Dp.reads I d x v hd rx
  obtain ⟨bs, r2⟩ := Dp.reads I e y u he ry
  simp only [eqOk, Bool.and_eq_true, decide_eq_true_eq] at sd
  exact SeqAt.ne_plain r1 r2 sd.1.1 sd.1.2 (by omega) ⟨.bl _, H, I, rfl, q⟩
theorem eqOk_plain {x y : D} (h : eqOk x y = true) : x.plain = true ∧ y.plain = true := by
  simp only [eqOk, Bool.and_eq_true] at h
  exact h.1
theorem od_eq : OpD X (rEqP X.K false) dEq := by
  intro Z H x y dx dy Q s rx ry h
  obtain ⟨hc, h⟩ := h.guard
  obtain ⟨p1, p2⟩ := eqOk_plain hc
  exact ⟨dx, dy, Dp.mono2 s rx p1, Dp.mono2 s ry p2, hc, h _ _ _ (Ext.refl s) (.bl _)⟩
theorem od_ne : OpD X (rEqP X.K true) dNe := by
  intro Z H x y dx dy Q s rx ry h
  obtain ⟨hc, h⟩ := h.guard
  obtain ⟨p1, p2⟩ := eqOk_plain hc
  exact ⟨dx, dy, Dp.mono2 s rx p1, Dp.mono2 s ry p2, hc, h _ _ _ (Ext.refl s) (.bl _)⟩
/-- there is room for what an operator does -/
abbrev HasRoom (X : Cx) : Prop := X.A.units + 100 < cLine
theorem ev_eq (hu : HasRoom X) (ha : Ev X W a F) (hb : Ev X W b G) : Ev X W (.Compare a [.Eq] [b] pos) (e2 dEq F G) :=
  ev_2 (fun p q => pe_cmpR (op_eqP (by have : X.A.units + 100 < cLine := hu; omega)) p q (nomark _)) od_eq cl_eq ha hb
theorem ev_ne (hu : HasRoom X) (ha : Ev X W a F) (hb : Ev X W b G) : Ev X W (.Compare a [.NotEq] [b] pos) (e2 dNe F G) :=
  ev_2 (fun p q => pe_cmpR (op_neP (by have : X.A.units + 100 < cLine := hu; omega)) p q (nomark _)) od_ne cl_ne ha hb

/-- order: ints; texts, tuples by < -/
def ltOk (x y : D) : Bool := alike x y && x.plain && y.plain && (match x with | .none => false | _ => true) && decide (min x.depth y.depth ≤ 60)
def dLt (x y : D) : R D := match x, y with
  | .int i, .int j => .ok (.bool (decide (i < j)))
  | x, y => guardR (ltOk x y) (.bool (dataLt x y))
def dLe : D → D → R D
  | .int i, .int j => .ok (.bool (decide (i ≤ j)))
  | _, _ => .stuck
def dGt : D → D → R D
  | .int i, .int j => .ok (.bool (decide (j < i)))
  | _, _ => .stuck
def dGe : D → D → R D
  | .int i, .int j => .ok (.bool (decide (j ≤ i)))
  | _, _ => .stuck
theorem cl_lt (x y : D) : (dLt x y).clean := by unfold dLt; split <;> first | trivial | exact clean_guard _ _
theorem cl_le (x y : D) : (dLe x y).clean := by cases x <;> cases y <;> trivial
theorem cl_gt (x y : D) : (dGt x y).clean := by cases x <;> cases y <;> trivial
theorem cl_ge (x y : D) : (dGe x y).clean := by cases x <;> cases y <;> trivial
def rLtP (K : PySem.W.Frag) : R2 := fun x y H Q => ∃ d e, Dp K H x d ∧ Dp K H y e ∧ ltOk d e = true ∧ Q (.bl (dataLt d e)) H
theorem op_ltP (hu : X.A.units + 64 < cLine) : OpR X (compareOp .Lt) (rLtP X.K) := by
  intro pins s σ H x y v u Q I rx ry h
  obtain ⟨d, e, hd, he, sd, q⟩ := h
  obtain ⟨as, r1⟩ := Dp.reads I d x v hd rx
  obtain ⟨bs, r2⟩ := Dp.reads I e y u he ry
  simp only [ltOk, Bool.and_eq_true, decide_eq_true_eq] at sd
  exact rcLt_alike d e X.A s v u as bs r1 r2 sd.1.1.1.1 (fun z => by rw [z] at sd; simp at sd) (by omega) X.prog X.w X.xe _ ⟨.bl _, H, I, rfl, q⟩
abbrev rLtAll (K : PySem.W.Frag) : R2 := fun x y H Q => rI0 (fun i j => .bl (decide (i < j))) x y H Q ∨ rLtP K x y H Q
theorem od_lt : OpD X (rLtAll X.K) dLt := by
  intro Z H x y dx dy Q s rx ry h
  unfold dLt at h
  split at h
  · cases rx; cases ry
    exact .inl ⟨_, _, rfl, rfl, h _ _ _ (Ext.refl s) (.bl _)⟩
  · obtain ⟨hc, h⟩ := h.guard
    have hc' := hc
    simp only [ltOk, Bool.and_eq_true] at hc'
    exact .inr ⟨dx, dy, Dp.mono2 s rx hc'.1.1.1.2, Dp.mono2 s ry hc'.1.1.2, hc, h _ _ _ (Ext.refl s) (.bl _)⟩
theorem ev_lt (hu : HasRoom X) (ha : Ev X W a F) (hb : Ev X W b G) : Ev X W (.Compare a [.Lt] [b] pos) (e2 dLt F G) :=
  ev_2 (fun p q => pe_cmpR (op_lt.or (op_ltP (by have : X.A.units + 100 < cLine := hu; omega))) p q (nomark _)) od_lt cl_lt ha hb
theorem od_le : OpD X (rI0 fun i j => .bl (decide (i ≤ j))) dLe := by
  intro Z H x y dx dy Q s rx ry h
  cases rx <;> cases ry <;> try exact h.elim
  exact ⟨_, _, rfl, rfl, h _ _ _ (Ext.refl s) (.bl _)⟩
theorem od_gt : OpD X (rI0 fun i j => .bl (decide (j < i))) dGt := by
  intro Z H x y dx dy Q s rx ry h
  cases rx <;> cases ry <;> try exact h.elim
  exact ⟨_, _, rfl, rfl, h _ _ _ (Ext.refl s) (.bl _)⟩
theorem od_ge : OpD X (rI0 fun i j => .bl (decide (j ≤ i))) dGe := by
  intro Z H x y dx dy Q s rx ry h
  cases rx <;> cases ry <;> try exact h.elim
  exact ⟨_, _, rfl, rfl, h _ _ _ (Ext.refl s) (.bl _)⟩
theorem ev_le (ha : Ev X W a F) (hb : Ev X W b G) : Ev X W (.Compare a [.LtE] [b] pos) (e2 dLe F G) := ev_2 (fun p q => pe_cmpR op_le p q (nomark _)) od_le cl_le ha hb
theorem ev_gt (ha : Ev X W a F) (hb : Ev X W b G) : Ev X W (.Compare a [.Gt] [b] pos) (e2 dGt F G) := ev_2 (fun p q => pe_cmpR op_gt p q (nomark _)) od_gt cl_gt ha hb
theorem ev_ge (ha : Ev X W a F) (hb : Ev X W b G) : Ev X W (.Compare a [.GtE] [b] pos) (e2 dGe F G) := ev_2 (fun p q => pe_cmpR op_ge p q (nomark _)) od_ge cl_ge ha hb

/-- is None, is not None -/
def isNone : D → Bool
  | .none => true
  | _ => false
def dIsN (x : D) : R D := .ok (.bool (isNone x))
def dNotN (x : D) : R D := .ok (.bool (!isNone x))
theorem rd_none {w : World} {K : PySem.W.Frag} {Z : Hp} {v : V} {d : D} (h : RD w K Z v d) : decide (v = .non) = isNone d := by
  cases h <;> first | rfl | (simp [isNone])
theorem ev_isN {j p} (ha : Ev X W a F) : Ev X W (.Compare a [.Is] [.Constant .none j p] pos) (e1 dIsN F) := by
  refine ⟨fun {Z0 H0 Z H σ ρ Q} r q => toAt (pe_cmp (pc_isN pe_at) rfl) ?_⟩
  refine ha.go r (q.bind.mono fun d hd v Z1 H1 x1 r1 => ?_)
  show Q (.bl (decide (v = .non))) H1
  rw [rd_none r1]
  exact hd _ _ _ x1 (.bl _)
theorem ev_notN {j p} (ha : Ev X W a F) : Ev X W (.Compare a [.IsNot] [.Constant .none j p] pos) (e1 dNotN F) := by
  refine ⟨fun {Z0 H0 Z H σ ρ Q} r q => toAt (pe_cmp (pc_notN pe_at) rfl) ?_⟩
  refine ha.go r (q.bind.mono fun d hd v Z1 H1 x1 r1 => ?_)
  show Q (.bl (!decide (v = .non))) H1
  rw [rd_none r1]
  exact hd _ _ _ x1 (.bl _)
end
end PQ

/-! PQ.4: tests, chains, in, built-in calls, subscripts, slices -/
namespace PQ
open PySem PySem.Spec PyProof.Rows L2
open PySem.W (alike alikeAll dataLt rcLt_alike)

def asB : D → R Bool
  | .bool b => .ok b
  | _ => .stuck
def dLtI : D → D → R D
  | .int i, .int j => .ok (.bool (decide (i < j)))
  | _, _ => .stuck
theorem cl_ltI (x y : D) : (dLtI x y).clean := by cases x <;> cases y <;> trivial
theorem cl_asB (x : D) : (asB x).clean := by cases x <;> trivial
section
variable {X : Cx} {W : WX} {a b c e : Expr} {es rest : List Expr} {pos : Pos} {F G I : EV} {T U : ET} {Fs : EA}

def tV (F : EV) : ET := fun ρ => F ρ >>= asB
theorem rd_bool {w : World} {K : PySem.W.Frag} {Z : Hp} {v : V} {b : Bool} (h : RD w K Z v (.bool b)) : v = .bl b := by cases h; rfl
theorem et_val (ha : Ev X W a F) (he : ∀ whole, isTrue a X.env whole = (do let v ← whole; standAt a.pos; holding [v] (truthy v)) := by intro _; rfl) : Et X W a (tV F) := by
  refine ⟨fun {Z0 H0 Z H σ ρ Q} r q => toAtT (pt_val pe_at he) ?_⟩
  refine ha.go r (q.bind.mono fun d hd v Z1 H1 x1 r1 => ?_)
  cases d with
  | bool b => cases r1; exact ⟨b, rfl, hd _ _ x1⟩
  | _ => exact hd.elim
def tNotB (T : ET) : ET := fun ρ => T ρ >>= fun b => .ok (!b)
theorem et_not (ha : Et X W a T) : Et X W (.UnaryOp .Not a pos) (tNotB T) := by
  refine ⟨fun {Z0 H0 Z H σ ρ Q} r q => toAtT (pt_not pt_at) ?_⟩
  exact ha.go r (q.bind.mono fun b hb Z1 H1 x1 => hb _ _ x1)
def tAndB (T U : ET) : ET := fun ρ => T ρ >>= fun b => if b = true then U ρ else .ok false
def tOrB (T U : ET) : ET := fun ρ => T ρ >>= fun b => if b = true then .ok true else U ρ
theorem ew_and1 (ha : Et X W a T) : Ew X W (.BoolOp .And [a] pos) T := ⟨fun r q => toAtW (pw_and1 pt_at) (ha.go r q)⟩
theorem ew_or1 (ha : Et X W a T) : Ew X W (.BoolOp .Or [a] pos) T := ⟨fun r q => toAtW (pw_or1 pt_at) (ha.go r q)⟩
theorem ew_and (ha : Et X W a T) (hb : Ew X W (.BoolOp .And (b :: rest) pos) U) : Ew X W (.BoolOp .And (a :: b :: rest) pos) (tAndB T U) := by
  refine ⟨fun {Z0 H0 Z H σ ρ Q} r q => toAtW (pw_and pt_at pw_at) ?_⟩
  refine ha.go r (q.bind.mono fun k hk Z1 H1 x1 => ?_)
  cases k with
  | true =>
    show PWat X _ σ H1 Q
    rw [if_pos rfl] at hk
    exact hb.go (r.step x1) ((hk.step x1).mono fun k hk Z2 H2 x2 => hk _ _ (x1.trans x2))
  | false => exact hk _ _ x1
theorem ew_or (ha : Et X W a T) (hb : Ew X W (.BoolOp .Or (b :: rest) pos) U) : Ew X W (.BoolOp .Or (a :: b :: rest) pos) (tOrB T U) := by
  refine ⟨fun {Z0 H0 Z H σ ρ Q} r q => toAtW (pw_or pt_at pw_at) ?_⟩
  refine ha.go r (q.bind.mono fun k hk Z1 H1 x1 => ?_)
  cases k with
  | false =>
    show PWat X _ σ H1 Q
    rw [if_neg Bool.false_ne_true] at hk
    exact hb.go (r.step x1) ((hk.step x1).mono fun k hk Z2 H2 x2 => hk _ _ (x1.trans x2))
  | true => exact hk _ _ x1
/-- and, or, not as values: bools -/
def eAnd (F G : EV) : EV := fun ρ => F ρ >>= asB >>= fun b => if b = true then G ρ else .ok (.bool false)
def eOr (F G : EV) : EV := fun ρ => F ρ >>= asB >>= fun b => if b = true then .ok (.bool true) else G ρ
def eNot (F : EV) : EV := fun ρ => F ρ >>= asB >>= fun b => .ok (.bool (!b))
theorem ev_one {op} (h : Ev X W a F) : Ev X W (.BoolOp op [a] pos) F := ⟨fun r q => toAt (pe_one pe_at) (h.go r q)⟩
theorem ev_and (ha : Ev X W a F) (hb : Ev X W (.BoolOp .And (b :: rest) pos) G) : Ev X W (.BoolOp .And (a :: b :: rest) pos) (eAnd F G) := by
  refine ⟨fun {Z0 H0 Z H σ ρ Q} r q => toAt (pe_and pe_at pe_at) ?_⟩
  refine ha.go r (q.bind.bind.mono fun d hd v Z1 H1 x1 r1 => ?_)
  cases d with
  | bool k =>
    cases r1
    refine ⟨k, rfl, ?_⟩
    cases k with
    | true =>
      have hd : Post X W Z H σ (G ρ) (QV X Z H Q) := hd
      exact hb.go (r.step x1) ((Post.step hd x1).mono fun d hd v Z2 H2 x2 r2 => hd _ _ _ (x1.trans x2) r2)
    | false => exact hd _ _ _ x1 (.bl _)
  | _ => exact hd.elim
theorem ev_or (ha : Ev X W a F) (hb : Ev X W (.BoolOp .Or (b :: rest) pos) G) : Ev X W (.BoolOp .Or (a :: b :: rest) pos) (eOr F G) := by
  refine ⟨fun {Z0 H0 Z H σ ρ Q} r q => toAt (pe_or pe_at pe_at) ?_⟩
  refine ha.go r (q.bind.bind.mono fun d hd v Z1 H1 x1 r1 => ?_)
  cases d with
  | bool k =>
    cases r1
    refine ⟨k, rfl, ?_⟩
    cases k with
    | false =>
      have hd : Post X W Z H σ (G ρ) (QV X Z H Q) := hd
      exact hb.go (r.step x1) ((Post.step hd x1).mono fun d hd v Z2 H2 x2 r2 => hd _ _ _ (x1.trans x2) r2)
    | true => exact hd _ _ _ x1 (.bl _)
  | _ => exact hd.elim
theorem ev_not (ha : Ev X W a F) : Ev X W (.UnaryOp .Not a pos) (eNot F) := by
  refine ⟨fun {Z0 H0 Z H σ ρ Q} r q => toAt (pe_not pe_at) ?_⟩
  refine ha.go r (q.bind.bind.mono fun d hd v Z1 H1 x1 r1 => ?_)
  cases d with
  | bool k => cases r1; exact ⟨k, rfl, hd _ _ _ x1 (.bl _)⟩
  | _ => exact hd.elim
def eIte (T : ET) (F G : EV) : EV := fun ρ => T ρ >>= fun b => if b = true then F ρ else G ρ
theorem ev_ite (hc : Et X W c T) (ha : Ev X W a F) (hb : Ev X W b G) : Ev X W (.IfExp c a b pos) (eIte T F G) := by
  refine ⟨fun {Z0 H0 Z H σ ρ Q} r q => toAt (pe_ifExp pt_at pe_at pe_at) ?_⟩
  refine hc.go r (q.bind.mono fun k hk Z1 H1 x1 => ?_)
  cases k with
  | true => exact ha.go (r.step x1) ((Post.step hk x1).mono fun d hd v Z2 H2 x2 r2 => hd _ _ _ (x1.trans x2) r2)
  | false => exact hb.go (r.step x1) ((Post.step hk x1).mono fun d hd v Z2 H2 x2 r2 => hd _ _ _ (x1.trans x2) r2)

/-- a op b op' c -/
def eCh (f g : D → D → R D) (F G I : EV) : EV := fun ρ => F ρ >>= fun x => G ρ >>= fun y => f x y >>= asB >>= fun k => if k = true then I ρ >>= fun z => g y z else .ok (.bool false)
theorem chain_go {r1 r2 : R2} {f g : D → D → R D} (o1 : OpD X r1 f) (c1 : ∀ x y, (f x y).clean) (o2 : OpD X r2 g) (c2 : ∀ x y, (g x y).clean) (ha : Ev X W a F) (hb : Ev X W b G) (hc : Ev X W c I)
    {Z0 H0 Z H : Hp} {σ : St} {ρ : Rho} {Q : VK} (r : Rep X.w X.K Z0 H0 Z H σ ρ) (q : Post X W Z H σ (eCh f g F G I ρ) (QV X Z H Q)) : tChain r1 r2 (PEat X a) (PEat X b) (PEat X c) σ H Q := by
  refine ha.go r (q.bind.mono fun d hd v Z1 H1 x1 rd1 => ?_)
  refine hb.go (r.step x1) ((hd.bind.step x1).mono fun d2 hd2 v2 Z2 H2 x2 rd2 => ?_)
  refine o1 Z2 H2 v v2 d d2 _ x2.zh (rd1.mono x2.zz) rd2 ?_
  have p := hd2.bind.bind
  have cl := c1 d d2
  cases hf : f d d2 with
  | ok z =>
    rw [hf] at p
    intro v3 Z3 H3 x3 rd3
    cases z with
    | bool k =>
      cases rd3
      refine ⟨k, rfl, ?_⟩
      have x13 := (x1.trans x2).trans x3
      cases k with
      | false =>
        rw [if_neg Bool.false_ne_true]
        exact p _ _ _ x13 (.bl _)
      | true =>
        rw [if_pos rfl]
        have p : Post X W Z H σ (I ρ >>= fun z => g d2 z) (QV X Z H Q) := p
        refine hc.go (r.step x13) ((p.bind.step x13).mono fun d4 hd4 v4 Z4 H4 x4 rd4 => ?_)
        refine o2 Z4 H4 v2 v4 d2 d4 Q x4.zh (rd2.mono (x3.trans x4).zz) rd4 ?_
        have p4 := hd4.to0 (c2 d2 d4)
        cases hg : g d2 d4 with
        | ok z => rw [hg] at p4; exact fun v5 Z5 H5 x5 r5 => p4 v5 Z5 H5 ((x13.trans x4).trans x5) r5
        | exc x => rw [hg] at p4; exact p4.elim
        | stuck => rw [hg] at p4; exact p4.elim
    | _ => exact p.elim
  | exc x => rw [hf] at cl; exact cl.elim
  | stuck => rw [hf] at p; exact p.elim
theorem ev_ch {op op' : CmpOp} {r1 r2 : R2} {f g : D → D → R D} (h1 : OpR X (compareOp op) r1) (h2 : OpR X (compareOp op') r2) (o1 : OpD X r1 f) (c1 : ∀ x y, (f x y).clean) (o2 : OpD X r2 g) (c2 : ∀ x y, (g x y).clean)
    (ha : Ev X W a F) (hb : Ev X W b G) (hc : Ev X W c I) (hm : lastMarks [op, op'] [b, c] = false := by with_unfolding_all rfl) : Ev X W (.Compare a [op, op'] [b, c] pos) (eCh f g F G I) :=
  ⟨fun r q => toAt (pe_chain h1 h2 pe_at pe_at pe_at hm) (chain_go o1 c1 o2 c2 ha hb hc r q)⟩
theorem et_ch {op op' : CmpOp} {r1 r2 : R2} {f g : D → D → R D} (h1 : OpR X (compareOp op) r1) (h2 : OpR X (compareOp op') r2) (o1 : OpD X r1 f) (c1 : ∀ x y, (f x y).clean) (o2 : OpD X r2 g) (c2 : ∀ x y, (g x y).clean)
    (ha : Ev X W a F) (hb : Ev X W b G) (hc : Ev X W c I) (hm : lastMarks [op, op'] [b, c] = false := by with_unfolding_all rfl) : Et X W (.Compare a [op, op'] [b, c] pos) (tV (eCh f g F G I)) := by
  refine ⟨fun {Z0 H0 Z H σ ρ Q} r q => toAtT (pt_chain h1 h2 pe_at pe_at pe_at hm) ?_⟩
  refine chain_go o1 c1 o2 c2 ha hb hc r (q.bind.mono fun d hd v Z1 H1 x1 r1 => ?_)
  cases d with
  | bool k => cases r1; exact ⟨k, rfl, hd _ _ x1⟩
  | _ => exact hd.elim
theorem od_ltI : OpD X (rI0 fun i j => .bl (decide (i < j))) dLtI := by
  intro Z H x y dx dy Q s rx ry h
  cases rx <;> cases ry <;> try exact h.elim
  exact ⟨_, _, rfl, rfl, h _ _ _ (Ext.refl s) (.bl _)⟩
theorem ev_lele (ha : Ev X W a F) (hb : Ev X W b G) (hc : Ev X W c I) (hm : lastMarks [.LtE, .LtE] [b, c] = false := by with_unfolding_all rfl) : Ev X W (.Compare a [.LtE, .LtE] [b, c] pos) (eCh dLe dLe F G I) := ev_ch op_le op_le od_le cl_le od_le cl_le ha hb hc hm
theorem ev_lelt (ha : Ev X W a F) (hb : Ev X W b G) (hc : Ev X W c I) (hm : lastMarks [.LtE, .Lt] [b, c] = false := by with_unfolding_all rfl) : Ev X W (.Compare a [.LtE, .Lt] [b, c] pos) (eCh dLe dLtI F G I) := ev_ch op_le op_lt od_le cl_le od_ltI cl_ltI ha hb hc hm
theorem ev_ltlt (ha : Ev X W a F) (hb : Ev X W b G) (hc : Ev X W c I) (hm : lastMarks [.Lt, .Lt] [b, c] = false := by with_unfolding_all rfl) : Ev X W (.Compare a [.Lt, .Lt] [b, c] pos) (eCh dLtI dLtI F G I) := ev_ch op_lt op_lt od_ltI cl_ltI od_ltI cl_ltI ha hb hc hm
theorem ev_ltle (ha : Ev X W a F) (hb : Ev X W b G) (hc : Ev X W c I) (hm : lastMarks [.Lt, .LtE] [b, c] = false := by with_unfolding_all rfl) : Ev X W (.Compare a [.Lt, .LtE] [b, c] pos) (eCh dLtI dLe F G I) := ev_ch op_lt op_le od_ltI cl_ltI od_le cl_le ha hb hc hm
theorem et_lele (ha : Ev X W a F) (hb : Ev X W b G) (hc : Ev X W c I) (hm : lastMarks [.LtE, .LtE] [b, c] = false := by with_unfolding_all rfl) : Et X W (.Compare a [.LtE, .LtE] [b, c] pos) (tV (eCh dLe dLe F G I)) := et_ch op_le op_le od_le cl_le od_le cl_le ha hb hc hm
theorem et_lelt (ha : Ev X W a F) (hb : Ev X W b G) (hc : Ev X W c I) (hm : lastMarks [.LtE, .Lt] [b, c] = false := by with_unfolding_all rfl) : Et X W (.Compare a [.LtE, .Lt] [b, c] pos) (tV (eCh dLe dLtI F G I)) := et_ch op_le op_lt od_le cl_le od_ltI cl_ltI ha hb hc hm
theorem et_ltlt (ha : Ev X W a F) (hb : Ev X W b G) (hc : Ev X W c I) (hm : lastMarks [.Lt, .Lt] [b, c] = false := by with_unfolding_all rfl) : Et X W (.Compare a [.Lt, .Lt] [b, c] pos) (tV (eCh dLtI dLtI F G I)) := et_ch op_lt op_lt od_ltI cl_ltI od_ltI cl_ltI ha hb hc hm
theorem et_ltle (ha : Ev X W a F) (hb : Ev X W b G) (hc : Ev X W c I) (hm : lastMarks [.Lt, .LtE] [b, c] = false := by with_unfolding_all rfl) : Et X W (.Compare a [.Lt, .LtE] [b, c] pos) (tV (eCh dLtI dLe F G I)) := et_ch op_lt op_le od_ltI cl_ltI od_le cl_le ha hb hc hm

/-! ### in, not in -/
def inOk (xs : List D) (d : D) : Bool := PyData.plainAll xs && d.plain && decide (min (PyData.depthAll xs) d.depth ≤ 60)
theorem inOk_plain {xs : List D} {d : D} (h : inOk xs d = true) : PyData.plainAll xs = true ∧ d.plain = true := by
  simp only [inOk, Bool.and_eq_true] at h
  exact h.1
def dIn : D → D → R D
  | .str x, .str z => guardR (x.cps.size == 1) (.bool (decide (x.cps.getD 0 0 ∈ z.cps.toList)))
  | d, .list xs => guardR (inOk xs d) (.bool (xs.any fun y => PyData.eqv y d))
  | d, .tuple xs => guardR (inOk xs d) (.bool (xs.any fun y => PyData.eqv y d))
  | _, _ => .stuck
def dNotIn (x y : D) : R D := dIn x y >>= fun d => asB d >>= fun b => .ok (.bool (!b))
theorem cl_in (x y : D) : (dIn x y).clean := by unfold dIn; split <;> first | trivial | exact clean_guard _ _
theorem cl_notIn (x y : D) : (dNotIn x y).clean := by
  have := cl_in x y
  unfold dNotIn
  cases h : dIn x y with
  | ok d => cases d <;> trivial
  | exc x => rw [h] at this; exact this.elim
  | stuck => trivial
def rInP (K : PySem.W.Frag) (neg : Bool) : R2 := fun x y H Q => (∃ (c : Nat) (z : Str), x = .str ⟨#[c]⟩ ∧ y = .str z ∧ Q (.bl (if neg then !decide (c ∈ z.cps.toList) else decide (c ∈ z.cps.toList))) H) ∨
  (∃ d xs, Dp K H x d ∧ (Dp K H y (.list xs) ∨ Dp K H y (.tuple xs)) ∧ inOk xs d = true ∧ Q (.bl (if neg then !xs.any fun y => PyData.eqv y d else xs.any fun y => PyData.eqv y d)) H)
theorem op_inP (hu : HasRoom X) : OpR X (compareOp .In) (rInP X.K false) := by
  intro pins s σ H x y v u Q I rx ry h
  rcases h with ⟨c, z, rfl, rfl, q⟩ | ⟨d, xs, h1, h2, h3, q⟩
  · exact op_in_sign pins s σ H _ _ v u Q I rx ry ⟨c, z, rfl, rfl, q⟩
  · obtain ⟨as, r1⟩ := Dp.reads I d x v h1 rx
    simp only [inOk, Bool.and_eq_true, decide_eq_true_eq] at h3
    have hu' : X.A.units + 100 < cLine := hu
    rcases h2 with h2 | h2
    · obtain ⟨bs, r2⟩ := Dp.reads I _ y u h2 ry
      exact SeqAt.in_list_data r2 r1 h3.1.1 h3.1.2 (by omega) ⟨.bl _, H, I, rfl, q⟩
    · obtain ⟨bs, r2⟩ := Dp.reads I _ y u h2 ry
      exact SeqAt.in_tuple_data r2 r1 h3.1.1 h3.1.2 (by omega) ⟨.bl _, H, I, rfl, q⟩
theorem op_notInP (hu : HasRoom X) : OpR X (compareOp .NotIn) (rInP X.K true) := by
  intro pins s σ H x y v u Q I rx ry h
  rcases h with ⟨c, z, rfl, rfl, q⟩ | ⟨d, xs, h1, h2, h3, q⟩
  · exact op_notIn_sign pins s σ H _ _ v u Q I rx ry ⟨c, z, rfl, rfl, q⟩
  · obtain ⟨as, r1⟩ := Dp.reads I d x v h1 rx
    simp only [inOk, Bool.and_eq_true, decide_eq_true_eq] at h3
    have hu' : X.A.units + 100 < cLine := hu
    rcases h2 with h2 | h2
    · obtain ⟨bs, r2⟩ := Dp.reads I _ y u h2 ry
      exact SeqAt.notIn_list_data r2 r1 h3.1.1 h3.1.2 (by omega) ⟨.bl _, H, I, rfl, q⟩
    · obtain ⟨bs, r2⟩ := Dp.reads I _ y u h2 ry
      exact SeqAt.notIn_tuple_data r2 r1 h3.1.1 h3.1.2 (by omega) ⟨.bl _, H, I, rfl, q⟩
theorem one_sign {x : Str} (h : (x.cps.size == 1) = true) : x = ⟨#[x.cps.getD 0 0]⟩ := by
  obtain ⟨⟨l⟩⟩ := x
  match l, h with
  | [c], _ => rfl
theorem in_go (neg : Bool) {Z H : Hp} {x y : V} {dx dy : D} {Q : VK} (s : Same Z H) (rx : RD X.w X.K Z x dx) (ry : RD X.w X.K Z y dy)
    (h : Post0 (dIn dx dy) fun d => ∃ b, d = .bool b ∧ QV X Z H Q (.bool (if neg then !b else b))) : rInP X.K neg x y H Q := by
  unfold dIn at h
  split at h
  · obtain ⟨hc, b, e, h⟩ := h.guard
    cases e
    cases rx; cases ry
    exact .inl ⟨_, _, congrArg V.str (one_sign hc), rfl, h _ _ _ (Ext.refl s) (.bl _)⟩
  · obtain ⟨hc, b, e, h⟩ := h.guard
    cases e
    have p := inOk_plain hc
    refine .inr ⟨_, _, Dp.mono2 s rx p.2, .inl (Dp.mono2 s ry ?_), hc, h _ _ _ (Ext.refl s) (.bl _)⟩
    rw [PyData.plain]; exact p.1
  · obtain ⟨hc, b, e, h⟩ := h.guard
    cases e
    have p := inOk_plain hc
    refine .inr ⟨_, _, Dp.mono2 s rx p.2, .inr (Dp.mono2 s ry ?_), hc, h _ _ _ (Ext.refl s) (.bl _)⟩
    rw [PyData.plain]; exact p.1
  · exact h.elim
theorem od_in : OpD X (rInP X.K false) dIn := by
  intro Z H x y dx dy Q s rx ry h
  refine in_go false s rx ry ?_
  unfold dIn at h ⊢
  split at h <;> (try exact h.elim) <;> (obtain ⟨hc, h⟩ := h.guard; rw [guardR_of hc]; exact ⟨_, rfl, h⟩)
theorem od_notIn : OpD X (rInP X.K true) dNotIn := by
  intro Z H x y dx dy Q s rx ry h
  refine in_go true s rx ry ?_
  unfold dNotIn at h
  have cl := cl_in dx dy
  cases e : dIn dx dy with
  | ok d =>
    rw [e] at h
    cases d with
    | bool b => exact ⟨b, rfl, h⟩
    | _ => exact h.elim
  | exc x => rw [e] at cl; exact cl.elim
  | stuck => rw [e] at h; exact h.elim
theorem ev_in (hu : HasRoom X) (ha : Ev X W a F) (hb : Ev X W b G) (hm : behindInMarks .In b = false := by rfl) : Ev X W (.Compare a [.In] [b] pos) (e2 dIn F G) :=
  ev_2 (fun p q => pe_cmpR (op_inP hu) p q hm) od_in cl_in ha hb
theorem ev_notIn (hu : HasRoom X) (ha : Ev X W a F) (hb : Ev X W b G) (hm : behindInMarks .NotIn b = false := by rfl) : Ev X W (.Compare a [.NotIn] [b] pos) (e2 dNotIn F G) :=
  ev_2 (fun p q => pe_cmpR (op_notInP hu) p q hm) od_notIn cl_notIn ha hb
end
end PQ

/-! PQ.5: subscripts, slices, built-in calls -/
namespace PQ
open PySem PySem.Spec PyProof.Rows L2
open PySem.W (alike alikeAll dataLt rcLt_alike)

/-! ### a[i] -/
def dIx : D → D → R D
  | .list ds, .int i => match atI ds i with
    | some d => .ok d
    | none => .stuck
  | .tuple ds, .int i => match atI ds i with
    | some d => .ok d
    | none => .stuck
  | .str z, .int i => match atI z.cps.toList i with
    | some c => guardR (fits z.length) (.str ⟨#[c]⟩)
    | none => .stuck
  | _, _ => .stuck
theorem cl_ix (x y : D) : (dIx x y).clean := by unfold dIx; split <;> (try split) <;> first | trivial | exact clean_guard _ _
section
variable {X : Cx} {W : WX} {a b c e : Expr} {es rest : List Expr} {pos : Pos} {F G I : EV} {T U : ET} {Fs : EA}
theorem RDs.at {w : World} {K : PySem.W.Frag} {Z : Hp} {vs : List V} {ds : List D} {i : Int} {d : D} (r : RDs w K Z vs ds) (h : atI ds i = some d) : ∃ v, atI vs i = some v ∧ RD w K Z v d := by
  unfold atI at h ⊢
  rw [r.length]
  cases e : ixN ds.length i with
  | none => rw [e] at h; cases h
  | some j =>
    rw [e] at h
    obtain ⟨v, h1, h2⟩ := r.get (i := j) h
    exact ⟨v, h1, h2⟩
theorem od_ix : OpD X (rIx X.K) dIx := by
  intro Z H x y dx dy Q s rx ry h
  unfold dIx at h
  split at h
  · cases ry
    cases rx with
    | lst h1 r1 =>
      split at h
      · rename_i d hd
        obtain ⟨v, hv, rv⟩ := r1.at hd
        exact .inl ⟨_, _, _, v, rfl, rfl, .inl (.inl (s _ _ h1)), hv, h _ _ _ (Ext.refl s) rv⟩
      · exact h.elim
  · cases ry
    cases rx with
    | tup h1 r1 =>
      split at h
      · rename_i d hd
        obtain ⟨v, hv, rv⟩ := r1.at hd
        exact .inr (.inl ⟨_, _, _, v, rfl, rfl, SqT.mono s h1, hv, h _ _ _ (Ext.refl s) rv⟩)
      · exact h.elim
  · cases ry
    cases rx
    split at h
    · rename_i c hc
      obtain ⟨hf, h⟩ := h.guard
      exact .inr (.inr ⟨_, _, c, rfl, rfl, fits_le hf, hc, h _ _ _ (Ext.refl s) (.str _)⟩)
    · exact h.elim
  · exact h.elim
theorem ev_ix (ha : Ev X W a F) (hb : Ev X W b G) (hs : PlainIx b := by exact fun _ _ => rfl) : Ev X W (.Subscript a b pos) (e2 dIx F G) := ev_2 (fun p q => pe_ix ix_seq p q hs) od_ix cl_ix ha hb

/-! ### a[i:j] -/
def cutL {α : Type} (xs : List α) (lo hi : Option Int) : List α := (xs.drop (HT.sIx xs.length 0 lo)).take (HT.sIx xs.length xs.length hi - HT.sIx xs.length 0 lo)
abbrev EP' := Rho → R (Option Int)
structure Ep (X : Cx) (W : WX) (e : Option Expr) (F : EP') : Prop where
  go : ∀ {Z0 H0 Z H : Hp} {σ : St} {ρ : Rho} {Q : Option Int → Hp → Prop}, Rep X.w X.K Z0 H0 Z H σ ρ → Post X W Z H σ (F ρ) (fun o => ∀ Z' H', Ext Z H Z' H' → Q o H') →
    ∀ (pins : List (Addr × Obj)) (s : Shared), Inv X pins σ H s → wpAny (model X.prog X.w) X.A (evalPart e X.env) (fun u s' => ∃ o H', Inv X pins σ H' s' ∧ IsPart u o ∧ Q o H') X.xe s
def pNone : EP' := fun _ => .ok none
def pSome (F : EV) : EP' := fun ρ => F ρ >>= fun d => match d with
  | .int i => .ok (some i)
  | _ => .stuck
theorem ep_none : Ep X W none pNone := ⟨fun r q pins s I => po_none.run pins s _ _ _ I (q _ _ (Ext.refl r.zh))⟩
theorem ep_some (ha : Ev X W a F) : Ep X W (some a) (pSome F) := by
  refine ⟨fun {Z0 H0 Z H σ ρ Q} r q pins s I => (po_some pe_at).run pins s _ _ _ I ?_⟩
  refine ha.go r (q.bind.mono fun d hd v Z1 H1 x1 r1 => ?_)
  cases d with
  | int i => cases r1; exact ⟨i, rfl, hd _ _ x1⟩
  | _ => exact hd.elim
def dCut (lo hi : Option Int) : D → R D
  | .list ds => .ok (.list (cutL ds lo hi))
  | .tuple ds => .ok (.tuple (cutL ds lo hi))
  | .str z => guardR (fits z.length) (.str (cutS z lo hi))
  | _ => .stuck
def eCut (F : EV) (P P' : EP') : EV := fun ρ => F ρ >>= fun x => P ρ >>= fun lo => P' ρ >>= fun hi => dCut lo hi x
theorem RDs.cut {w : World} {K : PySem.W.Frag} {Z : Hp} {vs : List V} {ds : List D} (r : RDs w K Z vs ds) (lo hi : Option Int) : RDs w K Z (cutV vs lo hi) (cutL ds lo hi) := by
  unfold cutV cutL
  rw [r.length]
  exact (r.drop _).take _
abbrev rSlAll (K : PySem.W.Frag) : V → Option Int → Option Int → Hp → VK → Prop := fun x lo hi H Q => rSlL K x lo hi H Q ∨ (fun x lo hi H Q => rSlA K x lo hi H Q ∨ rSlS x lo hi H Q) x lo hi H Q
theorem sl_all : SlR X (rSlAll X.K) := sl_list.or (sl_tupA.or sl_str)
theorem po_at {e : Option Expr} : L2.PO X e (fun σ H Q => ∀ (pins : List (Addr × Obj)) (s : Shared), Inv X pins σ H s → wpAny (model X.prog X.w) X.A (evalPart e X.env) (fun u s' => ∃ o H', Inv X pins σ H' s' ∧ IsPart u o ∧ Q o H') X.xe s) :=
  ⟨fun pins s σ H Q I h => h pins s I⟩
theorem cut_whole {α : Type} {xs : List α} {lo hi : Option Int} (h : HT.sIx xs.length 0 lo = 0 ∧ HT.sIx xs.length xs.length hi = xs.length) : cutL xs lo hi = xs := by
  unfold cutL
  rw [h.1, h.2, List.drop_zero, Nat.sub_zero, List.take_length]
theorem dcut_go {Z H : Hp} {x : V} {d : D} {lo hi : Option Int} {Q : VK} (s : Same Z H) (rx : RD X.w X.K Z x d) (h : Post0 (dCut lo hi d) (QV X Z H Q)) : rSlAll X.K x lo hi H Q := by
  cases rx with
  | lst h1 r1 =>
    rename_i p xs ds
    refine .inl ⟨p, xs, rfl, .inl (.inl (s _ _ h1)), fun q hq => ?_⟩
    have x := Ext.new (o := .lst (cutV xs lo hi)) s hq
    exact h _ _ _ x (.lst upd_same ((r1.cut _ _).mono x.zz))
  | tup h1 r1 =>
    rename_i p xs ds
    refine .inr (.inl ⟨p, xs, rfl, SqT.mono s h1, fun e => ?_, fun _ q hq => ?_⟩)
    · refine h _ _ _ (Ext.refl s) (.tup h1 ?_)
      rw [cut_whole (by rw [← r1.length]; exact e)]
      exact r1
    · have x := Ext.new (o := .tup (cutV xs lo hi)) s hq
      exact h _ _ _ x (.tup (.inl (.inl upd_same)) ((r1.cut _ _).mono x.zz))
  | str z =>
    obtain ⟨hf, h⟩ := h.guard
    exact .inr (.inr ⟨z, rfl, fits_le hf, h _ _ _ (Ext.refl s) (.str _)⟩)
  | _ => exact h.elim
theorem cl_cut (lo hi : Option Int) (x : D) : (dCut lo hi x).clean := by cases x <;> first | trivial | exact clean_guard _ _
theorem ev_cut {lo hi : Option Expr} {P P' : EP'} {p2 : Pos} (ha : Ev X W a F) (hl : Ep X W lo P) (hh : Ep X W hi P') : Ev X W (.Subscript a (.Slice lo hi none p2) pos) (eCut F P P') := by
  refine ⟨fun {Z0 H0 Z H σ ρ Q} r q => toAt (pe_slice sl_all pe_at po_at po_at) ?_⟩
  refine ha.go r (q.bind.mono fun d hd v Z1 H1 x1 r1 => ?_)
  refine hl.go (r.step x1) ((hd.bind.step x1).mono fun l hl Z2 H2 x2 => ?_)
  refine hh.go ((r.step x1).step x2) (((hl.bind.step x1).step x2).mono fun u hu Z3 H3 x3 => ?_)
  refine dcut_go x3.zh (r1.mono (x2.trans x3).zz) ?_
  have p := hu.to0 (cl_cut l u d)
  cases e : dCut l u d with
  | ok z => rw [e] at p; exact fun v4 Z4 H4 x4 r4 => p _ _ _ (((x1.trans x2).trans x3).trans x4) r4
  | exc x => rw [e] at p; exact p.elim
  | stuck => rw [e] at p; exact p.elim
end
end PQ

/-! PQ.6: built-in calls -/
namespace PQ
open PySem PySem.Spec PyProof.Rows L2
open PySem.W (alike alikeAll dataLt rcLt_alike)

section
variable {X : Cx} {W : WX} {a b c e : Expr} {es rest : List Expr} {pos p : Pos} {F G I : EV} {T U : ET} {Fs : EA}

/-! ### len -/
def dLen : List D → R D
  | [.list ds] => .ok (.int ds.length)
  | [.tuple ds] => .ok (.int ds.length)
  | [.str z] => guardR (fits z.length) (.int z.length)
  | _ => .stuck
theorem cl_len (x : List D) : (dLen x).clean := by unfold dLen; split <;> first | trivial | exact clean_guard _ _
abbrev rLenAll (K : PySem.W.Frag) : List V → Hp → VK → Prop := fun xs H Q => (∃ p ys, xs = [.ref p] ∧ (SqL K H p ys ∨ SqT K H p ys) ∧ Q (.int ys.length) H) ∨ (∃ z, xs = [.str z] ∧ z.length ≤ sizeLine ∧ Q (.int z.length) H)
theorem rds1 {w : World} {K : PySem.W.Frag} {Z : Hp} {vs : List V} {d : D} (h : RDs w K Z vs [d]) : ∃ v, vs = [v] ∧ RD w K Z v d := by
  cases h with
  | cons h t => cases t; exact ⟨_, rfl, h⟩
theorem rds2 {w : World} {K : PySem.W.Frag} {Z : Hp} {vs : List V} {d e : D} (h : RDs w K Z vs [d, e]) : ∃ v u, vs = [v, u] ∧ RD w K Z v d ∧ RD w K Z u e := by
  cases h with
  | cons h t =>
    cases t with
    | cons h2 t => cases t; exact ⟨_, _, rfl, h, h2⟩
theorem cd_len : CaD X (rLenAll X.K) dLen := by
  intro Z H xs ds Q s r h
  unfold dLen at h
  split at h
  · obtain ⟨v, rfl, r0⟩ := rds1 r
    cases r0 with
    | lst h1 r1 =>
      refine .inl ⟨_, _, rfl, .inl (.inl (.inl (s _ _ h1))), ?_⟩
      rw [r1.length]
      exact h _ _ _ (Ext.refl s) (.int _)
  · obtain ⟨v, rfl, r0⟩ := rds1 r
    cases r0 with
    | tup h1 r1 =>
      refine .inl ⟨_, _, rfl, .inr (SqT.mono s h1), ?_⟩
      rw [r1.length]
      exact h _ _ _ (Ext.refl s) (.int _)
  · obtain ⟨v, rfl, r0⟩ := rds1 r
    cases r0
    obtain ⟨hf, h⟩ := h.guard
    exact .inr ⟨_, rfl, fits_le hf, h _ _ _ (Ext.refl s) (.int _)⟩
  · exact h.elim
theorem ev_len (hm : X.mg "len" = none) (ha : Ea X W [a] Fs) (hg : Gl X "len" := by rfl) : Ev X W (.Call (.Name "len" p) [a] [] pos) (eA dLen Fs) :=
  ev_A (fun h => pe_callB (call_len_seq.or call_len_str) hg hm PySem.boot_len h (he := ha.se _ _ rfl) (hpl := ha.plt _ _ rfl _)) cd_len cl_len ha

/-! ### int(x), abs(x), max(x, y), min(x, y) -/
def dInt : List D → R D
  | [.int i] => .ok (.int i)
  | [.bool b] => .ok (.int (if b then 1 else 0))
  | [.str z] => match PySem.intText? z with
    | some n => guardR (decide (z.length ≤ 640)) (.int n)
    | none => .stuck
  | _ => .stuck
theorem cl_int (x : List D) : (dInt x).clean := by unfold dInt; split <;> (try split) <;> first | trivial | exact clean_guard _ _
abbrev rIntAll : List V → Hp → VK → Prop := fun xs H Q => ((∃ i, xs = [.int i] ∧ Q (.int i) H) ∨ ∃ k, xs = [.bl k] ∧ Q (.int (if k then 1 else 0)) H) ∨ (∃ a n, xs = [.str a] ∧ PySem.intText? a = some n ∧ a.length ≤ 640 ∧ Q (.int n) H)
theorem cd_int : CaD X rIntAll dInt := by
  intro Z H xs ds Q s r h
  unfold dInt at h
  split at h
  · obtain ⟨v, rfl, r0⟩ := rds1 r
    cases r0
    exact .inl (.inl ⟨_, rfl, h _ _ _ (Ext.refl s) (.int _)⟩)
  · obtain ⟨v, rfl, r0⟩ := rds1 r
    cases r0
    exact .inl (.inr ⟨_, rfl, h _ _ _ (Ext.refl s) (.int _)⟩)
  · obtain ⟨v, rfl, r0⟩ := rds1 r
    cases r0
    split at h
    · rename_i n hn
      obtain ⟨hf, h⟩ := h.guard
      exact .inr ⟨_, n, rfl, hn, of_decide_eq_true hf, h _ _ _ (Ext.refl s) (.int _)⟩
    · exact h.elim
  · exact h.elim
theorem ev_intc (hm : X.mg "int" = none) (ha : Ea X W [a] Fs) (hg : Gl X "int" := by rfl) : Ev X W (.Call (.Name "int" p) [a] [] pos) (eA dInt Fs) :=
  ev_A (fun h => pe_callTy (call_int1.or call_int_str) hg hm (by decide +kernel) h (he := ha.se _ _ rfl) (hpl := ha.plt _ _ rfl _)) cd_int cl_int ha
def dAbs : List D → R D
  | [.int i] => .ok (.int (if i < 0 then -i else i))
  | _ => .stuck
theorem cl_abs (x : List D) : (dAbs x).clean := by unfold dAbs; split <;> trivial
theorem cd_abs : CaD X (fun xs H Q => ∃ i, xs = [.int i] ∧ Q (.int (if i < 0 then -i else i)) H) dAbs := by
  intro Z H xs ds Q s r h
  unfold dAbs at h
  split at h
  · obtain ⟨v, rfl, r0⟩ := rds1 r
    cases r0
    exact ⟨_, rfl, h _ _ _ (Ext.refl s) (.int _)⟩
  · exact h.elim
theorem ev_abs (hm : X.mg "abs" = none) (ha : Ea X W [a] Fs) (hg : Gl X "abs" := by rfl) : Ev X W (.Call (.Name "abs" p) [a] [] pos) (eA dAbs Fs) :=
  ev_A (fun h => pe_callB call_abs hg hm (by decide +kernel) h (he := ha.se _ _ rfl) (hpl := ha.plt _ _ rfl _)) cd_abs cl_abs ha
def dMax2 : List D → R D
  | [.int i, .int j] => .ok (.int (if j > i then j else i))
  | _ => .stuck
def dMin2 : List D → R D
  | [.int i, .int j] => .ok (.int (if j < i then j else i))
  | _ => .stuck
theorem cl_max2 (x : List D) : (dMax2 x).clean := by unfold dMax2; split <;> trivial
theorem cl_min2 (x : List D) : (dMin2 x).clean := by unfold dMin2; split <;> trivial
theorem cd_max2 : CaD X (fun xs H Q => ∃ i j, xs = [.int i, .int j] ∧ Q (.int (if j > i then j else i)) H) dMax2 := by
  intro Z H xs ds Q s r h
  unfold dMax2 at h
  split at h
  · obtain ⟨v, u, rfl, r1, r2⟩ := rds2 r
    cases r1; cases r2
    exact ⟨_, _, rfl, h _ _ _ (Ext.refl s) (.int _)⟩
  · exact h.elim
theorem cd_min2 : CaD X (fun xs H Q => ∃ i j, xs = [.int i, .int j] ∧ Q (.int (if j < i then j else i)) H) dMin2 := by
  intro Z H xs ds Q s r h
  unfold dMin2 at h
  split at h
  · obtain ⟨v, u, rfl, r1, r2⟩ := rds2 r
    cases r1; cases r2
    exact ⟨_, _, rfl, h _ _ _ (Ext.refl s) (.int _)⟩
  · exact h.elim
theorem ev_max2 (hc : X.calm = true) (hm : X.mg "max" = none) (ha : Ea X W [a, b] Fs) (hg : Gl X "max" := by rfl) : Ev X W (.Call (.Name "max" p) [a, b] [] pos) (eA dMax2 Fs) :=
  ev_A (fun h => pe_callB (call_max2 hc) hg hm (by decide +kernel) h (he := ha.se _ _ rfl) (hpl := ha.plt _ _ rfl _)) cd_max2 cl_max2 ha
theorem ev_min2 (hc : X.calm = true) (hm : X.mg "min" = none) (ha : Ea X W [a, b] Fs) (hg : Gl X "min" := by rfl) : Ev X W (.Call (.Name "min" p) [a, b] [] pos) (eA dMin2 Fs) :=
  ev_A (fun h => pe_callB (call_min2 hc) hg hm (by decide +kernel) h (he := ha.se _ _ rfl) (hpl := ha.plt _ _ rfl _)) cd_min2 cl_min2 ha

/-! ### str(n) -/
def dStr : List D → R D
  | [.int i] => guardR (decide (i.natAbs.log2 < 1920)) (.str (toString i : String))
  | _ => .stuck
theorem cl_str (x : List D) : (dStr x).clean := by unfold dStr; split <;> first | trivial | exact clean_guard _ _
theorem cd_str : CaD X (fun xs H Q => ∃ i, xs = [.int i] ∧ i.natAbs.log2 < 1920 ∧ Q (.str (toString i : String)) H) dStr := by
  intro Z H xs ds Q s r h
  unfold dStr at h
  split at h
  · obtain ⟨v, rfl, r0⟩ := rds1 r
    cases r0
    obtain ⟨hf, h⟩ := h.guard
    exact ⟨_, rfl, of_decide_eq_true hf, h _ _ _ (Ext.refl s) (.str _)⟩
  · exact h.elim
theorem ev_strc (hm : X.mg "str" = none) (ha : Ea X W [a] Fs) (hg : Gl X "str" := by rfl) : Ev X W (.Call (.Name "str" p) [a] [] pos) (eA dStr Fs) :=
  ev_A (fun h => pe_callTy call_str_int hg hm (by decide +kernel) h (he := ha.se _ _ rfl) (hpl := ha.plt _ _ rfl _)) cd_str cl_str ha

/-! ### isinstance(x, T) -/
def tyName : D → String
  | .none => "NoneType"
  | .bool _ => "bool"
  | .int _ => "int"
  | .str _ => "str"
  | .list _ => "list"
  | .tuple _ => "tuple"
  | .dict _ => "dict"
/-- isinstance by the types' names, for T one of int, str, tuple, list, bool, dict -/
def isaB (T : String) (d : D) : Bool := tyName d == T || (T == "int" && tyName d == "bool")
def dIsi (T : String) (d : D) : R D := .ok (.bool (isaB T d))
theorem rd_ty {w : World} {K : PySem.W.Frag} {Z H : Hp} {v : V} {d : D} (s : Same Z H) (h : RD w K Z v d) (nd : tyName d ≠ "dict") : TyX K H v (.type (tyName d)) := by
  cases h with
  | non => exact .base .non
  | bl b => exact .base (.bl b)
  | int i => exact .base (.int i)
  | str x => exact .base (.str x)
  | lst h r => exact .base (.lst (s _ _ h))
  | tup h r =>
    rcases h with (h | ⟨o, h⟩) | ⟨o, its, n, h1, h2, _⟩
    · exact .base (.tup (s _ _ h))
    · exact .fTuple (s _ _ h)
    · exact .kTuple h1 h2
  | dct _ _ _ _ _ _ _ _ _ => exact absurd rfl nd
def kitTab (T : String) : Bool := ["NoneType", "bool", "int", "str", "list", "tuple"].all fun n => kitB n T == some (n == T || (T == "int" && n == "bool"))
theorem kit_all {T : String} (h : kitTab T = true) {d : D} (nd : tyName d ≠ "dict") : kitB (tyName d) T = some (isaB T d) := by
  unfold kitTab at h
  rw [List.all_eq_true] at h
  have := h (tyName d) (by cases d <;> simp_all [tyName])
  rw [beq_iff_eq] at this
  exact this
def dIsi' (T : String) (d : D) : R D := if tyName d = "dict" then .stuck else dIsi T d
theorem cl_isi (T : String) (x : D) : (dIsi' T x).clean := by unfold dIsi'; split <;> trivial
theorem ev_isi {T : String} {p2 : Pos} {x : Str} (hx : x = Str.ofString T) (hm : X.mg "isinstance" = none) (hmT : X.mg x = none) (hk : kitTab T = true) (hbT : bootBuiltins x = some (.type T)) (ha : Ev X W a F) (hg : Gl X "isinstance" := by rfl) (hgT : Gl X x := by rfl)
    (hn : x ≠ "__name__" := by decide) (hd : (x == ("__debug__" : Str)) = false := by decide)
    (he : starEach [a, .Name x p2] X.env = (false, eval a X.env) :: starEach [.Name x p2] X.env := by rfl) (hpl : (backTo pos (starEach [.Name x p2] X.env)).any (·.1) = false := by rfl)
    (he2 : starEach [.Name x p2] X.env = (false, eval (.Name x p2) X.env) :: starEach [] X.env := by rfl) :
    Ev X W (.Call (.Name "isinstance" p) [a, .Name x p2] [] pos) (e1 (dIsi' T) F) := by
  have h2 : PE X (.Name x p2) (tC (.ty T)) := pe_bltn hgT hmT hbT rfl hn hd
  refine ⟨fun {Z0 H0 Z H σ ρ Q} r q => toAt (pe_callB call_isi hg hm (by decide +kernel) (pa_cons pe_at (pa_cons h2 pa_nil he2) he) (hpl := hpl) (he := he)) ?_⟩
  refine ha.go r (q.bind.mono fun d hd v Z1 H1 x1 r1 => ?_)
  unfold dIsi' at hd
  split at hd
  · exact hd.elim
  · rename_i nd
    exact ⟨v, .ty T, .type (tyName d), .type T, isaB T d, rfl, .ty T, rd_ty x1.zh r1 nd, kit_ty (kit_all hk nd), hd _ _ _ x1 (.bl _)⟩

/-! ### all, any of a list of bools -/
def bools : List D → R (List Bool)
  | [] => .ok []
  | .bool b :: r => bools r >>= fun bs => .ok (b :: bs)
  | _ :: _ => .stuck
def dAll : List D → R D
  | [.list ds] => bools ds >>= fun bs => .ok (.bool (bs.all id))
  | _ => .stuck
def dAny : List D → R D
  | [.list ds] => bools ds >>= fun bs => .ok (.bool (bs.any id))
  | _ => .stuck
theorem bools_map {bs : List Bool} : bools (bs.map .bool) = .ok bs := by
  induction bs with
  | nil => rfl
  | cons b bs ih => rw [List.map_cons, bools, ih]; rfl
theorem bools_ok : ∀ {ds : List D} {bs : List Bool}, bools ds = .ok bs → ds = bs.map .bool
  | [], bs, h => by cases h; rfl
  | .bool b :: r, bs, h => by
    rw [bools] at h
    cases e : bools r with
    | ok bs' => rw [e] at h; cases h; rw [List.map_cons, ← bools_ok e]
    | exc x => rw [e] at h; cases h
    | stuck => rw [e] at h; cases h
  | .none :: _, _, h => by cases h
  | .int _ :: _, _, h => by cases h
  | .str _ :: _, _, h => by cases h
  | .list _ :: _, _, h => by cases h
  | .tuple _ :: _, _, h => by cases h
  | .dict _ :: _, _, h => by cases h
theorem bools_clean : ∀ ds : List D, (bools ds).clean
  | [] => trivial
  | .bool b :: r => by
    have := bools_clean r
    rw [bools]
    cases e : bools r with
    | ok bs' => trivial
    | exc x => rw [e] at this; exact this
    | stuck => trivial
  | .none :: _ => trivial
  | .int _ :: _ => trivial
  | .str _ :: _ => trivial
  | .list _ :: _ => trivial
  | .tuple _ :: _ => trivial
  | .dict _ :: _ => trivial
theorem clean_bind {α β : Type} {r : R α} {f : α → R β} (h : r.clean) (hf : ∀ a, (f a).clean) : (r >>= f).clean := by
  cases r with
  | ok a => exact hf a
  | exc x => exact h
  | stuck => trivial
theorem cl_all (x : List D) : (dAll x).clean := by unfold dAll; split <;> first | trivial | exact clean_bind (bools_clean _) fun _ => trivial
theorem cl_any (x : List D) : (dAny x).clean := by unfold dAny; split <;> first | trivial | exact clean_bind (bools_clean _) fun _ => trivial
theorem rds_bools {w : World} {K : PySem.W.Frag} {Z : Hp} : ∀ {vs : List V} {bs : List Bool}, RDs w K Z vs (bs.map .bool) → vs = bs.map V.bl
  | _, [], h => by cases h; rfl
  | _, b :: bs, h => by
    cases h with
    | cons h t => cases h; rw [List.map_cons, rds_bools t]
theorem rds_ints {w : World} {K : PySem.W.Frag} {Z : Hp} : ∀ {vs : List V} {ns : List Int}, RDs w K Z vs (ns.map .int) → vs = ns.map V.int
  | _, [], h => by cases h; rfl
  | _, b :: bs, h => by
    cases h with
    | cons h t => cases h; rw [List.map_cons, rds_ints t]
theorem rds_strs {w : World} {K : PySem.W.Frag} {Z : Hp} : ∀ {vs : List V} {ns : List Str}, RDs w K Z vs (ns.map .str) → vs = ns.map V.str
  | _, [], h => by cases h; rfl
  | _, b :: bs, h => by
    cases h with
    | cons h t => cases h; rw [List.map_cons, rds_strs t]
theorem cd_all : CaD X (rAll X.K) dAll := by
  intro Z H xs ds Q s r h
  unfold dAll at h
  split at h
  · rename_i ds
    obtain ⟨v, rfl, r0⟩ := rds1 r
    cases e : bools ds with
    | ok bs =>
      rw [e] at h
      have ed := bools_ok e
      subst ed
      cases r0 with
      | lst h1 r1 =>
        have := rds_bools r1
        subst this
        exact ⟨_, bs, rfl, .inl (.inl (s _ _ h1)), h _ _ _ (Ext.refl s) (.bl _)⟩
    | exc x => rw [e] at h; exact h.elim
    | stuck => rw [e] at h; exact h.elim
  · exact h.elim
theorem cd_any : CaD X (rAny X.K) dAny := by
  intro Z H xs ds Q s r h
  unfold dAny at h
  split at h
  · rename_i ds
    obtain ⟨v, rfl, r0⟩ := rds1 r
    cases e : bools ds with
    | ok bs =>
      rw [e] at h
      have ed := bools_ok e
      subst ed
      cases r0 with
      | lst h1 r1 =>
        have := rds_bools r1
        subst this
        exact ⟨_, bs, rfl, .inl (.inl (s _ _ h1)), h _ _ _ (Ext.refl s) (.bl _)⟩
    | exc x => rw [e] at h; exact h.elim
    | stuck => rw [e] at h; exact h.elim
  · exact h.elim
theorem ev_all (hc : X.calm = true) (hm : X.mg "all" = none) (ha : Ea X W [a] Fs) (hg : Gl X "all" := by rfl) : Ev X W (.Call (.Name "all" p) [a] [] pos) (eA dAll Fs) :=
  ev_A (fun h => pe_callB (cr_all hc) hg hm (by decide +kernel) h (he := ha.se _ _ rfl) (hpl := ha.plt _ _ rfl _)) cd_all cl_all ha
theorem ev_any (hc : X.calm = true) (hm : X.mg "any" = none) (ha : Ea X W [a] Fs) (hg : Gl X "any" := by rfl) : Ev X W (.Call (.Name "any" p) [a] [] pos) (eA dAny Fs) :=
  ev_A (fun h => pe_callB (cr_any hc) hg hm (by decide +kernel) h (he := ha.se _ _ rfl) (hpl := ha.plt _ _ rfl _)) cd_any cl_any ha

/-! ### tuple(x), list(x) -/
def dTuple : List D → R D
  | [.list ds] => .ok (.tuple ds)
  | [.tuple ds] => .ok (.tuple ds)
  | _ => .stuck
theorem cl_tuple (x : List D) : (dTuple x).clean := by unfold dTuple; split <;> trivial
abbrev rTupleOf (K : PySem.W.Frag) : List V → Hp → VK → Prop := fun xs H Q => ∃ p ys, xs = [.ref p] ∧ ((SqL K H p ys ∧ ∀ l, H l = none → Q (.ref l) (upd H l (.tup ys))) ∨ (SqT K H p ys ∧ Q (.ref p) H))
theorem cd_tuple : CaD X (rTupleOf X.K) dTuple := by
  intro Z H xs ds Q s r h
  unfold dTuple at h
  split at h
  · obtain ⟨v, rfl, r0⟩ := rds1 r
    cases r0 with
    | lst h1 r1 =>
      rename_i q ys
      refine ⟨q, ys, rfl, .inl ⟨.inl (.inl (s _ _ h1)), fun l hl => ?_⟩⟩
      have x := Ext.new (o := .tup ys) s hl
      exact h _ _ _ x (.tup (.inl (.inl upd_same)) (r1.mono x.zz))
  · obtain ⟨v, rfl, r0⟩ := rds1 r
    cases r0 with
    | tup h1 r1 => exact ⟨_, _, rfl, .inr ⟨SqT.mono s h1, h _ _ _ (Ext.refl s) (.tup h1 r1)⟩⟩
  · exact h.elim
theorem ev_tuple (hm : X.mg "tuple" = none) (ha : Ea X W [a] Fs) (hg : Gl X "tuple" := by rfl) : Ev X W (.Call (.Name "tuple" p) [a] [] pos) (eA dTuple Fs) :=
  ev_A (fun h => pe_callTy call_tuple_of hg hm boot_tuple h (he := ha.se _ _ rfl) (hpl := ha.plt _ _ rfl _)) cd_tuple cl_tuple ha

/-- what gives a new object of one's own -/
abbrev QO (X : Cx) (Z H : Hp) (Q : VK) (d : D) : Prop := ∀ a Z' H', Ext Z H Z' H' → H a = none → Own X.w X.K Z' H' a d → Q (.ref a) H'
def CaO (X : Cx) (r : List V → Hp → VK → Prop) (f : List D → R D) : Prop := ∀ (Z H : Hp) (xs : List V) (ds : List D) (Q : VK), Same Z H → RDs X.w X.K Z xs ds → Post0 (f ds) (QO X Z H Q) → r xs H Q
theorem hnone {Z H Z' H' : Hp} (x : Ext Z H Z' H') {a : Addr} (h : H' a = none) : H a = none := by
  cases e : H a with
  | none => rfl
  | some u => have := x.hh a u e; rw [h] at this; cases this
theorem eo_A {r : List V → Hp → VK → Prop} {f : List D → R D} (h : ∀ {ta : TA}, PA X es ta → PE X e (tCB r ta)) (ho : CaO X r f) (cl : ∀ x, (f x).clean) (ha : Ea X W es Fs) : Eo X W e (eA f Fs) := by
  refine ⟨fun {Z0 H0 Z H σ ρ Q} r q => toAt (h pa_at) ?_⟩
  refine ha.go r (q.bind.mono fun d hd v Z1 H1 x1 r1 => ?_)
  refine ho Z1 H1 v d Q x1.zh r1 ?_
  have p := hd.to0 (cl d)
  cases hf : f d with
  | ok z => rw [hf] at p; exact fun v3 Z3 H3 x3 hn r3 => p v3 Z3 H3 (x1.trans x3) (hnone x1 hn) r3
  | exc x => rw [hf] at p; exact p.elim
  | stuck => rw [hf] at p; exact p.elim
def dList : List D → R D
  | [.list ds] => .ok (.list ds)
  | [.tuple ds] => .ok (.list ds)
  | _ => .stuck
theorem cl_list (x : List D) : (dList x).clean := by unfold dList; split <;> trivial
abbrev rListOf (K : PySem.W.Frag) : List V → Hp → VK → Prop := fun xs H Q => ∃ p ys, xs = [.ref p] ∧ (SqL K H p ys ∨ SqT K H p ys) ∧ ∀ l, H l = none → Q (.ref l) (upd H l (.lst ys))
theorem co_list : CaO X (rListOf X.K) dList := by
  intro Z H xs ds Q s r h
  unfold dList at h
  split at h
  · obtain ⟨v, rfl, r0⟩ := rds1 r
    cases r0 with
    | lst h1 r1 => exact ⟨_, _, rfl, .inl (.inl (.inl (s _ _ h1))), fun l hl => h _ _ _ (Ext.newO s hl) hl (.lst (zfree s hl) upd_same r1)⟩
  · obtain ⟨v, rfl, r0⟩ := rds1 r
    cases r0 with
    | tup h1 r1 => exact ⟨_, _, rfl, .inr (SqT.mono s h1), fun l hl => h _ _ _ (Ext.newO s hl) hl (.lst (zfree s hl) upd_same r1)⟩
  · exact h.elim
theorem eo_list (hm : X.mg "list" = none) (ha : Ea X W [a] Fs) (hg : Gl X "list" := by rfl) : Eo X W (.Call (.Name "list" p) [a] [] pos) (eA dList Fs) :=
  eo_A (fun h => pe_callTy call_list_of hg hm boot_list h (he := ha.se _ _ rfl) (hpl := ha.plt _ _ rfl _)) co_list cl_list ha

/-! ### list(range(..)), tuple(range(..)) -/
abbrev ER := Rho → R (Int × Int)
structure Er (X : Cx) (W : WX) (e : Expr) (F : ER) : Prop where
  go : ∀ {Z0 H0 Z H : Hp} {σ : St} {ρ : Rho} {Q : Int → Int → Hp → Prop}, Rep X.w X.K Z0 H0 Z H σ ρ → Post X W Z H σ (F ρ) (fun o => ∀ Z' H', Ext Z H Z' H' → Q o.1 o.2 H') →
    ∃ t, PRg X e t ∧ t σ H Q
def asI : D → R Int
  | .int i => .ok i
  | _ => .stuck
def rg1 (F : EV) : ER := fun ρ => F ρ >>= asI >>= fun n => .ok (0, n)
def rg2 (F G : EV) : ER := fun ρ => F ρ >>= asI >>= fun m => G ρ >>= asI >>= fun n => .ok (m, n)
theorem er_1 (hm : X.mg "range" = none) (ha : Ev X W a F) (hg : Gl X "range" := by rfl) (na : starEach [a] X.env = (false, eval a X.env) :: starEach [] X.env := by rfl) : Er X W (.Call (.Name "range" p) [a] [] pos) (rg1 F) := by
  refine ⟨fun {Z0 H0 Z H σ ρ Q} r q => ⟨_, prg_1 hg hm pe_at na, ?_⟩⟩
  refine ha.go r (q.bind.bind.mono fun d hd v Z1 H1 x1 r1 => ?_)
  cases d with
  | int i => cases r1; exact ⟨i, rfl, hd _ _ x1⟩
  | _ => exact hd.elim
theorem er_2 (hm : X.mg "range" = none) (ha : Ev X W a F) (hb : Ev X W b G) (hg : Gl X "range" := by rfl) (na : starEach [a, b] X.env = (false, eval a X.env) :: starEach [b] X.env := by rfl)
    (nb : starEach [b] X.env = (false, eval b X.env) :: starEach [] X.env := by rfl) (np : (backTo pos (starEach [b] X.env)).any (·.1) = false := by rfl) : Er X W (.Call (.Name "range" p) [a, b] [] pos) (rg2 F G) := by
  refine ⟨fun {Z0 H0 Z H σ ρ Q} r q => ⟨_, prg_2 hg hm pe_at pe_at na nb np, ?_⟩⟩
  refine ha.go r (q.bind.bind.mono fun d hd v Z1 H1 x1 r1 => ?_)
  cases d with
  | int i =>
    cases r1
    have hd : Post X W Z H σ (G ρ >>= asI >>= fun n => R.ok (i, n)) _ := hd
    refine hb.go (r.step x1) ((hd.bind.bind.step x1).mono fun d2 hd2 v2 Z2 H2 x2 r2 => ?_)
    cases d2 with
    | int j => cases r2; exact ⟨i, j, rfl, rfl, hd2 _ _ (x1.trans x2)⟩
    | _ => exact hd2.elim
  | _ => exact hd.elim
def rgD (a b : Int) : List D := (List.range (b - a).toNat).map fun i => PyData.int (a + (i : Nat))
def rgOkB (a b : Int) : Bool := decide (-(2 ^ 62) ≤ a) && decide (a < 2 ^ 62) && decide (-(2 ^ 62) ≤ b) && decide (b < 2 ^ 62) && fits (b - a).toNat
theorem rgOk_of {a b : Int} (h : rgOkB a b = true) : RgOk a b := by
  simp only [rgOkB, Bool.and_eq_true, decide_eq_true_eq] at h
  exact ⟨h.1.1.1.1, h.1.1.1.2, h.1.1.2, h.1.2, fits_le h.2⟩
theorem rds_rg {w : World} {K : PySem.W.Frag} {Z : Hp} (a b : Int) : RDs w K Z (rgV a b) (rgD a b) := by
  refine .of_get (by unfold rgV rgD; simp) fun i v d h1 h2 => ?_
  unfold rgV at h1
  unfold rgD at h2
  rw [List.getElem?_map] at h1 h2
  cases e : (List.range (b - a).toNat)[i]? with
  | none => rw [e] at h1; cases h1
  | some j => rw [e] at h1 h2; cases h1; cases h2; exact .int _
def eLstRg (F : ER) : EV := fun ρ => F ρ >>= fun o => guardR (rgOkB o.1 o.2) (.list (rgD o.1 o.2))
def eTupRg (F : ER) : EV := fun ρ => F ρ >>= fun o => guardR (rgOkB o.1 o.2) (.tuple (rgD o.1 o.2))
theorem Post.guard {α : Type} {Z H : Hp} {σ : St} {c : Bool} {a : α} {P : α → Prop} (h : Post X W Z H σ (guardR c a) P) : c = true ∧ P a := by
  unfold guardR at h
  split at h
  · exact ⟨by assumption, h⟩
  · exact h.elim
theorem eo_listRg {FR : ER} (hc : X.calm = true) (hm : X.mg "list" = none) (ha : Er X W a FR) (hg : Gl X "list" := by rfl) (na : starEach [a] X.env = (false, eval a X.env) :: starEach [] X.env := by rfl) : Eo X W (.Call (.Name "list" p) [a] [] pos) (eLstRg FR) := by
  refine ⟨fun {Z0 H0 Z H σ ρ Q} r q => ?_⟩
  obtain ⟨t, ht, hq⟩ := ha.go (Q := fun a b H1 => RgOk a b ∧ ∀ q, H1 q = none → Q (.ref q) (upd H1 q (.lst (rgV a b)))) r (q.bind.mono fun o ho Z1 H1 x1 => by
    obtain ⟨hok, ho⟩ := ho.guard
    refine ⟨rgOk_of hok, fun l hl => ?_⟩
    exact ho _ _ _ (x1.trans (Ext.newO x1.zh hl)) (hnone x1 hl) (.lst (zfree x1.zh hl) upd_same (rds_rg _ _)))
  exact toAt (pe_listRg hc hg hm ht na) hq
theorem ev_tupRg {FR : ER} (hc : X.calm = true) (hm : X.mg "tuple" = none) (ha : Er X W a FR) (hg : Gl X "tuple" := by rfl) (na : starEach [a] X.env = (false, eval a X.env) :: starEach [] X.env := by rfl) : Ev X W (.Call (.Name "tuple" p) [a] [] pos) (eTupRg FR) := by
  refine ⟨fun {Z0 H0 Z H σ ρ Q} r q => ?_⟩
  obtain ⟨t, ht, hq⟩ := ha.go (Q := fun a b H1 => RgOk a b ∧ ∀ q, H1 q = none → Q (.ref q) (upd H1 q (.tup (rgV a b)))) r (q.bind.mono fun o ho Z1 H1 x1 => by
    obtain ⟨hok, ho⟩ := ho.guard
    refine ⟨rgOk_of hok, fun l hl => ?_⟩
    exact ho _ _ _ (x1.trans (Ext.new (o := .tup (rgV o.1 o.2)) x1.zh hl)) (.tup (.inl (.inl upd_same)) (rds_rg _ _)))
  exact toAt (pe_tupRg hc hg hm ht na) hq
end
end PQ

/-! PQ.7: targets, what is walked, comprehensions -/
namespace PQ
open PySem PySem.Spec PyProof.Rows L2
open PySem.W (alike alikeAll dataLt rcLt_alike)

/-! ### targets -/
def PGat (X : Cx) (tg : Expr) (v : V) (σ : St) (H : Hp) (Q : St → Hp → Prop) : Prop := ∀ (pins : List (Addr × Obj)) (s : Shared) (u : Value), Inv X pins σ H s → RelV v u →
  wpAny (model X.prog X.w) X.A (assign tg X.env u) (fun _ s' => ∃ σ' H', Inv X pins σ' H' s' ∧ Q σ' H') X.xe s
theorem pg_at {X : Cx} {tg : Expr} : PG X tg (PGat X tg) := ⟨fun pins s σ H v u Q I r h => h pins s u I r⟩
theorem toAtG {X : Cx} {tg : Expr} {t : TG} {v : V} {σ : St} {H : Hp} {Q : St → Hp → Prop} (h : PG X tg t) (q : t v σ H Q) : PGat X tg v σ H Q := fun pins s u I r => h.run pins s σ H v u Q I r q
def PGsat (X : Cx) (ts : List Expr) (vs : List V) (σ : St) (H : Hp) (Q : St → Hp → Prop) : Prop := ∀ (pins : List (Addr × Obj)) (s : Shared) (us : List Value), Inv X pins σ H s → Vals vs us →
  wpAny (model X.prog X.w) X.A (assignInOrder ((assignEach ts X.env).map (·.2)) us) (fun _ s' => ∃ σ' H', Inv X pins σ' H' s' ∧ Q σ' H') X.xe s
theorem pgs_at {X : Cx} {ts : List Expr} : PGs X ts (PGsat X ts) := ⟨fun pins s σ H v u Q I r h => h pins s u I r⟩
theorem toAtGs {X : Cx} {ts : List Expr} {t : TGs} {v : List V} {σ : St} {H : Hp} {Q : St → Hp → Prop} (h : PGs X ts t) (q : t v σ H Q) : PGsat X ts v σ H Q := fun pins s u I r => h.run pins s σ H v u Q I r q

/-- the slots outside js stand -/
structure Outside (js : List Nat) (σ σ' : St) : Prop where
  len : σ'.length = σ.length
  at' : ∀ j, j ∉ js → σ'[j]? = σ[j]?
theorem Outside.refl {js : List Nat} {σ : St} : Outside js σ σ := ⟨rfl, fun _ _ => rfl⟩
theorem Outside.trans {js : List Nat} {σ σ' σ'' : St} (a : Outside js σ σ') (b : Outside js σ' σ'') : Outside js σ σ'' := ⟨b.len.trans a.len, fun j h => (b.at' j h).trans (a.at' j h)⟩
theorem Outside.mono {js ks : List Nat} {σ σ' : St} (a : Outside js σ σ') (h : ∀ j ∈ js, j ∈ ks) : Outside ks σ σ' := ⟨a.len, fun j hj => a.at' j fun z => hj (h j z)⟩
theorem wipe_at : ∀ (vs : List Nat) (σ : St) (j : Nat), (wipe σ vs)[j]? = if j ∈ vs ∧ j < σ.length then some none else σ[j]?
  | [], σ, j => by simp [wipe]
  | v :: vs, σ, j => by
    rw [wipe, List.getElem?_set, wipe_length, wipe_at vs σ j]
    by_cases hj : v = j
    · subst hj
      by_cases hl : v < σ.length
      · simp [hl]
      · simp [hl]
    · have : ¬ j = v := fun e => hj e.symm
      simp [hj, this]
theorem Outside.wipe {js : List Nat} {σ σ' : St} (h : Outside js σ σ') : L2.wipe σ' js = L2.wipe σ js := by
  apply List.ext_getElem?
  intro j
  rw [wipe_at, wipe_at, h.len]
  by_cases hj : j ∈ js
  · by_cases hl : j < σ.length
    · simp [hj, hl]
    · have h1 : σ.length ≤ j := by omega
      have h2 : σ'.length ≤ j := by rw [h.len]; exact h1
      simp [hl, List.getElem?_eq_none h1, List.getElem?_eq_none h2]
  · simp [hj]
    exact h.at' j hj
def wipeR (ρ : Rho) : List Nat → Rho
  | [] => ρ
  | v :: vs => (wipeR ρ vs).set v .u
theorem Rep.wipe {w : World} {K : PySem.W.Frag} {Z0 H0 Z H : Hp} {σ : St} {ρ : Rho} (r : Rep w K Z0 H0 Z H σ ρ) : ∀ vs : List Nat, Rep w K Z0 H0 Z H (L2.wipe σ vs) (wipeR ρ vs)
  | [] => r
  | v :: vs => by
    unfold L2.wipe wipeR
    exact (Rep.wipe r vs).setU v none

abbrev EG := D → Rho → R Rho
structure Eg (X : Cx) (tg : Expr) (A : EG) (js : List Nat) : Prop where
  go : ∀ {Z0 H0 Z H : Hp} {σ : St} {ρ : Rho} {v : V} {d : D} {Q : St → Hp → Prop}, Rep X.w X.K Z0 H0 Z H σ ρ → RD X.w X.K Z v d → Post0 (A d ρ) (fun ρ' => ∀ σ', Outside js σ σ' → Rep X.w X.K Z0 H0 Z H σ' ρ' → Q σ' H) → PGat X tg v σ H Q
  cl : ∀ d ρ, (A d ρ).clean
structure Egs (X : Cx) (ts : List Expr) (A : List D → Rho → R Rho) (js : List Nat) : Prop where
  go : ∀ {Z0 H0 Z H : Hp} {σ : St} {ρ : Rho} {vs : List V} {ds : List D} {Q : St → Hp → Prop}, Rep X.w X.K Z0 H0 Z H σ ρ → RDs X.w X.K Z vs ds → Post0 (A ds ρ) (fun ρ' => ∀ σ', Outside js σ σ' → Rep X.w X.K Z0 H0 Z H σ' ρ' → Q σ' H) → PGsat X ts vs σ H Q
  cl : ∀ d ρ, (A d ρ).clean
  n : ∀ ds ρ ρ', A ds ρ = .ok ρ' → ds.length = ts.length
def aName (i : Nat) : EG := fun d ρ => .ok (ρ.set i (.f d))
def aNil : List D → Rho → R Rho := fun ds ρ => match ds with
  | [] => .ok ρ
  | _ => .stuck
def aCons (A : EG) (B : List D → Rho → R Rho) : List D → Rho → R Rho := fun ds ρ => match ds with
  | d :: ds => A d ρ >>= fun ρ' => B ds ρ'
  | [] => .stuck
def aTup (B : List D → Rho → R Rho) : EG := fun d ρ => match d with
  | .tuple ds => B ds ρ
  | _ => .stuck
section
variable {X : Cx} {W : WX} {e : Expr} {es : List Expr} {pos : Pos}
theorem eg_name (i : Nat) {x : Str} (hN : X.N.Nodup) (hi : X.N[i]? = some x := by rfl) (hx : Loc X.env.scope x := by first | exact Or.inl rfl | exact Or.inr rfl) (hf : X.fn x = true ∨ X.env.scope.names.lookup x = some .local := by first | exact .inl rfl | exact .inr rfl) : Eg X (.Name x pos) (aName i) [i] := by
  refine ⟨fun {Z0 H0 Z H σ ρ v d Q} r rd q => toAtG (pg_name hN hi hx hf) ?_, fun _ _ => trivial⟩
  refine q _ ⟨by simp, fun j hj => ?_⟩ (r.setF i rd)
  rw [List.getElem?_set_ne (fun e => hj (by simp [e]))]
theorem egs_nil : Egs X [] aNil [] := by
  refine ⟨fun {Z0 H0 Z H σ ρ vs ds Q} r rd q => toAtGs pgs_nil ?_, fun d ρ => by cases d <;> trivial, fun ds ρ ρ' h => by cases ds <;> first | rfl | cases h⟩
  cases rd with
  | nil => exact ⟨rfl, q _ Outside.refl r⟩
  | cons _ _ => exact q.elim
theorem egs_cons {A : EG} {B : List D → Rho → R Rho} {js ks : List Nat} (h1 : Eg X e A js) (h2 : Egs X es B ks) (hs : (assignEach (e :: es) X.env).map (·.2) = assign e X.env :: (assignEach es X.env).map (·.2) := by rfl) :
    Egs X (e :: es) (aCons A B) (js ++ ks) := by
  refine ⟨fun {Z0 H0 Z H σ ρ vs ds Q} r rd q => toAtGs (pgs_cons pg_at pgs_at hs) ?_, fun d ρ => ?_, fun ds ρ ρ' h => ?_⟩
  · cases rd with
    | nil => exact q.elim
    | cons rv rt =>
      refine ⟨_, _, rfl, ?_⟩
      rename_i v d vs' ds'
      have cl := h1.cl d ρ
      have q : Post0 (A d ρ >>= fun ρ' => B ds' ρ') _ := q
      cases e1 : A d ρ with
      | ok ρ1 =>
        rw [e1] at q
        refine h1.go r rv ?_
        rw [e1]
        intro σ1 o1 r1
        refine h2.go r1 rt ?_
        have cl2 := h2.cl ds' ρ1
        have q : Post0 (B ds' ρ1) _ := q
        cases e2 : B ds' ρ1 with
        | ok ρ2 =>
          rw [e2] at q
          intro σ2 o2 r2
          exact q _ ((o1.mono fun j hj => List.mem_append_left _ hj).trans (o2.mono fun j hj => List.mem_append_right _ hj)) r2
        | exc x => rw [e2] at q; exact q.elim
        | stuck => rw [e2] at q; exact q.elim
      | exc x => rw [e1] at cl; exact cl.elim
      | stuck => rw [e1] at q; exact q.elim
  · cases d with
    | nil => trivial
    | cons d ds => exact clean_bind (h1.cl d ρ) fun ρ' => h2.cl ds ρ'
  · cases ds with
    | nil => cases h
    | cons d ds =>
      have h : (A d ρ >>= fun ρ' => B ds ρ') = .ok ρ' := h
      cases e1 : A d ρ with
      | ok ρ1 =>
        rw [e1] at h
        rw [List.length_cons, List.length_cons, h2.n ds ρ1 ρ' h]
      | exc x => rw [e1] at h; cases h
      | stuck => rw [e1] at h; cases h
theorem eg_tup {B : List D → Rho → R Rho} {js : List Nat} {k : Nat} (hc : X.calm = true) (h : Egs X es B js) (hn : (assignEach es X.env).length = es.length := by rfl) (hst : (assignEach es X.env).findIdx? (·.1) = none := by rfl) : Eg X (.Tuple es k pos) (aTup B) js := by
  refine ⟨fun {Z0 H0 Z H σ ρ v d Q} r rd q => toAtG (pg_tup hc pgs_at hn hst) ?_, fun d ρ => ?_⟩
  · cases d with
    | tuple ds =>
      cases rd with
      | tup h1 r1 =>
        refine ⟨_, _, rfl, SqT.mono r.zh h1, ?_, h.go r r1 q⟩
        rw [r1.length]
        have q : Post0 (B ds ρ) _ := q
        cases e1 : B ds ρ with
        | ok ρ1 => exact h.n ds ρ ρ1 e1
        | exc x => rw [e1] at q; exact q.elim
        | stuck => rw [e1] at q; exact q.elim
    | _ => exact q.elim
  · cases d <;> first | trivial | exact h.cl _ _
end

/-! ### what is walked -/
def PIat (X : Cx) (tg iter : Expr) (σ : St) (H : Hp) (R' : It → Hp → Prop) : Prop := ∀ (pins : List (Addr × Obj)) (s : Shared), Inv X pins σ H s →
  wpAny (model X.prog X.w) X.A (eval iter X.env) (fun v s1 => wpAny (model X.prog X.w) X.A (pyIter v) (PIE X pins σ tg R') X.xe s1) X.xe s
theorem pi_at {X : Cx} {tg iter : Expr} : PI X tg iter (PIat X tg iter) := ⟨fun pins s σ H R' I h => h pins s I⟩
theorem toAtI {X : Cx} {tg iter : Expr} {t : TI} {σ : St} {H : Hp} {Q : It → Hp → Prop} (h : PI X tg iter t) (q : t σ H Q) : PIat X tg iter σ H Q := fun pins s I => h.run pins s σ H Q I q
/-- J yields ds while Z stands -/
structure ItOk (X : Cx) (J : It) (Z : Hp) (ds : List D) : Prop where
  stop : ∀ {Z' H' : Hp}, Same Z Z' → Same Z' H' → J.stop ds.length H'
  go : ∀ {i : Nat} {Z' H' : Hp} {d : D}, Same Z Z' → Same Z' H' → ds[i]? = some d → J.go i H'
  yld : ∀ {i : Nat} {Z' H' : Hp} {d : D} {x : V} {H'' : Hp}, Same Z Z' → Same Z' H' → ds[i]? = some d → J.yld i H' x H'' → ∃ Z'', Ext Z' H' Z'' H'' ∧ RD X.w X.K Z'' x d
abbrev EI := Rho → R (List D)
structure Ei (X : Cx) (W : WX) (tg iter : Expr) (F : EI) : Prop where
  go : ∀ {Z0 H0 Z H : Hp} {σ : St} {ρ : Rho} {Q : It → Hp → Prop}, Rep X.w X.K Z0 H0 Z H σ ρ → Post X W Z H σ (F ρ) (fun ds => ∀ J Z' H', Ext Z H Z' H' → ItOk X J Z' ds → Q J H') → PIat X tg iter σ H Q
section
variable {X : Cx} {W : WX} {a b c e tg : Expr} {es : List Expr} {pos p : Pos} {F G : EV} {Fs : EA}
theorem io_list {Z : Hp} {l : Addr} {xs : List V} {ds : List D} (h : Z l = some (.lst xs)) (r : RDs X.w X.K Z xs ds) : ItOk X (Itl X.K l) Z ds := by
  have at' : ∀ {Z' H' : Hp}, Same Z Z' → Same Z' H' → SqL X.K H' l xs := fun s1 s2 => .inl (.inl (s2 _ _ (s1 _ _ h)))
  refine ⟨fun s1 s2 => ⟨xs, at' s1 s2, by rw [r.length]; exact Nat.le_refl _⟩, fun s1 s2 e => ?_, fun s1 s2 e y => ?_⟩
  · obtain ⟨v, hv, _⟩ := r.get e
    exact ⟨xs, v, at' s1 s2, hv⟩
  · obtain ⟨rfl, hy⟩ := y
    obtain ⟨v, hv, rv⟩ := r.get e
    have := hy xs (at' s1 s2)
    rw [hv] at this; cases this
    exact ⟨_, Ext.refl s2, rv.mono s1⟩
theorem io_tup {Z : Hp} {l : Addr} {xs : List V} {ds : List D} (h : SqT X.K Z l xs) (r : RDs X.w X.K Z xs ds) : ItOk X (Itt X.K l) Z ds := by
  have at' : ∀ {Z' H' : Hp}, Same Z Z' → Same Z' H' → SqT X.K H' l xs := fun s1 s2 => SqT.mono s2 (SqT.mono s1 h)
  refine ⟨fun s1 s2 => ⟨xs, at' s1 s2, by rw [r.length]; exact Nat.le_refl _⟩, fun s1 s2 e => ?_, fun s1 s2 e y => ?_⟩
  · obtain ⟨v, hv, _⟩ := r.get e
    exact ⟨xs, v, at' s1 s2, hv⟩
  · obtain ⟨rfl, hy⟩ := y
    obtain ⟨v, hv, rv⟩ := r.get e
    have := hy xs (at' s1 s2)
    rw [hv] at this; cases this
    exact ⟨_, Ext.refl s2, rv.mono s1⟩
def signs (z : Str) : List D := z.cps.toList.map fun c => .str ⟨#[c]⟩
theorem io_str {Z : Hp} {z : Str} : ItOk X (Its z) Z (signs z) := by
  have el : (signs z).length = z.cps.size := by unfold signs; rw [List.length_map, Array.length_toList]
  have ea : ∀ {i : Nat} {d : D}, (signs z)[i]? = some d → ∃ c, z.cps[i]? = some c ∧ d = .str ⟨#[c]⟩ := fun {i d} e => by
    unfold signs at e
    rw [List.getElem?_map, Array.getElem?_toList] at e
    cases h : z.cps[i]? with
    | none => rw [h] at e; cases e
    | some c => rw [h] at e; cases e; exact ⟨c, rfl, rfl⟩
  refine ⟨fun s1 s2 => Nat.le_of_eq el.symm, fun s1 s2 e => ?_, fun s1 s2 e y => ?_⟩
  · obtain ⟨c, hc, _⟩ := ea e
    exact (Array.getElem?_eq_some_iff.mp hc).1
  · obtain ⟨c, hc, rfl⟩ := ea e
    obtain ⟨rfl, c', hc', rfl⟩ := y
    rw [hc] at hc'; cases hc'
    exact ⟨_, Ext.refl s2, .str _⟩
def seqOf : D → R (List D)
  | .list ds => .ok ds
  | .tuple ds => .ok ds
  | .str z => .ok (signs z)
  | _ => .stuck
def iSeq (F : EV) : EI := fun ρ => F ρ >>= seqOf
theorem ei_seq (ha : Ev X W e F) : Ei X W tg e (iSeq F) := by
  refine ⟨fun {Z0 H0 Z H σ ρ Q} r q => ?_⟩
  unfold iSeq at q
  have g := ha.go r (Q := fun x H1 => ∃ a, x = V.ref a ∧ (∃ xs, SqL X.K H1 a xs) ∧ Q (Itl X.K a) H1)
  have g2 := ha.go r (Q := fun x H1 => ∃ a, x = V.ref a ∧ (∃ xs, SqT X.K H1 a xs) ∧ Q (Itt X.K a) H1)
  have g3 := ha.go r (Q := fun x H1 => ∃ z, x = V.str z ∧ Q (Its z) H1)
  cases h : F ρ with
  | ok d =>
    rw [h] at q g g2 g3
    cases d with
    | list ds =>
      refine toAtI (pi_list pe_at) (g fun v Z' H' x rv => ?_)
      cases rv with
      | lst h1 r1 => exact ⟨_, rfl, ⟨_, .inl (.inl (x.zh _ _ h1))⟩, q _ _ _ x (io_list h1 r1)⟩
    | tuple ds =>
      refine toAtI (pi_tup pe_at) (g2 fun v Z' H' x rv => ?_)
      cases rv with
      | tup h1 r1 => exact ⟨_, rfl, ⟨_, SqT.mono x.zh h1⟩, q _ _ _ x (io_tup h1 r1)⟩
    | str z =>
      refine toAtI (pi_str pe_at) (g3 fun v Z' H' x rv => ?_)
      cases rv with
      | str _ => exact ⟨_, rfl, q _ _ _ x io_str⟩
    | _ => exact q.elim
  | exc x =>
    rw [h] at q g
    exact toAtI (pi_list pe_at) (g q)
  | stuck => rw [h] at q; exact q.elim

/-! range -/
def big62 (i : Int) : Bool := match i with
  | .ofNat n => Nat.blt n 4611686018427387904
  | .negSucc n => Nat.blt n 4611686018427387904
theorem big62_of {i : Int} (h : big62 i = true) : -(2 ^ 62) ≤ i ∧ i < 2 ^ 62 := by
  cases i with
  | ofNat n =>
    have h : Nat.blt n 4611686018427387904 = true := h
    have h : n < 4611686018427387904 := by
      have := Nat.le_of_ble_eq_true h
      omega
    have e : (Int.ofNat n) = (n : Int) := rfl
    rw [e]
    omega
  | negSucc n =>
    have h : Nat.blt n 4611686018427387904 = true := h
    have h : n < 4611686018427387904 := by
      have := Nat.le_of_ble_eq_true h
      omega
    have e : (Int.negSucc n) = -((n : Int) + 1) := by omega
    rw [e]
    omega
theorem io_rng {Z : Hp} (lo hi : Int) : ItOk X (Itr lo (hi - lo).toNat) Z (rgD lo hi) := by
  have el : (rgD lo hi).length = (hi - lo).toNat := by unfold rgD; simp
  refine ⟨fun s1 s2 => Nat.le_of_eq el.symm, fun {i Z' H' d} s1 s2 e => ?_, fun {i Z' H' d x H''} s1 s2 e y => ?_⟩
  · rw [← el]; exact (List.getElem?_eq_some_iff.mp e).1
  · obtain ⟨rfl, rfl⟩ := y
    have hi' : i < (rgD lo hi).length := (List.getElem?_eq_some_iff.mp e).1
    unfold rgD at e
    rw [List.getElem?_map, List.getElem?_range (by rw [el] at hi'; exact hi')] at e
    cases e
    exact ⟨_, Ext.refl s2, .int _⟩
def iRg1 (F : EV) : EI := fun ρ => F ρ >>= asI >>= fun n => guardR (big62 n) (rgD 0 n)
def iRg2 (F G : EV) : EI := fun ρ => F ρ >>= asI >>= fun m => G ρ >>= asI >>= fun n => guardR (big62 m && big62 n) (rgD m n)
theorem ei_range1 (hm : X.mg "range" = none) (ha : Ev X W a F) (hg : Gl X "range" := by rfl) (na : starEach [a] X.env = (false, eval a X.env) :: starEach [] X.env := by rfl) (hs : starEach [a] X.env = [(false, eval a X.env)] := by rfl) : Ei X W tg (.Call (.Name "range" p) [a] [] pos) (iRg1 F) := by
  refine ⟨fun {Z0 H0 Z H σ ρ Q} r q => toAtI (pi_range1 hg hm (pa_cons pe_at pa_nil na) hs) ?_⟩
  refine ha.go r (q.bind.bind.mono fun d hd v Z1 H1 x1 r1 => ?_)
  cases d with
  | int n =>
    cases r1
    have hd : Post X W Z H σ (guardR (big62 n) (rgD 0 n)) _ := hd
    obtain ⟨hb, hd⟩ := hd.guard
    obtain ⟨b1, b2⟩ := big62_of hb
    refine ⟨n, rfl, b1, b2, hd _ _ _ x1 ?_⟩
    have := io_rng (X := X) (Z := Z1) 0 n
    rw [Int.sub_zero] at this
    exact this
  | _ => exact hd.elim
theorem ei_range2 (hm : X.mg "range" = none) (ha : Ev X W a F) (hb : Ev X W b G) (hg : Gl X "range" := by rfl) (na : starEach [a, b] X.env = (false, eval a X.env) :: starEach [b] X.env := by rfl) (nb : starEach [b] X.env = (false, eval b X.env) :: starEach [] X.env := by rfl)
    (hs : starEach [a, b] X.env = [(false, eval a X.env), (false, eval b X.env)] := by rfl) (hs2 : starEach [b] X.env = [(false, eval b X.env)] := by rfl) : Ei X W tg (.Call (.Name "range" p) [a, b] [] pos) (iRg2 F G) := by
  refine ⟨fun {Z0 H0 Z H σ ρ Q} r q => toAtI (pi_range2 hg hm (pa_cons pe_at (pa_cons pe_at pa_nil nb) na) hs hs2) ?_⟩
  refine ha.go r (q.bind.bind.mono fun d hd v Z1 H1 x1 r1 => ?_)
  cases d with
  | int m =>
    cases r1
    have hd : Post X W Z H σ (G ρ >>= asI >>= fun n => guardR (big62 m && big62 n) (rgD m n)) _ := hd
    refine hb.go (r.step x1) ((hd.bind.bind.step x1).mono fun d2 hd2 v2 Z2 H2 x2 r2 => ?_)
    cases d2 with
    | int n =>
      cases r2
      have hd2 : Post X W Z H σ (guardR (big62 m && big62 n) (rgD m n)) _ := hd2
      obtain ⟨hb, hd2⟩ := hd2.guard
      rw [Bool.and_eq_true] at hb
      obtain ⟨b1, b2⟩ := big62_of hb.1
      obtain ⟨b3, b4⟩ := big62_of hb.2
      exact ⟨m, n, rfl, ⟨b1, b2, b3, b4⟩, hd2 _ _ _ (x1.trans x2) (io_rng m n)⟩
    | _ => exact hd2.elim
  | _ => exact hd.elim
end

/-! ### comprehensions -/
def nx {α : Type} : R α → R α
  | .exc _ => .stuck
  | r => r
def compR (step : D → R (Option D)) : List D → R (List D)
  | [] => .ok []
  | d :: ds => step d >>= fun o => compR step ds >>= fun ys => .ok (o.toList ++ ys)
theorem compR_snoc (step : D → R (Option D)) (d : D) : ∀ ds : List D, compR step (ds ++ [d]) = compR step ds >>= fun ys => step d >>= fun o => .ok (ys ++ o.toList)
  | [] => by
    simp only [List.nil_append, compR, R.ok_bind]
    cases step d with
    | ok o => simp
    | exc x => rfl
    | stuck => rfl
  | e :: ds => by
    rw [List.cons_append, compR, compR_snoc step d ds, compR]
    cases step e with
    | ok o =>
      cases compR step ds with
      | ok ys =>
        cases step d with
        | ok o2 => simp
        | exc x => rfl
        | stuck => rfl
      | exc x => rfl
      | stuck => rfl
    | exc x => rfl
    | stuck => rfl
theorem compR_take {step : D → R (Option D)} : ∀ {ds : List D} {ys : List D}, compR step ds = .ok ys → ∀ i, ∃ zs, compR step (ds.take i) = .ok zs
  | [], _, _, i => ⟨[], by simp [compR]⟩
  | d :: ds, ys, h, 0 => ⟨[], by simp [compR]⟩
  | d :: ds, ys, h, i + 1 => by
    rw [compR] at h
    rw [List.take_succ_cons, compR]
    cases e : step d with
    | ok o =>
      rw [e, R.ok_bind] at h
      cases e2 : compR step ds with
      | ok zs =>
        obtain ⟨zs', e3⟩ := compR_take e2 i
        exact ⟨_, by rw [R.ok_bind, e3, R.ok_bind]⟩
      | exc x => rw [e2] at h; cases h
      | stuck => rw [e2] at h; cases h
    | exc x => rw [e] at h; cases h
    | stuck => rw [e] at h; cases h
abbrev WF : WX := fun _ _ _ _ => False
/-- one turn -/
def cStep (A : EG) (T : ET) (F : EV) (ρ : Rho) (d : D) : R (Option D) := nx (A d ρ >>= fun ρ2 => T ρ2 >>= fun b => if b = true then F ρ2 >>= fun y => .ok (some y) else .ok none)
def eComp (Fi : EI) (A : EG) (T : ET) (F : EV) (vs : List Nat) : EV := fun ρ => Fi ρ >>= fun ds => guardR (fits ds.length) ds >>= fun ds => nx (compR (cStep A T F (wipeR ρ vs)) ds) >>= fun ys => .ok (.list ys)
def tTrue : ET := fun _ => .ok true
/-- the tests of a clause -/
structure Ets (X : Cx) (ifs : List Expr) (T : ET) : Prop where
  go : ∀ {Z0 H0 Z H : Hp} {σ : St} {ρ : Rho} {Q : Bool → Hp → Prop}, Rep X.w X.K Z0 H0 Z H σ ρ → Post X WF Z H σ (T ρ) (QB Z H Q) → ∃ t, PTs X ifs t ∧ t σ H Q
theorem ets_nil {X : Cx} : Ets X [] tTrue := ⟨fun r q => ⟨_, pts_nil, q _ _ (Ext.refl r.zh)⟩⟩
theorem ets_one {X : Cx} {c : Expr} {T : ET} (h : Et X WF c T) : Ets X [c] T := ⟨fun r q => ⟨_, pts_one pt_at, h.go r q⟩⟩
def PTsat (X : Cx) (ifs : List Expr) (σ : St) (H : Hp) (Q : Bool → Hp → Prop) : Prop := ∃ t, PTs X ifs t ∧ t σ H Q
theorem pts_at {X : Cx} {ifs : List Expr} : PTs X ifs (PTsat X ifs) := ⟨fun pins s σ H Q I ⟨t, h, q⟩ => h.run pins s σ H Q I q⟩
section
variable {X : Cx} {W : WX} {tg iter elt : Expr} {ifs : List Expr} {scope : Scope} {own : List (Str × Nat)} {pos p : Pos} {Fi : EI} {A : EG} {T : ET} {F : EV} {js : List Nat}
theorem wf_post {α : Type} {X : Cx} {Z H : Hp} {σ : St} {r : R α} {P : α → Prop} (h : Post0 (nx r) P) : Post X WF Z H σ r P := by
  cases r with
  | ok a => exact h
  | exc x => exact h.elim
  | stuck => exact h.elim
theorem lc_read (hi : Ei X W tg iter Fi) (hg : ∀ (s : Shared) (H : Hp) (C : Addr) (cl : List (Str × Addr)) (fp : List Addr), Eg (X.blk s H scope (compEnvC scope cl C X.env) fp) tg A js) (hjs : ∀ j ∈ js, j ∈ own.map (·.2))
    (ht : ∀ (s : Shared) (H : Hp) (C : Addr) (cl : List (Str × Addr)) (fp : List Addr), Ets (X.blk s H scope (compEnvC scope cl C X.env) fp) ifs T)
    (he : ∀ (s : Shared) (H : Hp) (C : Addr) (cl : List (Str × Addr)) (fp : List Addr), Ev (X.blk s H scope (compEnvC scope cl C X.env) fp) WF elt F)
    {Z0 H0 Z H : Hp} {σ : St} {ρ : Rho} {Q : VK} (r : Rep X.w X.K Z0 H0 Z H σ ρ) (q : Post X W Z H σ (eComp Fi A T F (own.map (·.2)) ρ) (QO X Z H Q)) :
    tLc (PIat X tg iter) (fun v σ H Q => ∀ s H0 C cl fp, PGat (X.blk s H0 scope (compEnvC scope cl C X.env) fp) tg v σ H Q) (fun σ H Q => ∀ s H0 C cl fp, PTsat (X.blk s H0 scope (compEnvC scope cl C X.env) fp) ifs σ H Q)
      (fun σ H Q => ∀ s H0 C cl fp, PEat (X.blk s H0 scope (compEnvC scope cl C X.env) fp) elt σ H Q) (own.map (·.2)) σ H Q := by
  generalize hvs : own.map (·.2) = vs at *
  refine hi.go r (q.bind.mono fun ds q J Z1 H1 x1 io D hD => ?_)
  have q := q.bind
  unfold guardR at q
  split at q
  rotate_left
  · exact q.elim
  rename_i hfit
  have hfit := fits_le hfit
  have q : Post X W Z H σ (nx (compR (cStep A T F (wipeR ρ vs)) ds) >>= fun ys => R.ok (PyData.list ys)) (QO X Z H Q) := q
  cases hC : compR (cStep A T F (wipeR ρ vs)) ds with
  | exc x => rw [hC] at q; exact q.elim
  | stuck => rw [hC] at q; exact q.elim
  | ok all =>
    rw [hC] at q
    have q : QO X Z H Q (.list all) := q
    refine ⟨fun i m Hc => m = ds.length - i ∧ i ≤ ds.length ∧ ∃ Zc acc ys, Ext Z1 H1 Zc Hc ∧ Zc D = none ∧ Hc D = some (.lst acc) ∧ acc.length ≤ i ∧ RDs X.w X.K Zc acc ys ∧ compR (cStep A T F (wipeR ρ vs)) (ds.take i) = .ok ys,
      ⟨ds.length, by simp, Nat.zero_le _, Z1, [], [], Ext.newO x1.zh hD, zfree x1.zh hD, upd_same, Nat.le_refl _, .nil, rfl⟩, ?_⟩
    rintro i m Hc ⟨rfl, hle, Zc, acc, ys, xc, zD, hcD, hal, racc, hcomp⟩
    by_cases hlt : i < ds.length
    · have hd : ds[i]? = some ds[i] := by simp [hlt]
      generalize ds[i] = d at hd
      refine .inr ⟨io.go xc.zz xc.zh hd, fun H' => i + 1 ≤ ds.length ∧ ∃ Zc acc ys, Ext Z1 H1 Zc H' ∧ Zc D = none ∧ H' D = some (.lst acc) ∧ acc.length ≤ i + 1 ∧ RDs X.w X.K Zc acc ys ∧ compR (cStep A T F (wipeR ρ vs)) (ds.take (i + 1)) = .ok ys,
        fun H' h => ⟨ds.length - (i + 1), by omega, rfl, h⟩, fun x H' hy s H00 C cl fp => ?_⟩
      obtain ⟨Z2, x2, rx⟩ := io.yld xc.zz xc.zh hd hy
      have x12 := xc.trans x2
      have r2 : Rep X.w X.K Z0 H0 Z2 H' (L2.wipe σ vs) (wipeR ρ vs) := (r.step (x1.trans x12)).wipe vs
      obtain ⟨zs, hzs⟩ := compR_take hC (i + 1)
      have hsn : compR (cStep A T F (wipeR ρ vs)) (ds.take (i + 1)) = compR (cStep A T F (wipeR ρ vs)) (ds.take i) >>= fun ys => cStep A T F (wipeR ρ vs) d >>= fun o => .ok (ys ++ o.toList) := by
        rw [List.take_add_one, hd]
        exact compR_snoc _ _ _
      rw [hcomp, hzs] at hsn
      have hsn : R.ok zs = cStep A T F (wipeR ρ vs) d >>= fun o => R.ok (ys ++ o.toList) := hsn
      have z2D : Z2 D = none := x2.nw D _ zD hcD
      have h2D : H' D = some (.lst acc) := x2.hh _ _ hcD
      unfold cStep at hsn
      cases e1 : A d (wipeR ρ vs) with
      | exc x => rw [e1] at hsn; cases hsn
      | stuck => rw [e1] at hsn; cases hsn
      | ok ρ2 =>
        rw [e1, R.ok_bind] at hsn
        refine (hg s H00 C cl fp).go r2 rx ?_
        rw [e1]
        intro σ2 o2 rr2
        refine ⟨(o2.mono hjs).wipe.trans ?_, fun s' H0' C' cl' fp' => ?_⟩
        · apply List.ext_getElem?
          intro j
          rw [wipe_at, wipe_at, wipe_length]
          split <;> rfl
        cases e2 : T ρ2 with
        | exc x => rw [e2] at hsn; cases hsn
        | stuck => rw [e2] at hsn; cases hsn
        | ok b =>
          rw [e2, R.ok_bind] at hsn
          refine (ht s' H0' C' cl' fp').go rr2 ?_
          rw [e2]
          intro Z3 H3 x3
          cases b with
          | false =>
            rw [if_neg Bool.false_ne_true] at hsn ⊢
            have e3 : zs = ys := by
              have hsn : R.ok zs = R.ok (ys ++ []) := hsn
              cases hsn; simp
            subst e3
            exact ⟨hlt, Z3, acc, zs, x12.trans x3, x3.nw D _ z2D h2D, x3.hh _ _ h2D, Nat.le_succ_of_le hal, racc.mono (x2.trans x3).zz, hzs⟩
          | true =>
            rw [if_pos rfl] at hsn ⊢
            intro s2 H02 C2 cl2 fp2
            cases e3 : F ρ2 with
            | exc x => rw [e3] at hsn; cases hsn
            | stuck => rw [e3] at hsn; cases hsn
            | ok y =>
              rw [e3] at hsn
              have e4 : zs = ys ++ [y] := by
                have hsn : R.ok zs = R.ok (ys ++ [y]) := hsn
                cases hsn; rfl
              subst e4
              refine (he s2 H02 C2 cl2 fp2).go (rr2.step x3) ?_
              rw [e3]
              intro v Z4 H4 x4 rv
              have x34 := x3.trans x4
              have h4D : H4 D = some (.lst acc) := x34.hh _ _ h2D
              have z4D : Z4 D = none := x34.nw D _ z2D h2D
              refine ⟨acc, h4D, Nat.lt_of_lt_of_le (Nat.lt_of_le_of_lt hal hlt) hfit, hlt, Z4, acc ++ [v], ys ++ [y], ?_, z4D, upd_same, by rw [List.length_append]; exact Nat.add_le_add_right hal 1, ?_, hzs⟩
              · have xx := x12.trans x34
                refine ⟨fun b u hb => ?_, xx.zz, fun b u hb => ?_, xx.nw⟩
                · rw [upd_ne (ne_of_none hb hD)]; exact xx.hh b u hb
                · rw [upd_ne (fun z => by rw [z, z4D] at hb; cases hb)]; exact xx.zh b u hb
              · exact (racc.mono (x2.trans x34).zz).append (.cons rv .nil)
    · have ei : i = ds.length := by omega
      subst ei
      refine .inl ⟨io.stop xc.zz xc.zh, ?_⟩
      rw [List.take_length, hC] at hcomp
      cases hcomp
      exact q D Zc Hc (x1.trans xc) (hnone x1 hD) (.lst zD hcD racc)
theorem eo_comp (hc : X.calm = true) (hN : X.N.Nodup) (hi : Ei X W tg iter Fi) (ok : BlkOk X.N X.env.scope scope own) (hg : ∀ (s : Shared) (H : Hp) (C : Addr) (cl : List (Str × Addr)) (fp : List Addr), Eg (X.blk s H scope (compEnvC scope cl C X.env) fp) tg A js) (hjs : ∀ j ∈ js, j ∈ own.map (·.2))
    (ht : ∀ (s : Shared) (H : Hp) (C : Addr) (cl : List (Str × Addr)) (fp : List Addr), Ets (X.blk s H scope (compEnvC scope cl C X.env) fp) ifs T)
    (he : ∀ (s : Shared) (H : Hp) (C : Addr) (cl : List (Str × Addr)) (fp : List Addr), Ev (X.blk s H scope (compEnvC scope cl C X.env) fp) WF elt F) (hs : ∀ x, foldedSetIterable iter X.env x = pure x := by intro _; rfl) :
    Eo X W (.ListComp elt [⟨tg, iter, ifs, 0⟩] scope pos) (eComp Fi A T F (own.map (·.2))) := by
  refine ⟨fun {Z0 H0 Z H σ ρ Q} r q => toAt (pe_lc hc hN pi_at ok ?_ ?_ ?_ hs) (lc_read hi hg hjs ht he r q)⟩
  · exact fun s H C cl fp => ⟨fun pins s' σ H' v u Q I rv h => (h s H C cl fp) pins s' u I rv⟩
  · exact fun s H C cl fp => ⟨fun pins s' σ H' Q I h => pts_at.run pins s' σ H' Q I (h s H C cl fp)⟩
  · exact fun s H C cl fp => ⟨fun pins s' σ H' Q I h => (h s H C cl fp) pins s' I⟩
end
end PQ

/-! PQ.8: statements, defs -/
namespace PQ
open PySem PySem.Spec PyProof.Rows L2
open PySem.W (alike alikeAll dataLt rcLt_alike)

/-- what a statement leads to -/
inductive Out where
  | nx (ρ : Rho)
  | ret (d : D)
  | bk (ρ : Rho)
  | ct (ρ : Rho)
  | exc (x : Exc) (ρ : Rho)
  | stuck
abbrev ES := Rho → Out
def Out.of {α : Type} (r : R α) (ρ : Rho) (k : α → Out) : Out := match r with
  | .ok a => k a
  | .exc x => .exc x ρ
  | .stuck => .stuck
@[simp] theorem Out.of_ok {α : Type} (a : α) (ρ : Rho) (k : α → Out) : Out.of (.ok a) ρ k = k a := id rfl
@[simp] theorem Out.of_exc {α : Type} (x : Exc) (ρ : Rho) (k : α → Out) : Out.of (.exc x) ρ k = .exc x ρ := id rfl

/-- i op= e of ints and texts -/
def dIAdd : D → D → R D
  | .int i, .int j => .ok (.int (i + j))
  | .str a, .str b => guardR (fits (a.length + b.length)) (.str (a ++ b))
  | _, _ => .stuck
def dISub : D → D → R D
  | .int i, .int j => .ok (.int (i - j))
  | _, _ => .stuck
def dIMul : D → D → R D
  | .int i, .int j => guardR (mulOk i j) (.int (i * j))
  | _, _ => .stuck
def dIFdiv : D → D → R D
  | .int i, .int j => guardR (divOk j) (.int (i / j))
  | _, _ => .stuck

def PSat (X : Cx) (st : Stmt) (D : Ends) (σ : St) (H : Hp) : Prop := ∀ (pins : List (Addr × Obj)) (s : Shared), Inv X pins σ H s → wpAny (model X.prog X.w) X.A (exec st X.env) (SP X pins D) X.xe s
theorem ps_at {X : Cx} {st : Stmt} : PS X st (PSat X st) := ⟨fun pins s σ H D I h => h pins s I⟩
theorem toAtS {X : Cx} {st : Stmt} {t : TS} {D : Ends} {σ : St} {H : Hp} (h : PS X st t) (q : t D σ H) : PSat X st D σ H := fun pins s I => h.run pins s σ H D I q
def PSsat (X : Cx) (sts : List Stmt) (D : Ends) (σ : St) (H : Hp) : Prop := ∀ (pins : List (Addr × Obj)) (s : Shared), Inv X pins σ H s → wpAny (model X.prog X.w) X.A (execs sts X.env) (SP X pins D) X.xe s
theorem pss_at {X : Cx} {st : List Stmt} : PSs X st (PSsat X st) := ⟨fun pins s σ H D I h => h pins s I⟩
theorem toAtSs {X : Cx} {st : List Stmt} {t : TS} {D : Ends} {σ : St} {H : Hp} (h : PSs X st t) (q : t D σ H) : PSsat X st D σ H := fun pins s I => h.run pins s σ H D I q

section
variable (X : Cx) (W : WX) (Z0 H0 Z : Hp)
/-- what is wanted of an outcome; Z stood frozen ahead of the statement -/
def SPost (o : Out) (D : Ends) : Prop := match o with
  | .nx ρ => ∀ σ Z' H', Rep X.w X.K Z0 H0 Z' H' σ ρ → Same Z Z' → D.nx σ H'
  | .ret d => ∀ v Z' H', Ext Z0 H0 Z' H' → RD X.w X.K Z' v d → D.rt v H'
  | .bk ρ => ∀ σ Z' H', Rep X.w X.K Z0 H0 Z' H' σ ρ → Same Z Z' → D.bk σ H'
  | .ct ρ => ∀ σ Z' H', Rep X.w X.K Z0 H0 Z' H' σ ρ → Same Z Z' → D.ct σ H'
  | .exc x ρ => ∀ cls dx σ Z' H', Rep X.w X.K Z0 H0 Z' H' σ ρ → RX X.w X.K X.mg Z' x cls dx → W cls dx σ H'
  | .stuck => False
end
structure Es (X : Cx) (W : WX) (st : Stmt) (S : ES) : Prop where
  go : ∀ {Z0 H0 Z H : Hp} {σ : St} {ρ : Rho} {D : Ends}, Rep X.w X.K Z0 H0 Z H σ ρ → SPost X W Z0 H0 Z (S ρ) D → PSat X st D σ H
structure Ess (X : Cx) (W : WX) (sts : List Stmt) (S : ES) : Prop where
  go : ∀ {Z0 H0 Z H : Hp} {σ : St} {ρ : Rho} {D : Ends}, Rep X.w X.K Z0 H0 Z H σ ρ → SPost X W Z0 H0 Z (S ρ) D → PSsat X sts D σ H

section
variable {X : Cx} {W : WX} {Z0 H0 Z H : Hp} {σ : St} {ρ : Rho} {D : Ends}
theorem SPost.step {Z' : Hp} {o : Out} (h : SPost X W Z0 H0 Z o D) (s : Same Z Z') : SPost X W Z0 H0 Z' o D := by
  cases o with
  | nx ρ => exact fun σ Z2 H2 r s2 => h σ Z2 H2 r (s.trans s2)
  | ret d => exact h
  | bk ρ => exact fun σ Z2 H2 r s2 => h σ Z2 H2 r (s.trans s2)
  | ct ρ => exact fun σ Z2 H2 r s2 => h σ Z2 H2 r (s.trans s2)
  | exc x ρ => exact h
  | stuck => exact h
theorem SPost.post {α : Type} {r : R α} {k : α → Out} (h : SPost X W Z0 H0 Z (Out.of r ρ k) D) (rp : Rep X.w X.K Z0 H0 Z H σ ρ) : Post X W Z H σ r fun a => SPost X W Z0 H0 Z (k a) D := by
  cases r with
  | ok a => exact h
  | exc x => exact fun cls dx Z' H' e rx => h cls dx σ Z' H' (rp.step e) rx
  | stuck => exact h

/-! ### values with their mode -/
/-- v bears s, new since H -/
def SlNew (w : World) (K : PySem.W.Frag) (H Z' H' : Hp) (v : V) : Sl → Prop
  | .f d => RD w K Z' v d
  | .o d => ∃ a, v = .ref a ∧ H a = none ∧ Own w K Z' H' a d
  | _ => False
structure Em (X : Cx) (W : WX) (e : Expr) (F : Rho → R Sl) : Prop where
  go : ∀ {Z0 H0 Z H : Hp} {σ : St} {ρ : Rho} {Q : VK}, Rep X.w X.K Z0 H0 Z H σ ρ → Post X W Z H σ (F ρ) (fun s => ∀ v Z' H', Ext Z H Z' H' → SlNew X.w X.K H Z' H' v s → Q v H') → PEat X e σ H Q
def mF (F : EV) : Rho → R Sl := fun ρ => F ρ >>= fun d => .ok (.f d)
def mO (F : EV) : Rho → R Sl := fun ρ => F ρ >>= fun d => .ok (.o d)
theorem Ev.em {e : Expr} {F : EV} (h : Ev X W e F) : Em X W e (mF F) := ⟨fun r q => h.go r (q.bind.mono fun d hd v Z' H' x rd => hd _ _ _ x rd)⟩
theorem Eo.em {e : Expr} {F : EV} (h : Eo X W e F) : Em X W e (mO F) := ⟨fun r q => h.go r (q.bind.mono fun d hd a Z' H' x hn ho => hd _ _ _ x ⟨a, rfl, hn, ho⟩)⟩
theorem SlNew.ext {w : World} {K : PySem.W.Frag} {H Z1 H1 Z2 H2 : Hp} {v : V} {s : Sl} (h : SlNew w K H Z1 H1 v s) (x : Ext Z1 H1 Z2 H2) : SlNew w K H Z2 H2 v s := by
  cases s with
  | f d => exact RD.mono x.zz h
  | o d => obtain ⟨a, e, n, o⟩ := h; exact ⟨a, e, n, o.ext x⟩
  | u => exact h
  | s d => exact h
/-- a new value into slot i -/
theorem Rep.put {w : World} {K : PySem.W.Frag} {Z' H' : Hp} (r : Rep w K Z0 H0 Z H σ ρ) (x : Ext Z H Z' H') (i : Nat) {v : V} {s : Sl} (q : SlNew w K H Z' H' v s) : Rep w K Z0 H0 Z' H' (σ.set i (some v)) (ρ.set i s) := by
  cases s with
  | f d => exact (r.step x).setF i q
  | o d =>
    obtain ⟨a, rfl, hn, ho⟩ := q
    refine (r.step x).setO i ho ?_ fun j e hj h1 h2 => ?_
    · cases e : H0 a with
      | none => rfl
      | some u => have := r.ext.hh a u e; rw [hn] at this; cases this
    · obtain ⟨b, h3, h4, _⟩ := r.getO h1
      rw [h2] at h3
      cases h3
      obtain ⟨u, hu⟩ := h4.there
      rw [hn] at hu; cases hu
  | u => exact q.elim
  | s d => exact q.elim

/-! ### blocks -/
variable {st : Stmt} {sts : List Stmt} {e a b c : Expr} {pos p : Pos} {F G : EV} {T : ET} {S S' : ES}
def sNil : ES := .nx
def sCons (S S' : ES) : ES := fun ρ => match S ρ with
  | .nx ρ' => S' ρ'
  | o => o
theorem ess_nil : Ess X W [] sNil := ⟨fun r q => toAtSs pss_nil (q _ _ _ r (Same.refl _))⟩
theorem ess_one (h : Es X W st S) : Ess X W [st] S := ⟨fun r q => toAtSs (pss_one ps_at) (h.go r q)⟩
theorem ess_cons (h : Es X W st S) (h2 : Ess X W sts S') : Ess X W (st :: sts) (sCons S S') := by
  refine ⟨fun {Z0 H0 Z H σ ρ D} r q => toAtSs (pss_cons ps_at pss_at) ?_⟩
  refine h.go r ?_
  unfold sCons at q
  cases e : S ρ with
  | nx ρ' =>
    rw [e] at q
    exact fun σ' Z' H' r' s' => h2.go r' (SPost.step q s')
  | ret d => rw [e] at q; exact q
  | bk ρ' => rw [e] at q; exact q
  | ct ρ' => rw [e] at q; exact q
  | exc x ρ' => rw [e] at q; exact q
  | stuck => rw [e] at q; exact q
def sPass : ES := .nx
theorem es_pass : Es X W (.Pass pos) sPass := ⟨fun r q => toAtS ps_pass (q _ _ _ r (Same.refl _))⟩
def sBreak : ES := .bk
theorem es_break : Es X W (.Break pos) sBreak := ⟨fun r q => toAtS ps_break (q _ _ _ r (Same.refl _))⟩
def sContinue : ES := .ct
theorem es_continue : Es X W (.Continue pos) sContinue := ⟨fun r q => toAtS ps_continue (q _ _ _ r (Same.refl _))⟩
def sRet (F : EV) : ES := fun ρ => Out.of (F ρ) ρ .ret
theorem es_ret (h : Ev X W e F) : Es X W (.Return (some e) pos) (sRet F) := by
  refine ⟨fun {Z0 H0 Z H σ ρ D} r q => toAtS (ps_ret pe_at) ?_⟩
  exact h.go r ((q.post r).mono fun d hd v Z' H' x rd => hd _ _ _ (r.ext.trans x) rd)
def sRetN : ES := fun _ => .ret .none
theorem es_retN : Es X W (.Return none pos) sRetN := ⟨fun r q => toAtS ps_retN (q _ _ _ r.ext .non)⟩
def sExpr (F : EV) : ES := fun ρ => Out.of (F ρ) ρ fun _ => .nx ρ
theorem es_expr (h : Ev X W e F) (hs : swapsWith e none pos.line X.env = pure false := by rfl) : Es X W (.Expr e pos) (sExpr F) := by
  refine ⟨fun {Z0 H0 Z H σ ρ D} r q => toAtS (ps_expr pe_at hs) ?_⟩
  exact h.go r ((q.post r).mono fun d hd v Z' H' x rd => hd _ _ _ (r.step x) x.zz)
def sNever : ES := fun _ => .stuck
theorem es_never : Es X W st sNever := ⟨fun _ q => q.elim⟩
def sIf (T : ET) (S S' : ES) : ES := fun ρ => Out.of (T ρ) ρ fun b => if b = true then S ρ else S' ρ
theorem es_if {A B : List Stmt} (h : Et X W c T) (ha : Ess X W A S) (hb : Ess X W B S') : Es X W (.If c A B pos) (sIf T S S') := by
  refine ⟨fun {Z0 H0 Z H σ ρ D} r q => toAtS (ps_if pt_at pss_at pss_at) ?_⟩
  refine h.go r ((q.post r).mono fun b hb' Z' H' x => ?_)
  cases b with
  | true => exact ha.go (r.step x) (SPost.step hb' x.zz)
  | false => exact hb.go (r.step x) (SPost.step hb' x.zz)

/-! ### assignments -/
def sSet (i : Nat) (F : Rho → R Sl) : ES := fun ρ => Out.of (F ρ) ρ fun s => .nx (ρ.set i s)
theorem es_set (i : Nat) {x : Str} {p' : Pos} {F : Rho → R Sl} (h : Em X W e F) (hN : X.N.Nodup) (hi : X.N[i]? = some x := by rfl) (hx : Loc X.env.scope x := by first | exact Or.inl rfl | exact Or.inr rfl) (hs : swapsWith e (some (.Name x p')) pos.line X.env = pure false := by rfl)
    (hf : X.fn x = true ∨ X.env.scope.names.lookup x = some .local := by first | exact .inl rfl | exact .inr rfl) : Es X W (.Assign [.Name x p'] e pos) (sSet i F) := by
  refine ⟨fun {Z0 H0 Z H σ ρ D} r q => toAtS (ps_set hN hi hx pe_at hs hf) ?_⟩
  exact h.go r ((q.post r).mono fun s hd v Z' H' x n => hd _ _ _ (r.put x i n) x.zz)
def sAsg (F : EV) (A : EG) : ES := fun ρ => Out.of (F ρ) ρ fun d => Out.of (A d ρ) ρ .nx
theorem es_asg {tg : Expr} {A : EG} {js : List Nat} (h : Ev X W e F) (hg : Eg X tg A js) (hs : swapsWithSole [tg] e pos.line X.env = pure false := by rfl) (hw : swappedStores [tg] e X.env = pure none := by rfl)
    (h1 : (assignEach [tg] X.env).map (·.2) = [assign tg X.env] := by rfl) : Es X W (.Assign [tg] e pos) (sAsg F A) := by
  refine ⟨fun {Z0 H0 Z H σ ρ D} r q => toAtS (ps_asg pe_at pg_at hs hw h1) ?_⟩
  refine h.go r ((q.post r).mono fun d hd v Z' H' x rd => ?_)
  refine hg.go (r.step x) rd ?_
  have cl := hg.cl d ρ
  cases e1 : A d ρ with
  | ok ρ' => rw [e1] at hd; exact fun σ' o r' => hd _ _ _ r' x.zz
  | exc x => rw [e1] at cl; exact cl.elim
  | stuck => rw [e1] at hd; exact hd.elim
def sPar (i j : Nat) (F G : Rho → R Sl) : ES := fun ρ => Out.of (F ρ) ρ fun s => Out.of (G ρ) ρ fun t => .nx ((ρ.set i s).set j t)
theorem put2 {w : World} {K : PySem.W.Frag} {Z1 H1 Z2 H2 : Hp} (r : Rep w K Z0 H0 Z H σ ρ) (x1 : Ext Z H Z1 H1) (x2 : Ext Z1 H1 Z2 H2) {i j : Nat} (hij : i ≠ j) {v u : V} {s t : Sl} (q1 : SlNew w K H Z1 H1 v s) (q2 : SlNew w K H1 Z2 H2 u t) :
    Rep w K Z0 H0 Z2 H2 ((σ.set i (some v)).set j (some u)) ((ρ.set i s).set j t) := (r.put x1 i q1).put x2 j q2
theorem es_par (i j : Nat) {x y : Str} {px py pt : Pos} {kt k2 pt2} {F G : Rho → R Sl} (hc : X.calm = true) (hN : X.N.Nodup) (h1 : Em X W a F) (h2 : Em X W b G) (hi : X.N[i]? = some x := by rfl) (hj : X.N[j]? = some y := by rfl) (hij : i ≠ j := by decide)
    (hx : X.env.scope.names.lookup x = some .local := by rfl) (hy : X.env.scope.names.lookup y = some .local := by rfl)
    (hw : swappedStores [.Tuple [.Name x px, .Name y py] kt pt] (.Tuple [a, b] k2 pt2) X.env = pure (some [x, y]) := by rfl)
    (hs : swapsWithSole [.Tuple [.Name x px, .Name y py] kt pt] (.Tuple [a, b] k2 pt2) pos.line X.env = pure false := by rfl)
    (he : starEach [a, b] X.env = (false, eval a X.env) :: starEach [b] X.env := by rfl) (he2 : starEach [b] X.env = (false, eval b X.env) :: starEach [] X.env := by rfl) :
    Es X W (.Assign [.Tuple [.Name x px, .Name y py] kt pt] (.Tuple [a, b] k2 pt2) pos) (sPar i j F G) := by
  refine ⟨fun {Z0 H0 Z H σ ρ D} r q => toAtS (ps_par hc hN hi hj hij hx hy (pa_cons pe_at (pa_cons pe_at pa_nil he2) he) hw hs) ?_⟩
  refine h1.go r ((q.post r).mono fun s hd v Z1 H1 x1 n1 => ?_)
  refine h2.go (r.step x1) (((hd.post r).step x1).mono fun t ht u Z2 H2 x2 n2 => ?_)
  exact ⟨v, u, rfl, ht _ _ _ (put2 r x1 x2 hij n1 n2) (x1.zz.trans x2.zz)⟩

abbrev rIAdd : R2 := fun x y H Q => rI0 (fun i j => .int (i + j)) x y H Q ∨ (∃ i j, x = .str i ∧ y = .str j ∧ i.length + j.length ≤ sizeLine ∧ Q (.str (i ++ j)) H)
theorem od_iadd : OpD X rIAdd dIAdd := by
  intro Z H x y dx dy Q s rx ry h
  cases rx <;> cases ry <;> try exact h.elim
  · exact .inl ⟨_, _, rfl, rfl, h _ _ _ (Ext.refl s) (.int _)⟩
  · obtain ⟨hc, h⟩ := h.guard
    exact .inr ⟨_, _, rfl, rfl, fits_le hc, h _ _ _ (Ext.refl s) (.str _)⟩
theorem cl_iadd (x y : PQ.D) : (dIAdd x y).clean := by cases x <;> cases y <;> first | trivial | exact clean_guard _ _
theorem od_isub : OpD X (rI0 fun i j => .int (i - j)) dISub := by
  intro Z H x y dx dy Q s rx ry h
  cases rx <;> cases ry <;> try exact h.elim
  exact ⟨_, _, rfl, rfl, h _ _ _ (Ext.refl s) (.int _)⟩
theorem cl_isub (x y : PQ.D) : (dISub x y).clean := by cases x <;> cases y <;> trivial
theorem od_imul : OpD X (rI CMul fun i j => .int (i * j)) dIMul := by
  intro Z H x y dx dy Q s rx ry h
  cases rx <;> cases ry <;> try exact h.elim
  obtain ⟨hc, h⟩ := h.guard
  refine ⟨_, _, rfl, rfl, ?_, h _ _ _ (Ext.refl s) (.int _)⟩
  unfold mulOk at hc
  rw [Bool.or_eq_true, decide_eq_true_eq, decide_eq_true_eq] at hc
  unfold CMul
  omega
theorem cl_imul (x y : PQ.D) : (dIMul x y).clean := by cases x <;> cases y <;> first | trivial | exact clean_guard _ _
theorem od_ifdiv : OpD X (rI CDiv fun i j => .int (i / j)) dIFdiv := by
  intro Z H x y dx dy Q s rx ry h
  cases rx <;> cases ry <;> try exact h.elim
  obtain ⟨hc, h⟩ := h.guard
  unfold divOk at hc
  rw [Bool.and_eq_true, decide_eq_true_eq, decide_eq_true_eq] at hc
  exact ⟨_, _, rfl, rfl, hc, h _ _ _ (Ext.refl s) (.int _)⟩
theorem cl_ifdiv (x y : PQ.D) : (dIFdiv x y).clean := by cases x <;> cases y <;> first | trivial | exact clean_guard _ _
def sAug (i : Nat) (f : PQ.D → PQ.D → R PQ.D) (F : EV) : ES := fun ρ => Out.of (eVar i ρ) ρ fun x => Out.of (F ρ) ρ fun y => Out.of (f x y) ρ fun z => .nx (ρ.set i (.f z))
theorem es_aug (i : Nat) {x : Str} {p' : Pos} {op : Operator} {r2 : R2} {f : PQ.D → PQ.D → R PQ.D} (ho : OpR X (inplaceOp op) r2) (hd : OpD X r2 f) (cl : ∀ x y, (f x y).clean) (h : Ev X W e F) (hN : X.N.Nodup) (hi : X.N[i]? = some x := by rfl) (hx : Loc X.env.scope x := by first | exact Or.inl rfl | exact Or.inr rfl)
    (hf : X.fn x = true ∨ X.env.scope.names.lookup x = some .local := by first | exact .inl rfl | exact .inr rfl) : Es X W (.AugAssign (.Name x p') op e pos) (sAug i f F) := by
  refine ⟨fun {Z0 H0 Z H σ ρ D} r q => toAtS (ps_aug hN hi hx pe_at (ti := r2) (fun pins s σ H x y v u Q I r1 r2 h => ho pins s σ H x y v u Q I r1 r2 h) hf) ?_⟩
  unfold sAug eVar at q
  cases hr : ρ[i]? with
  | none => rw [hr] at q; exact q.elim
  | some s =>
    rw [hr] at q
    cases s with
    | f d =>
      obtain ⟨v, hv, rd⟩ := r.getF hr
      refine ⟨v, hv, ?_⟩
      have q : SPost X W Z0 H0 Z (Out.of (F ρ) ρ fun y => Out.of (f d y) ρ fun z => .nx (ρ.set i (.f z))) D := q
      refine h.go r ((q.post r).mono fun d2 q2 u Z1 H1 x1 r1 => ?_)
      refine hd Z1 H1 v u d d2 _ x1.zh (rd.mono x1.zz) r1 ?_
      have c := cl d d2
      cases e1 : f d d2 with
      | ok z => rw [e1] at q2; exact fun v3 Z3 H3 x3 r3 => q2 _ _ _ ((r.step (x1.trans x3)).setF i r3) (x1.zz.trans x3.zz)
      | exc x => rw [e1] at c; exact c.elim
      | stuck => rw [e1] at q2; exact q2.elim
    | u => exact q.elim
    | o d => exact q.elim
    | s d => exact q.elim
theorem es_iadd (i : Nat) {x : Str} {p' : Pos} (h : Ev X W e F) (hN : X.N.Nodup) (hi : X.N[i]? = some x := by rfl) (hx : Loc X.env.scope x := by first | exact Or.inl rfl | exact Or.inr rfl)
    (hf : X.fn x = true ∨ X.env.scope.names.lookup x = some .local := by first | exact .inl rfl | exact .inr rfl) : Es X W (.AugAssign (.Name x p') .Add e pos) (sAug i dIAdd F) := es_aug i (iop_add.or iop_add_str) od_iadd cl_iadd h hN hi hx hf
theorem es_isub (i : Nat) {x : Str} {p' : Pos} (h : Ev X W e F) (hN : X.N.Nodup) (hi : X.N[i]? = some x := by rfl) (hx : Loc X.env.scope x := by first | exact Or.inl rfl | exact Or.inr rfl)
    (hf : X.fn x = true ∨ X.env.scope.names.lookup x = some .local := by first | exact .inl rfl | exact .inr rfl) : Es X W (.AugAssign (.Name x p') .Sub e pos) (sAug i dISub F) := es_aug i iop_sub od_isub cl_isub h hN hi hx hf
theorem es_imul (i : Nat) {x : Str} {p' : Pos} (h : Ev X W e F) (hN : X.N.Nodup) (hi : X.N[i]? = some x := by rfl) (hx : Loc X.env.scope x := by first | exact Or.inl rfl | exact Or.inr rfl)
    (hf : X.fn x = true ∨ X.env.scope.names.lookup x = some .local := by first | exact .inl rfl | exact .inr rfl) : Es X W (.AugAssign (.Name x p') .Mult e pos) (sAug i dIMul F) := es_aug i iop_mul od_imul cl_imul h hN hi hx hf
theorem es_ifdiv (i : Nat) {x : Str} {p' : Pos} (h : Ev X W e F) (hN : X.N.Nodup) (hi : X.N[i]? = some x := by rfl) (hx : Loc X.env.scope x := by first | exact Or.inl rfl | exact Or.inr rfl)
    (hf : X.fn x = true ∨ X.env.scope.names.lookup x = some .local := by first | exact .inl rfl | exact .inr rfl) : Es X W (.AugAssign (.Name x p') .FloorDiv e pos) (sAug i dIFdiv F) := es_aug i iop_fdiv od_ifdiv cl_ifdiv h hN hi hx hf

/-! ### x.append(e) -/
def sApp (i : Nat) (F : EV) : ES := fun ρ => match ρ[i]? with
  | some (.o (.list ds)) => Out.of (F ρ) ρ fun d => Out.of (guardR (fits (ds.length + 1)) ()) ρ fun _ => .nx (ρ.set i (.o (.list (ds ++ [d]))))
  | _ => .stuck
theorem es_app (i : Nat) {x : Str} {ap cp p' pe : Pos} (h : Ev X W e F) (hi : X.N[i]? = some x := by rfl) (hv : Vis X.env.scope x := by first | exact Or.inl rfl | exact Or.inr (Or.inl rfl) | exact Or.inr (Or.inr rfl)) (hd : (x == ("__debug__" : Str)) = false := by decide)
    (hcd : (x == ("__classdict__" : Str)) = false := by decide) (hs : swapsWith (.Call (.Attribute (.Name x p') "append" ap) [e] [] cp) none pe.line X.env = pure false := by rfl)
    (hbase : attributeBase (.Name x p') "append" X.env (eval (.Name x p') X.env) = eval (.Name x p') X.env := by rfl)
    (hfew : ((backTo cp (starEach (e :: []) X.env)).all (fun x => !x.1) && (backToKw cp (keywordEach [] X.env)).all (fun x => x.1.isSome)
      && decide ((e :: ([] : List Expr)).length + ([] : List Keyword).length + (if ([] : List Keyword).isEmpty then 0 else 1) < 30)) = true := by rfl)
    (hline : (ap.endLine == cp.line) = true := by rfl) (hs' : starEach (e :: []) X.env = (false, eval e X.env) :: starEach [] X.env := by rfl) (hplain : (backTo cp (starEach [] X.env)).any (·.1) = false := by rfl) :
    Es X W (.Expr (.Call (.Attribute (.Name x p') "append" ap) [e] [] cp) pe) (sApp i F) := by
  refine ⟨fun {Z0 H0 Z H σ ρ D} r q => toAtS (ps_expr (pe_bm PySem.F.plainAttrs_list PySem.F.slot_list_append PySem.F.type_list_append mt_append (pe_var hi hv hd hcd) (pa_cons pe_at pa_nil hs') hbase hfew hline hs' hplain) hs) ?_⟩
  unfold sApp at q
  split at q
  · rename_i ds hr
    obtain ⟨l, hl, ho, h0⟩ := r.getO hr
    cases ho with
    | lst hz hH rds =>
      rename_i xs
      refine ⟨_, hl, .inl ⟨rfl, xs, .inl (.inl hH)⟩, ?_⟩
      refine h.go r ((q.post r).mono fun d q2 u Z1 H1 x1 r1 => ?_)
      unfold guardR at q2
      split at q2
      · rename_i hf
        have hf := fits_le hf
        have zl : Z1 l = none := x1.nw l _ hz hH
        refine ⟨l, xs, u, rfl, rfl, x1.hh _ _ hH, by rw [rds.length]; exact hf, ?_⟩
        refine q2 _ _ _ (Rep.mutate (r.step x1) hr hl h0 zl ?_) x1.zz
        exact .lst zl upd_same ((rds.mono x1.zz).append (.cons r1 .nil))
      · exact q2.elim
  · exact q.elim

/-! ### ghosts -/
/-- the slots ks are forgotten behind the statement -/
def oKill (ks : List Nat) : Out → Out
  | .nx ρ => .nx (wipeR ρ ks)
  | o => o
theorem Rep.forgets (r : Rep X.w X.K Z0 H0 Z H σ ρ) : ∀ ks : List Nat, Rep X.w X.K Z0 H0 Z H σ (wipeR ρ ks)
  | [] => r
  | k :: ks => (Rep.forgets r ks).forget k
def sKill (ks : List Nat) (S : ES) : ES := fun ρ => oKill ks (S ρ)
theorem es_kill (ks : List Nat) (h : Es X W st S) : Es X W st (sKill ks S) := by
  refine ⟨fun {Z0 H0 Z H σ ρ D} r q => h.go r ?_⟩
  unfold sKill at q
  cases e : S ρ with
  | nx ρ' => rw [e] at q; exact fun σ' Z' H' r' s' => q _ _ _ (r'.forgets ks) s'
  | ret d => rw [e] at q; exact q
  | bk ρ' => rw [e] at q; exact q
  | ct ρ' => rw [e] at q; exact q
  | exc x ρ' => rw [e] at q; exact q
  | stuck => rw [e] at q; exact q
/-- slot i's own object is frozen ahead of the statement -/
def frz (i : Nat) (ρ : Rho) : Rho := match ρ[i]? with
  | some (.o d) => ρ.set i (.f d)
  | _ => ρ
theorem Rep.frz (r : Rep X.w X.K Z0 H0 Z H σ ρ) (i : Nat) : ∃ Z', Rep X.w X.K Z0 H0 Z' H σ (PQ.frz i ρ) ∧ Same Z Z' := by
  unfold PQ.frz
  split
  · rename_i d h
    exact r.freeze h
  · exact ⟨Z, r, Same.refl _⟩
def sFrz (i : Nat) (S : ES) : ES := fun ρ => S (frz i ρ)
theorem es_frz (i : Nat) (h : Es X W st S) : Es X W st (sFrz i S) := by
  refine ⟨fun {Z0 H0 Z H σ ρ D} r q => ?_⟩
  obtain ⟨Z', r', s⟩ := r.frz i
  exact h.go r' (SPost.step q s)
/-- what is left of a longer frozen part when a is taken out: the tuples -/
theorem unfreeze {Z H Z' H' : Hp} {a : Addr} {o : HO} (s : Same Z H) (hz : Z a = none) (ha : H a = some o) (no : tupsOf (upd Z a o) a = none) (x : Ext (upd Z a o) H Z' H') : ∃ Z'', Ext Z H Z'' H' ∧ Same (tupsOf Z') Z'' ∧ Z'' a = none ∧ ∀ b, Z b = none → Z' b = none → Z'' b = none := by
  refine ⟨fun b => match Z b with
    | some u => some u
    | none => tupsOf Z' b, ⟨x.hh, fun b u e => by simp only [e], fun b u e => ?_, fun b u h1 h2 => ?_⟩, fun b u e => ?_, ?_, fun b h1 h2 => by simp only [h1]; unfold tupsOf; rw [h2]⟩
  · cases hb : Z b with
    | some u' =>
      simp only [hb] at e
      cases e
      exact x.hh b _ (s b _ hb)
    | none => simp only [hb] at e; exact x.zh b u (tupsOf_le _ _ _ e)
  · simp only [h1]
    by_cases hb : b = a
    · subst hb
      have e := x.zz b o upd_same
      unfold tupsOf at no ⊢
      rw [upd_same] at no
      rw [e]
      exact no
    · have := x.nw b u (by rw [upd_ne hb]; exact h1) h2
      unfold tupsOf
      rw [this]
  · cases hb : Z b with
    | some u' =>
      have e1 : Z' b = some u' := x.zz b u' (by rw [upd_ne (fun z => by rw [z, hz] at hb; cases hb)]; exact hb)
      have e2 := tupsOf_le _ _ _ e
      rw [e1] at e2
      cases e2
      simp only [hb]
    | none => simp only [hb]; exact e
  · simp only [hz]
    have e := x.zz a o upd_same
    unfold tupsOf at no ⊢
    rw [upd_same] at no
    rw [e]
    exact no
theorem Own.noTup {w : World} {K : PySem.W.Frag} {a : Addr} {d : PQ.D} (h : Own w K Z H a d) : ∃ o, H a = some o ∧ tupsOf (upd Z a o) a = none := by
  cases h with
  | lst h1 h2 _ => exact ⟨_, h2, by unfold tupsOf; rw [upd_same]⟩
  | dct h1 h2 _ _ _ _ _ _ _ _ => exact ⟨_, h2, by unfold tupsOf; rw [upd_same]⟩
/-- slot i's own object is read within the expression -/
def excFlat (x : Exc) : Bool := x.fld.isEmpty
def borR {α : Type} (ok : α → Bool) : R α → R α
  | .ok d => guardR (ok d) d
  | .exc x => if excFlat x = true then .exc x else .stuck
  | .stuck => .stuck
def borRho (i : Nat) (ρ : Rho) : Option Rho := match ρ[i]? with
  | some (.o d) => some (ρ.set i (.f d))
  | _ => none
def eBor (i : Nat) (F : EV) : EV := fun ρ => match borRho i ρ with
  | some ρ' => borR noLst (F ρ')
  | none => F ρ
theorem Rep.bor {i : Nat} {ρ' : Rho} (r : Rep X.w X.K Z0 H0 Z H σ ρ) (h : borRho i ρ = some ρ') : ∃ a o, Rep X.w X.K Z0 H0 (upd Z a o) H σ ρ' ∧ Z a = none ∧ H a = some o ∧ tupsOf (upd Z a o) a = none := by
  unfold borRho at h
  split at h
  · rename_i d hr
    cases h
    obtain ⟨a, h1, q, h0⟩ := r.getO hr
    obtain ⟨o, ho, hno⟩ := q.noTup
    obtain ⟨o', ho', q', s1, s2⟩ := q.freeze r.zh
    rw [ho] at ho'; cases ho'
    refine ⟨a, o, ⟨⟨r.ext.hh, r.ext.zz.trans s1, s2, fun b u hb1 hb2 => ?_⟩, by simpa using r.len, fun j c s e1 e2 => ?_, fun j k x y b n e1 e2 e3 e4 => ?_⟩, q.zno, ho, hno⟩
    · rw [upd_ne (fun z => by rw [z, h0] at hb2; cases hb2)]
      exact r.ext.nw b u hb1 hb2
    · by_cases hj : i = j
      · subst hj
        rw [h1] at e1; cases e1
        rw [List.getElem?_set] at e2
        simp only [if_true] at e2
        split at e2
        · cases e2; exact ⟨.ref a, rfl, q'⟩
        · cases e2
      · rw [List.getElem?_set_ne hj] at e2
        have := r.sl j c s e1 e2
        cases s with
        | u => trivial
        | f d' => obtain ⟨v, e, z⟩ := this; exact ⟨v, e, z.mono s1⟩
        | s ns => exact this
        | o d' =>
          obtain ⟨b, e, z, z0⟩ := this
          subst e
          refine ⟨b, rfl, z.keep s1 ?_ (fun _ e => e), z0⟩
          have hb : b ≠ a := fun hb => by subst hb; exact r.dj i j d d' b hj hr e2 h1 e1
          rw [upd_ne hb]; exact z.zno
    · have hi : ∀ {m : Nat} {z : PQ.D}, (ρ.set i (.f d))[m]? = some (.o z) → ρ[m]? = some (.o z) := fun {m z} e => by
        by_cases hm : i = m
        · subst hm
          rw [List.getElem?_set] at e
          simp only [if_true] at e
          split at e <;> cases e
        · rw [List.getElem?_set_ne hm] at e; exact e
      exact r.dj j k x y b n (hi e1) (hi e2) e3 e4
  · cases h
theorem bor_x {a : Addr} {o : HO} {x : Exc} (s : Same Z H) (hz : Z a = none) (ha : H a = some o) (no : tupsOf (upd Z a o) a = none) (f : excFlat x = true) (h : XPost X W Z H σ x) : XPost X W (upd Z a o) H σ x := by
  intro cls dx Z' H' e rx
  obtain ⟨Z'', x2, s2, za, zo⟩ := unfreeze s hz ha no e
  cases rx with
  | bare h1 => exact h _ _ Z'' H' x2 (.bare h1)
  | fld _ _ _ => simp [excFlat] at f
theorem borR_post {α : Type} {ok : α → Bool} {r : R α} {P P' : α → Prop} {a : Addr} {o : HO} (s : Same Z H) (hz : Z a = none) (ha : H a = some o) (no : tupsOf (upd Z a o) a = none) (h : Post X W Z H σ (borR ok r) P) (hp : ∀ d, ok d = true → P d → P' d) : Post X W (upd Z a o) H σ r P' := by
  cases r with
  | ok d =>
    have h : Post X W Z H σ (guardR (ok d) d) P := h
    obtain ⟨hc, h⟩ := h.guard
    exact hp d hc h
  | exc x =>
    have h : Post X W Z H σ (if excFlat x = true then R.exc x else R.stuck) P := h
    split at h
    · exact bor_x s hz ha no (by assumption) h
    · exact h.elim
  | stuck => exact h.elim
theorem ev_bor (i : Nat) (h : Ev X W e F) : Ev X W e (eBor i F) := by
  refine ⟨fun {Z0 H0 Z H σ ρ Q} r q => ?_⟩
  unfold eBor at q
  cases hb : borRho i ρ with
  | none => rw [hb] at q; exact h.go r q
  | some ρ' =>
    rw [hb] at q
    obtain ⟨a, o, r', hz, ha, no⟩ := r.bor hb
    refine h.go r' (borR_post r.zh hz ha no q fun d hd q v Z' H' x rd => ?_)
    obtain ⟨Z'', x2, s2, za, zo⟩ := unfreeze r.zh hz ha no x
    exact q v Z'' H' x2 ((rd.tups hd).mono s2)
def tBor (i : Nat) (T : ET) : ET := fun ρ => match borRho i ρ with
  | some ρ' => borR (fun _ => true) (T ρ')
  | none => T ρ
theorem et_bor (i : Nat) (h : Et X W e T) : Et X W e (tBor i T) := by
  refine ⟨fun {Z0 H0 Z H σ ρ Q} r q => ?_⟩
  unfold tBor at q
  cases hb : borRho i ρ with
  | none => rw [hb] at q; exact h.go r q
  | some ρ' =>
    rw [hb] at q
    obtain ⟨a, o, r', hz, ha, no⟩ := r.bor hb
    refine h.go r' (borR_post r.zh hz ha no q fun d hd q Z' H' x => ?_)
    obtain ⟨Z'', x2, s2, za, zo⟩ := unfreeze r.zh hz ha no x
    exact q Z'' H' x2
/-- a new list whose items are tuples all the way -/
def flatO : PQ.D → Bool
  | .list ds => noLsts ds
  | .dict kvs => noLsts (kvs.map (·.1)) && noLsts (kvs.map (·.2))
  | _ => false
def oBor (i : Nat) (F : EV) : EV := fun ρ => match borRho i ρ with
  | some ρ' => borR flatO (F ρ')
  | none => F ρ
theorem eo_bor (i : Nat) (h : Eo X W e F) : Eo X W e (oBor i F) := by
  refine ⟨fun {Z0 H0 Z H σ ρ Q} r q => ?_⟩
  unfold oBor at q
  cases hb : borRho i ρ with
  | none => rw [hb] at q; exact h.go r q
  | some ρ' =>
    rw [hb] at q
    obtain ⟨a, o, r', hz, ha, no⟩ := r.bor hb
    refine h.go r' (borR_post r.zh hz ha no q fun d hd q b Z' H' x hn ho => ?_)
    obtain ⟨Z'', x2, s2, za, zo⟩ := unfreeze r.zh hz ha no x
    have zb : Z'' b = none := zo b (zfree r.zh hn) ho.zno
    refine q b Z'' H' x2 hn ?_
    cases ho with
    | lst h1 h2 h3 => exact .lst zb h2 ((h3.tups (by simpa [flatO] using hd)).mono s2)
    | dct h1 h2 h3 h4 h5 h6 e1 e2 r1 r2 =>
      unfold flatO at hd
      rw [Bool.and_eq_true] at hd
      exact .dct zb h2 h3 h4 h5 h6 e1 e2 ((r1.tups (by rw [e1]; exact hd.1)).mono s2) ((r2.tups (by rw [e2]; exact hd.2)).mono s2)
end
end PQ

/-! PQ.9: loops, calls, raises, defs -/
namespace PQ
open PySem PySem.Spec PyProof.Rows L2
open PySem.W (alike alikeAll dataLt rcLt_alike)

/-! ### for -/
def forL (A : EG) (B : ES) (ks : List Nat) : List D → Rho → Out
  | [], ρ => .nx ρ
  | d :: ds, ρ => match A d ρ with
    | .ok ρ1 => match B ρ1 with
      | .nx ρ2 => forL A B ks ds (wipeR ρ2 ks)
      | .ct ρ2 => forL A B ks ds (wipeR ρ2 ks)
      | .bk ρ2 => .nx (wipeR ρ2 ks)
      | o => o
    | _ => .stuck
def sFor (Fi : EI) (A : EG) (B : ES) (ks : List Nat) : ES := fun ρ => Out.of (Fi ρ) ρ fun ds => forL A B ks ds (wipeR ρ ks)
/-- while, at most n turns -/
def whN (T : ET) (B : ES) (ks : List Nat) : Nat → Rho → Out
  | 0, _ => .stuck
  | n + 1, ρ => Out.of (T ρ) ρ fun b => if b = true then
      match B ρ with
      | .nx ρ2 => whN T B ks n (wipeR ρ2 ks)
      | .ct ρ2 => whN T B ks n (wipeR ρ2 ks)
      | .bk ρ2 => .nx (wipeR ρ2 ks)
      | o => o
    else .nx ρ
def fuelW : Nat := 1000000000
def sWhile (T : ET) (B : ES) (ks : List Nat) : ES := fun ρ => whN T B ks fuelW (wipeR ρ ks)
theorem whN_mono {T : ET} {B : ES} {ks : List Nat} : ∀ {n : Nat} {ρ : Rho} {o : Out}, whN T B ks n ρ = o → o ≠ .stuck → ∀ m, n ≤ m → whN T B ks m ρ = o
  | 0, ρ, o, h, ho, m, _ => absurd h.symm ho
  | n + 1, ρ, o, h, ho, 0, hm => absurd hm (by omega)
  | n + 1, ρ, o, h, ho, m + 1, hm => by
    rw [whN] at h ⊢
    cases e : T ρ with
    | exc x => rw [e] at h; exact h
    | stuck => rw [e] at h; exact h
    | ok b =>
      rw [e] at h
      cases b with
      | false => exact h
      | true =>
        have h : (match B ρ with
          | .nx ρ2 => whN T B ks n (wipeR ρ2 ks)
          | .ct ρ2 => whN T B ks n (wipeR ρ2 ks)
          | .bk ρ2 => .nx (wipeR ρ2 ks)
          | o => o) = o := h
        show (match B ρ with
          | .nx ρ2 => whN T B ks m (wipeR ρ2 ks)
          | .ct ρ2 => whN T B ks m (wipeR ρ2 ks)
          | .bk ρ2 => .nx (wipeR ρ2 ks)
          | o => o) = o
        cases e2 : B ρ with
        | nx ρ2 => rw [e2] at h; exact whN_mono h ho m (by omega)
        | ct ρ2 => rw [e2] at h; exact whN_mono h ho m (by omega)
        | bk ρ2 => rw [e2] at h; exact h
        | ret d => rw [e2] at h; exact h
        | exc x ρ2 => rw [e2] at h; exact h
        | stuck => rw [e2] at h; exact h
theorem sWhile_of {T : ET} {B : ES} {ks : List Nat} {n : Nat} {ρ : Rho} {o : Out} (h : whN T B ks n (wipeR ρ ks) = o) (ho : o ≠ .stuck) (hn : n ≤ 1000000000) : sWhile T B ks ρ = o := whN_mono h ho _ hn

section
variable {X : Cx} {W : WX} {Z0 H0 Z H : Hp} {σ : St} {ρ : Rho} {En : Ends}
variable {tg iter c : Expr} {body : List Stmt} {pos p : Pos} {Fi : EI} {A : EG} {js ks : List Nat} {S : ES} {T : ET}
theorem es_for (ks : List Nat) (hp : PassesOwn (model X.prog X.w) X.A X.env X.xe) (hc : X.calm = true) (hi : Ei X W tg iter Fi) (hg : Eg X tg A js) (hb : Ess X W body S) (hs : ∀ x, foldedSetIterable iter X.env x = pure x := by intro _; rfl) :
    Es X W (.For tg iter body [] pos) (sFor Fi A S ks) := by
  refine ⟨fun {Z0 H0 Z H σ ρ En} r q => toAtS (ps_for hp hc pi_at pg_at pss_at hs) ?_⟩
  refine hi.go r ((q.post r).mono fun ds q J Z1 H1 x1 io => ?_)
  refine ⟨fun i m σi Hi => m = ds.length - i ∧ i ≤ ds.length ∧ ∃ Zi ρi, Rep X.w X.K Z0 H0 Zi Hi σi ρi ∧ Same Z1 Zi ∧ SPost X W Z0 H0 Zi (forL A S ks (ds.drop i) ρi) En,
    ⟨ds.length, by simp, Nat.zero_le _, Z1, wipeR ρ ks, (r.step x1).forgets ks, Same.refl _, SPost.step q x1.zz⟩, ?_⟩
  rintro i m σi Hi ⟨rfl, hle, Zi, ρi, ri, si, qi⟩
  by_cases hlt : i < ds.length
  · have hd : ds[i]? = some ds[i] := by simp [hlt]
    rw [List.drop_eq_getElem_cons hlt] at qi
    generalize ds[i] = d at hd qi
    refine .inr ⟨io.go si ri.zh hd, fun σ' H' => i + 1 ≤ ds.length ∧ ∃ Zi ρi, Rep X.w X.K Z0 H0 Zi H' σ' ρi ∧ Same Z1 Zi ∧ SPost X W Z0 H0 Zi (forL A S ks (ds.drop (i + 1)) ρi) En,
      fun σ' H' h => ⟨ds.length - (i + 1), by omega, rfl, h⟩, fun x H' hy => ?_⟩
    obtain ⟨Z2, x2, rx⟩ := io.yld si ri.zh hd hy
    rw [forL] at qi
    refine hg.go (ri.step x2) rx ?_
    have cl := hg.cl d ρi
    cases e1 : A d ρi with
    | exc x => rw [e1] at cl; exact cl.elim
    | stuck => rw [e1] at qi; exact qi.elim
    | ok ρ1 =>
      rw [e1] at qi
      intro σ2 o2 r2
      refine hb.go r2 ?_
      have s12 := si.trans x2.zz
      have qi : SPost X W Z0 H0 Zi (match S ρ1 with
        | .nx ρ2 => forL A S ks (ds.drop (i + 1)) (wipeR ρ2 ks)
        | .ct ρ2 => forL A S ks (ds.drop (i + 1)) (wipeR ρ2 ks)
        | .bk ρ2 => .nx (wipeR ρ2 ks)
        | o => o) En := qi
      cases e2 : S ρ1 with
      | nx ρ2 =>
        rw [e2] at qi
        exact fun σ3 Z3 H3 r3 s3 => ⟨hlt, Z3, _, r3.forgets ks, s12.trans s3, SPost.step qi (x2.zz.trans s3)⟩
      | ct ρ2 =>
        rw [e2] at qi
        exact fun σ3 Z3 H3 r3 s3 => ⟨hlt, Z3, _, r3.forgets ks, s12.trans s3, SPost.step qi (x2.zz.trans s3)⟩
      | bk ρ2 =>
        rw [e2] at qi
        exact fun σ3 Z3 H3 r3 s3 => qi _ _ _ (r3.forgets ks) (x2.zz.trans s3)
      | ret d => rw [e2] at qi; exact qi
      | exc x ρ2 => rw [e2] at qi; exact qi
      | stuck => rw [e2] at qi; exact qi.elim
  · have ei : i = ds.length := by omega
    subst ei
    rw [List.drop_length] at qi
    exact .inl ⟨io.stop si ri.zh, qi _ _ _ ri (Same.refl _)⟩
theorem es_while (ks : List Nat) (hp : PassesOwn (model X.prog X.w) X.A X.env X.xe) (ht : Et X W c T) (hb : Ess X W body S) : Es X W (.While c body [] pos) (sWhile T S ks) := by
  refine ⟨fun {Z0 H0 Z H σ ρ En} r q => toAtS (ps_while hp pt_at pss_at) ?_⟩
  refine ⟨fun m σi Hi => ∃ Zi ρi, Rep X.w X.K Z0 H0 Zi Hi σi ρi ∧ SPost X W Z0 H0 Zi (whN T S ks m ρi) En, ⟨_, Z, _, r.forgets ks, q⟩, ?_⟩
  rintro m σi Hi ⟨Zi, ρi, ri, qi⟩
  cases m with
  | zero => exact qi.elim
  | succ m =>
    rw [whN] at qi
    refine ht.go ri ((qi.post ri).mono fun b qi Z1 H1 x1 => ?_)
    cases b with
    | false =>
      rw [if_neg Bool.false_ne_true] at qi
      exact qi _ _ _ (ri.step x1) x1.zz
    | true =>
      rw [if_pos rfl] at qi
      refine ⟨fun σ' H' => ∃ Zi ρi, Rep X.w X.K Z0 H0 Zi H' σ' ρi ∧ SPost X W Z0 H0 Zi (whN T S ks m ρi) En, fun σ' H' h => ⟨m, Nat.lt_succ_self m, h⟩, ?_⟩
      refine hb.go (ri.step x1) ?_
      have qi : SPost X W Z0 H0 Zi (match S ρi with
        | .nx ρ2 => whN T S ks m (wipeR ρ2 ks)
        | .ct ρ2 => whN T S ks m (wipeR ρ2 ks)
        | .bk ρ2 => .nx (wipeR ρ2 ks)
        | o => o) En := qi
      cases e2 : S ρi with
      | nx ρ2 =>
        rw [e2] at qi
        exact fun σ3 Z3 H3 r3 s3 => ⟨Z3, _, r3.forgets ks, SPost.step qi (x1.zz.trans s3)⟩
      | ct ρ2 =>
        rw [e2] at qi
        exact fun σ3 Z3 H3 r3 s3 => ⟨Z3, _, r3.forgets ks, SPost.step qi (x1.zz.trans s3)⟩
      | bk ρ2 =>
        rw [e2] at qi
        exact fun σ3 Z3 H3 r3 s3 => qi _ _ _ (r3.forgets ks) (x1.zz.trans s3)
      | ret d => rw [e2] at qi; exact qi
      | exc x ρ2 => rw [e2] at qi; exact qi
      | stuck => rw [e2] at qi; exact qi.elim

/-! ### name = [.. for ..] on one line -/
theorem es_setLc {i : Nat} {y : Str} {py : Pos} {elt : Expr} {ifs : List Expr} {scope : Scope} {own : List (Str × Nat)} {spos : Pos} {F : EV} (hc : X.calm = true) (hN : X.N.Nodup) (hy : X.N[i]? = some y) (hyl : X.env.scope.names.lookup y = some .local)
    (hsw : swapsWith (.ListComp elt [⟨tg, iter, ifs, 0⟩] scope pos) (some (.Name y py)) spos.line X.env = pure true) (hi : Ei X W tg iter Fi) (ok : BlkOk X.N X.env.scope scope own)
    (hg : ∀ (s : Shared) (H : Hp) (C : Addr) (cl : List (Str × Addr)) (fp : List Addr), Eg (X.blk s H scope (compEnvC scope cl C X.env) fp) tg A js) (hjs : ∀ j ∈ js, j ∈ own.map (·.2))
    (ht : ∀ (s : Shared) (H : Hp) (C : Addr) (cl : List (Str × Addr)) (fp : List Addr), Ets (X.blk s H scope (compEnvC scope cl C X.env) fp) ifs T)
    (he : ∀ (s : Shared) (H : Hp) (C : Addr) (cl : List (Str × Addr)) (fp : List Addr), Ev (X.blk s H scope (compEnvC scope cl C X.env) fp) WF elt F) (hs : ∀ x, foldedSetIterable iter X.env x = pure x := by intro _; rfl) :
    Es X W (.Assign [.Name y py] (.ListComp elt [⟨tg, iter, ifs, 0⟩] scope pos) spos) (sSet i (mO (eComp Fi A T F (own.map (·.2))))) := by
  refine ⟨fun {Z0 H0 Z H σ ρ En} r q => toAtS (ps_setLc (g := fun v σ H Q => ∀ s H0 C cl fp, PGat (X.blk s H0 scope (compEnvC scope cl C X.env) fp) tg v σ H Q)
    (tt := fun σ H Q => ∀ s H0 C cl fp, PTsat (X.blk s H0 scope (compEnvC scope cl C X.env) fp) ifs σ H Q)
    (te := fun σ H Q => ∀ s H0 C cl fp, PEat (X.blk s H0 scope (compEnvC scope cl C X.env) fp) elt σ H Q) hc hN hy hyl hsw pi_at ok ?_ ?_ ?_ hs) ?_⟩
  · exact fun s H C cl fp => ⟨fun pins s' σ H' v u Q I rv h => (h s H C cl fp) pins s' u I rv⟩
  · exact fun s H C cl fp => ⟨fun pins s' σ H' Q I h => pts_at.run pins s' σ H' Q I (h s H C cl fp)⟩
  · exact fun s H C cl fp => ⟨fun pins s' σ H' Q I h => (h s H C cl fp) pins s' I⟩
  · refine lc_read hi hg hjs ht he r (Q := fun x H1 => gName i x σ H1 En.nx) ?_
    have q := q.post r
    refine q.bind.mono fun d hd a Z' H' x hn ho => ?_
    exact hd _ _ _ (r.put x i ⟨a, rfl, hn, ho⟩) x.zz

/-! ### what a def promises -/
/-- arguments that bear ds; an end that bears F ds -/
def spF (w : World) (K : PySem.W.Frag) (mg : Str → Option Value) (n : Nat) (F : List D → R D) : Sp := fun vs H Q E => ∃ Z ds, Same Z H ∧ RDs w K Z vs ds ∧ vs.length = n ∧
  match F ds with
  | .ok d => ∀ v Z' H', Ext Z H Z' H' → RD w K Z' v d → Q v H'
  | .exc x => ∀ cls dx Z' H', Ext Z H Z' H' → RX w K mg Z' x cls dx → E cls dx H'
  | .stuck => False
/-- the end of a body -/
def Out.res : Out → R D
  | .nx _ => .ok .none
  | .ret d => .ok d
  | .exc x _ => .exc x
  | _ => .stuck
def rho0 (N : List Str) (ds : List D) : Rho := ds.map .f ++ List.replicate (N.length - ds.length) .u
def runD (n : Nat) (S : ES) (ds : List D) : R D := (S (ds.map .f ++ List.replicate (n - ds.length) .u)).res
theorem rds_slots {w : World} {K : PySem.W.Frag} : ∀ {vs : List V} {ds : List D}, RDs w K Z vs ds → ∀ (m : Nat) (i : Nat) (c : Option V) (s : Sl), (vs.map some ++ List.replicate m none)[i]? = some c → (ds.map Sl.f ++ List.replicate m .u)[i]? = some s → SlRep w K H0 Z H c s
  | _, _, .nil, m, i, c, s, h1, h2 => by
    simp only [List.map_nil, List.nil_append] at h1 h2
    have := List.mem_of_getElem? h2
    rw [List.mem_replicate] at this
    rw [this.2]; trivial
  | _, _, .cons rv rt, m, 0, c, s, h1, h2 => by
    simp at h1 h2
    subst h1 h2
    exact ⟨_, rfl, rv⟩
  | _, _, .cons rv rt, m, i + 1, c, s, h1, h2 => rds_slots rt m i c s (by simpa using h1) (by simpa using h2)
theorem rds_noOwn : ∀ (ds : List D) (m i : Nat) (d : D), (ds.map Sl.f ++ List.replicate m .u)[i]? ≠ some (.o d)
  | [], m, i, d, h => by
    have := List.mem_of_getElem? h
    simp at this
  | e :: ds, m, 0, d, h => by simp at h
  | e :: ds, m, i + 1, d, h => rds_noOwn ds m i d (by simpa using h)
theorem rep_start {w : World} {K : PySem.W.Frag} {vs : List V} {ds : List D} (N : List Str) (s : Same Z H) (r : RDs w K Z vs ds) : Rep w K Z H Z H (L2.start N vs) (ds.map Sl.f ++ List.replicate (N.length - ds.length) .u) := by
  unfold L2.start
  rw [r.length]
  refine ⟨Ext.refl s, by simp [r.length], fun i c s h1 h2 => rds_slots r _ i c s h1 h2, fun i j d e a _ h1 _ _ _ => (rds_noOwn ds _ i d h1).elim⟩
section
variable {P : Program} {w : World} {K : PySem.W.Frag} {mg : Str → Option Value} {base : Heap}
/-- the wish of a def's body -/
abbrev WD (E : XK) : WX := fun cls d _ H => E cls d H
theorem fn_ok {x qual : Str} {st : Stmt} {f : Addr} {fd : FuncData} {N ps : List Str} {k : Nat} {S : ES} (F : Fun K x qual st f fd) (Sc : FnScope N ps (defScope st))
    (hbody : ∀ (cdv : Value) (A : Around) (outer : List Env) (s : Shared) (H : Hp) (E : XK), Room k (A.deeper (envOfC qual (defScope st) s.heap.objs.size f cdv)) →
      Ess (cxOf (L2.CX P w) P w K mg base N qual (defScope st) f cdv A outer s H E) (WD E) (defBody st) S) :
    FnOk P w K mg base (L2.CX P w) (k + 1) f fd ps (spF w K mg ps.length (runD N.length S)) := by
  refine F.okX Sc (fun vs H Q E h => ?_) fun cdv A outer s H vs Q E hr h => ?_
  · obtain ⟨Z, ds, _, _, h, _⟩ := h; exact h
  · obtain ⟨Z, ds, sz, rd, hl, h⟩ := h
    refine ⟨_, pss_at, (hbody cdv A outer s H E hr).go (rep_start (w := w) (K := K) N sz rd) ?_⟩
    unfold runD at h
    cases e : S (ds.map Sl.f ++ List.replicate (N.length - ds.length) .u) with
    | nx ρ => rw [e] at h; exact fun σ' Z' H' r' _ => h _ _ _ r'.ext .non
    | ret d => rw [e] at h; exact fun v Z' H' x rd => h _ _ _ x rd
    | exc x ρ => rw [e] at h; exact fun cls dx σ' Z' H' r' rx => h _ _ _ _ r'.ext rx
    | bk ρ => rw [e] at h; exact h.elim
    | ct ρ => rw [e] at h; exact h.elim
    | stuck => rw [e] at h; exact h.elim
/-- the context of a body: what the rules ask -/
theorem tk_def {N : List Str} {qual : Str} {scope : Scope} {f : Addr} {cd : Value} {A : Around} {outer : List Env} {s : Shared} {H : Hp} {E : XK} :
    Takes (cxOf (L2.CX P w) P w K mg base N qual scope f cd A outer s H E) (WD E) := takes_of rfl rfl rfl rfl
theorem po_def {N : List Str} {qual : Str} {scope : Scope} {f : Addr} {cd : Value} {A : Around} {outer : List Env} {s : Shared} {H : Hp} {E : XK} :
    PassesOwn (model P w) (A.deeper (envOfC qual scope s.heap.objs.size f cd)) (envOfC qual scope s.heap.objs.size f cd) (cxOf (L2.CX P w) P w K mg base N qual scope f cd A outer s H E).xe := PassesOwn.leaving
end
theorem hu_room {A : Around} {k : Nat} (h : Room k A) : A.units + 100 < cLine := by
  have := h.un
  omega

/-! ### calls -/
def eCall (F : List D → R D) (Fs : EA) : EV := fun ρ => Fs ρ >>= F
variable {a e : Expr} {es : List Expr} {Fs : EA}
theorem ev_call {k n : Nat} {f : Addr} {fd : FuncData} {ps : List Str} {F : List D → R D} {x : Str} (G : FnOk X.prog X.w X.K X.mg X.base (L2.CX X.prog X.w) k f fd ps (spF X.w X.K X.mg n F)) (hn : (e :: es).length = n) (tk : Takes X W) (hr : Room k X.A) (hm : X.mg x = some (.ref f))
    (hk : PySem.W.keepIn X.K (.ref f) = true) (hb : Binds X.K fd ps []) (ha : Ea X W (e :: es) Fs) (hg : Gl X x := by rfl) (hdb : (x == ("__debug__" : Str)) = false := by decide) :
    Ev X W (.Call (.Name x p) (e :: es) [] pos) (eCall F Fs) := by
  refine ⟨fun {Z0 H0 Z H σ ρ Q} r q => toAt (pe_callS G hr hg hm hk hb (fun σ => passAt tk σ) pa_at hdb (ha.se _ _ rfl) (ha.plt _ _ rfl _)) ?_⟩
  refine ha.go r (q.bind.eq.mono fun ds hd vs Z1 H1 x1 r1 => ?_)
  obtain ⟨hd0, hd⟩ := hd
  refine ⟨Z1, ds, x1.zh, r1, by rw [r1.length, ha.len ρ ds hd0, hn], ?_⟩
  cases e1 : F ds with
  | ok d => rw [e1] at hd; exact fun v Z' H' x rd => hd _ _ _ (x1.trans x) rd
  | exc x => rw [e1] at hd; exact fun cls dx Z' H' x rx => hd _ _ _ _ (x1.trans x) rx
  | stuck => rw [e1] at hd; exact hd.elim

/-! ### raise X('..'), X an own class without own __init__ -/
structure OwnX (X : Cx) (x : Str) (C : Addr) : Prop where
  gC : X.mg x = some (.ref C)
  xP : PySem.W.excIn X.K C [.type "ValueError", .type "Exception", .type "BaseException", .type "object"] "ValueError.__new__" = true
  kP : PySem.W.keepIn X.K (.ref C) = true
  bP : PySem.W.subIn X.K (.ref C) (.type "BaseException") = some true
  tP : PySem.W.typeIn X.K (.ref C) = some (.type "type")
def sRaise (n : Str) : ES := fun ρ => .exc ⟨n, []⟩ ρ
theorem es_raise {x m : Str} {C : Addr} {j : Nat} {p2 p3 : Pos} (hc : X.calm = true) (tk : Takes X W) (o : OwnX X x C) (hg : Gl X x := by rfl) (hdb : (x == ("__debug__" : Str)) = false := by decide) :
    Es X W (.Raise (some (.Call (.Name x p) [.Constant (.str m) j p2] [] p3)) none pos) (sRaise x) := by
  refine ⟨fun {Z0 H0 Z H σ ρ En} r q => toAtS (ps_raise hc tk (pmk_own PySem.F.excBase_ValueError o.xP o.gC o.kP (raises_own o.bP o.tP) hg hdb)) ?_⟩
  exact q _ _ _ _ _ r (.bare o.gC)
end
end PQ

/-! PQ.10: the script -/
namespace PQ
open PySem PySem.Spec PyProof.Rows L2
open PySem.W (alike alikeAll dataLt rcLt_alike)

/-! ### script[:63] -/
def eCutS (i : Nat) (P P' : EP') : EV := fun ρ => match ρ[i]? with
  | some (.s ns) => P ρ >>= fun lo => P' ρ >>= fun hi => .ok (.list (cutL (ns.map .int) lo hi))
  | _ => .stuck
section
variable {X : Cx} {W : WX} {a b c e : Expr} {es rest : List Expr} {pos p : Pos} {F G I : EV} {T U : ET} {Fs : EA}
theorem sqL_mono {K : PySem.W.Frag} {Z H : Hp} (s : Same Z H) {p : Addr} {xs : List V} (h : SqL K Z p xs) : SqL K H p xs := by
  rcases h with (h | ⟨o, h⟩) | h
  · exact .inl (.inl (s _ _ h))
  · exact .inl (.inr ⟨o, s _ _ h⟩)
  · exact .inr h
theorem int_rds {w : World} {K : PySem.W.Frag} {Z : Hp} : ∀ ns : List Int, RDs w K Z (ns.map V.int) (ns.map .int)
  | [] => .nil
  | n :: ns => .cons (.int n) (int_rds ns)
theorem ev_cutS (i : Nat) {x : Str} {lo hi : Option Expr} {P P' : EP'} {p2 : Pos} (hl : Ep X W lo P) (hh : Ep X W hi P') (hN : X.N[i]? = some x := by rfl) (hv : Vis X.env.scope x := by first | exact Or.inl rfl | exact Or.inr (Or.inl rfl) | exact Or.inr (Or.inr rfl)) (hd : (x == ("__debug__" : Str)) = false := by decide)
    (hcd : (x == ("__classdict__" : Str)) = false := by decide) : Ev X W (.Subscript (.Name x p) (.Slice lo hi none p2) pos) (eCutS i P P') := by
  refine ⟨fun {Z0 H0 Z H σ ρ Q} r q => toAt (pe_slice sl_all (pe_var hN hv hd hcd) po_at po_at) ?_⟩
  unfold eCutS at q
  split at q
  · rename_i ns hr
    obtain ⟨c, h1, a, rfl, hS⟩ := r.getS hr
    refine ⟨.ref a, h1, ?_⟩
    refine hl.go r (q.bind.mono fun l hl Z2 H2 x2 => ?_)
    refine hh.go (r.step x2) ((hl.bind.step x2).mono fun u hu Z3 H3 x3 => ?_)
    have hS3 : SqL X.K H3 a (ns.map V.int) := sqL_mono ((r.ext.hh.trans x2.hh).trans x3.hh) hS
    refine .inl ⟨a, _, rfl, hS3, fun o no => ?_⟩
    refine hu _ _ _ ((x2.trans x3).trans (Ext.new x3.zh no)) (.lst upd_same ?_)
    exact RDs.cut (int_rds ns) l u
  · exact q.elim

/-! ### f(script, ..) -/
def spS (w : World) (K : PySem.W.Frag) (mg : Str → Option Value) (n : Nat) (F : List Int → List D → R D) : Sp := fun vs H Q E => ∃ Z a ns us ds, vs = .ref a :: us ∧ Same Z H ∧ SqL K H a (ns.map V.int) ∧ RDs w K Z us ds ∧ vs.length = n ∧
  match F ns ds with
  | .ok d => ∀ v Z' H', Ext Z H Z' H' → RD w K Z' v d → Q v H'
  | .exc x => ∀ cls dx Z' H', Ext Z H Z' H' → RX w K mg Z' x cls dx → E cls dx H'
  | .stuck => False
def runS (n : Nat) (S : ES) (ns : List Int) (ds : List D) : R D := (S (.s ns :: (ds.map .f ++ List.replicate (n - (ds.length + 1)) .u))).res
section
variable {P : Program} {w : World} {K : PySem.W.Frag} {mg : Str → Option Value} {base : Heap} {Z H : Hp}
theorem rep_startS {vs : List V} {ds : List D} {a : Addr} {ns : List Int} (N : List Str) (s : Same Z H) (hS : SqL K H a (ns.map V.int)) (r : RDs w K Z vs ds) :
    Rep w K Z H Z H (L2.start N (.ref a :: vs)) (.s ns :: (ds.map Sl.f ++ List.replicate (N.length - (ds.length + 1)) .u)) := by
  unfold L2.start
  rw [List.length_cons, r.length]
  refine ⟨Ext.refl s, by simp [r.length], fun i c s' h1 h2 => ?_, fun i j d e a _ h1 _ _ _ => ?_⟩
  · cases i with
    | zero =>
      simp at h1 h2
      subst h1 h2
      exact ⟨a, rfl, hS⟩
    | succ i => exact rds_slots r _ i c s' (by simpa using h1) (by simpa using h2)
  · cases i with
    | zero => simp at h1
    | succ i => exact (rds_noOwn ds _ i d (by simpa using h1)).elim
theorem fn_okS {x qual : Str} {st : Stmt} {f : Addr} {fd : FuncData} {N ps : List Str} {k : Nat} {S : ES} (F : Fun K x qual st f fd) (Sc : FnScope N ps (defScope st))
    (hbody : ∀ (cdv : Value) (A : Around) (outer : List Env) (s : Shared) (H : Hp) (E : XK), Room k (A.deeper (envOfC qual (defScope st) s.heap.objs.size f cdv)) →
      Ess (cxOf (L2.CX P w) P w K mg base N qual (defScope st) f cdv A outer s H E) (WD E) (defBody st) S) :
    FnOk P w K mg base (L2.CX P w) (k + 1) f fd ps (spS w K mg ps.length (runS N.length S)) := by
  refine F.okX Sc (fun vs H Q E h => ?_) fun cdv A outer s H vs Q E hr h => ?_
  · obtain ⟨Z, a, ns, us, ds, e, _, _, _, h, _⟩ := h; exact h
  · obtain ⟨Z, a, ns, us, ds, rfl, sz, hS, rd, hl, h⟩ := h
    refine ⟨_, pss_at, (hbody cdv A outer s H E hr).go (rep_startS (w := w) (K := K) N sz hS rd) ?_⟩
    unfold runS at h
    cases e : S (.s ns :: (ds.map Sl.f ++ List.replicate (N.length - (ds.length + 1)) .u)) with
    | nx ρ => rw [e] at h; exact fun σ' Z' H' r' _ => h _ _ _ r'.ext .non
    | ret d => rw [e] at h; exact fun v Z' H' x rd => h _ _ _ x rd
    | exc x ρ => rw [e] at h; exact fun cls dx σ' Z' H' r' rx => h _ _ _ _ r'.ext rx
    | bk ρ => rw [e] at h; exact h.elim
    | ct ρ => rw [e] at h; exact h.elim
    | stuck => rw [e] at h; exact h.elim
end
def eCallS (i : Nat) (F : List Int → List D → R D) (Fs : EA) : EV := fun ρ => match ρ[i]? with
  | some (.s ns) => Fs ρ >>= F ns
  | _ => .stuck
theorem ev_callS (i : Nat) {k n : Nat} {f : Addr} {fd : FuncData} {ps : List Str} {F : List Int → List D → R D} {x y : Str} (G : FnOk X.prog X.w X.K X.mg X.base (L2.CX X.prog X.w) k f fd ps (spS X.w X.K X.mg n F)) (hn : es.length + 1 = n) (tk : Takes X W) (hr : Room k X.A) (hm : X.mg x = some (.ref f))
    (hk : PySem.W.keepIn X.K (.ref f) = true) (hb : Binds X.K fd ps []) (ha : Ea X W es Fs) {p' : Pos} (he : starEach (.Name y p' :: es) X.env = (false, eval (.Name y p') X.env) :: starEach es X.env := by rfl) (hg : Gl X x := by rfl) (hdb : (x == ("__debug__" : Str)) = false := by decide)
    (hN : X.N[i]? = some y := by rfl) (hv : Vis X.env.scope y := by first | exact Or.inl rfl | exact Or.inr (Or.inl rfl) | exact Or.inr (Or.inr rfl)) (hd : (y == ("__debug__" : Str)) = false := by decide)
    (hcd : (y == ("__classdict__" : Str)) = false := by decide) :
    Ev X W (.Call (.Name x p) (.Name y p' :: es) [] pos) (eCallS i F Fs) := by
  refine ⟨fun {Z0 H0 Z H σ ρ Q} r q => toAt (pe_callS G hr hg hm hk hb (fun σ => passAt tk σ) (pa_cons (pe_var hN hv hd hcd) pa_at he) hdb he (ha.pl _)) ?_⟩
  unfold eCallS at q
  split at q
  · rename_i ns hrn
    obtain ⟨c, h1, a, rfl, hS⟩ := r.getS hrn
    refine ⟨.ref a, h1, ?_⟩
    refine ha.go r (q.bind.eq.mono fun ds hd vs Z1 H1 x1 r1 => ?_)
    obtain ⟨hd0, hd⟩ := hd
    refine ⟨Z1, a, ns, vs, ds, rfl, x1.zh, sqL_mono (r.ext.hh.trans x1.hh) hS, r1, by rw [List.length_cons, r1.length, ha.len ρ ds hd0, hn], ?_⟩
    cases e1 : F ns ds with
    | ok d => rw [e1] at hd; exact fun v Z' H' x rd => hd _ _ _ (x1.trans x) rd
    | exc x => rw [e1] at hd; exact fun cls dx Z' H' x rx => hd _ _ _ _ (x1.trans x) rx
    | stuck => rw [e1] at hd; exact hd.elim
  · exact q.elim
/-- the law's promise, asked as walk_of asks it -/
theorem law_sp {w : World} {K : PySem.W.Frag} {mg : Str → Option Value} {F : List Int → List D → R D} (hF : ∀ ns : List Int, ns.length ≤ 63 → F ns [] = .ok (.bool true)) (H : Hp) (a : Addr) (ns : List Int) (hl : ns.length ≤ 63) (hS : SqL K H a (ns.map V.int)) :
    spS w K mg 1 F [.ref a] H (fun v _ => v = .bl true) fun _ _ _ => False := by
  refine ⟨fun _ => none, a, ns, [], [], rfl, fun _ _ e => (by cases e), hS, .nil, rfl, ?_⟩
  rw [hF ns hl]
  exact fun v Z' H' _ rd => rd_bool rd
end
end PQ

/-! PQ.11: recursion, the law -/
namespace PQ
open PySem PySem.Spec PyProof.Rows L2
open PySem.W (alike alikeAll dataLt rcLt_alike)

section
variable {P : Program} {w : World} {K : PySem.W.Frag} {mg : Str → Option Value} {base : Heap} {Z H : Hp}
theorem fn_stuck {CX : CXT} {k n : Nat} {f : Addr} {fd : FuncData} {ps : List Str} : FnOk P w K mg base CX k f fd ps (spF w K mg n fun _ => .stuck) :=
  ⟨fun vs H Q E h => by obtain ⟨Z, ds, _, _, _, h⟩ := h; exact h.elim, fun A outer s H args us vs Q E hr he hb hv h => by obtain ⟨Z, ds, _, _, _, h⟩ := h; exact h.elim⟩
theorem FnOk.up {CX : CXT} {j k : Nat} {f : Addr} {fd : FuncData} {ps : List Str} {sp : Sp} (F : FnOk P w K mg base CX j f fd ps sp) (h : j ≤ k) : FnOk P w K mg base CX k f fd ps sp := F.mono h
/-- a constant tuple -/
theorem gc_tup {a : Addr} {o : Obj} {xs : List V} {its : Array Value} {n : Nat} (h : K.lookup a = some o) (hc : o.cls = .type "tuple") (hs : o.data = .seq its n) (hz : its.size ≤ sizeLine) (hv : Vals xs its.toList) : SqT K (fun _ => none) a xs := .inr ⟨o, its, n, h, hc, hs, hz, hv⟩
def spLaw (K : PySem.W.Frag) : Sp := fun vs H Q _ => ∃ (a : Addr) (ns : List Int), vs = [.ref a] ∧ SqL K H a (ns.map V.int) ∧ ns.length ≤ 63 ∧ ∀ H', Q (.bl true) H'
theorem law_imp {F : List Int → List D → R D} (hF : ∀ ns : List Int, ns.length ≤ 63 → F ns [] = .ok (.bool true)) {vs : List V} {H : Hp} {Q : VK} {E : XK} (h : spLaw K vs H Q E) : spS w K mg 1 F vs H Q E := by
  obtain ⟨a, ns, rfl, hS, hl, q⟩ := h
  refine ⟨fun _ => none, a, ns, [], [], rfl, fun _ _ e => (by cases e), hS, .nil, rfl, ?_⟩
  rw [hF ns hl]
  exact fun v Z' H' _ rd => by rw [rd_bool rd]; exact q _
theorem cx_false {outer : List Env} {H : Hp} {s : Shared} {e : Value} {s' : Shared} (h : L2.CX P w outer H s (fun _ _ _ => False) e s') : False := by
  obtain ⟨_, _, _, _, _, _, _, _, _, _, _, _, z⟩ := h
  exact z
end
section
variable {X : Cx} {W : WX} {st : Stmt}
theorem set_set {α : Type} (l : List α) (i : Nat) (a b : α) : (l.set i a).set i b = l.set i b := by simp
theorem es_setF {i : Nat} {F : EV} (h : Es X W st (sSet i (mO F))) : Es X W st (sSet i (mF F)) := by
  refine ⟨fun {Z0 H0 Z H σ ρ En} r q => h.go r ?_⟩
  unfold sSet mF at q
  unfold sSet mO
  cases e : F ρ with
  | exc x => rw [e] at q; exact q
  | stuck => rw [e] at q; exact q
  | ok d =>
    rw [e] at q
    intro σ' Z' H' r' s'
    by_cases hi : i < ρ.length
    · have g : (ρ.set i (.o d))[i]? = some (.o d) := by simp [hi]
      obtain ⟨Z2, r2, s2⟩ := r'.freeze g
      rw [set_set] at r2
      exact q _ _ _ r2 (s'.trans s2)
    · have e1 : ρ.set i (.o d) = ρ := List.set_eq_of_length_le (by omega)
      have e2 : ρ.set i (.f d) = ρ := List.set_eq_of_length_le (by omega)
      have q : SPost X W Z0 H0 Z (.nx (ρ.set i (.f d))) En := q
      rw [e2] at q
      rw [e1] at r'
      exact q _ _ _ r' s'
end
end PQ

/-! PQ.12: single comparisons as tests -/
namespace PQ
open PySem PySem.Spec PyProof.Rows L2
open PySem.W (alike alikeAll dataLt rcLt_alike)

section
variable {X : Cx} {W : WX} {a b c e : Expr} {es rest : List Expr} {pos p : Pos} {F G I : EV} {T U : ET} {Fs : EA}
theorem et_2 {op : CmpOp} {r : R2} {f : D → D → R D} (h1 : OpR X (compareOp op) r) (o1 : OpD X r f) (c1 : ∀ x y, (f x y).clean) (ha : Ev X W a F) (hb : Ev X W b G) (hm : behindInMarks op b = false) : Et X W (.Compare a [op] [b] pos) (tV (e2 f F G)) := by
  refine ⟨fun {Z0 H0 Z H σ ρ Q} r q => toAtT (pt_cmpR h1 pe_at pe_at hm) ?_⟩
  refine ha.go r (q.bind.bind.mono fun d hd v Z1 H1 x1 r1 => ?_)
  have hd := hd.step x1
  refine hb.go (r.step x1) (hd.bind.mono fun d2 hd2 v2 Z2 H2 x2 r2 => ?_)
  refine o1 Z2 H2 v v2 d d2 _ x2.zh (r1.mono x2.zz) r2 ?_
  have p := hd2.to0 (c1 d d2)
  cases hf : f d d2 with
  | ok z =>
    rw [hf] at p
    intro v3 Z3 H3 x3 r3
    cases z with
    | bool k => cases r3; exact ⟨k, rfl, p _ _ ((x1.trans x2).trans x3)⟩
    | _ => exact p.elim
  | exc x => rw [hf] at p; exact p.elim
  | stuck => rw [hf] at p; exact p.elim
theorem et_eq (hu : HasRoom X) (ha : Ev X W a F) (hb : Ev X W b G) : Et X W (.Compare a [.Eq] [b] pos) (tV (e2 dEq F G)) := et_2 (op_eqP (by have : X.A.units + 100 < cLine := hu; omega)) od_eq cl_eq ha hb (nomark _)
theorem et_ne (hu : HasRoom X) (ha : Ev X W a F) (hb : Ev X W b G) : Et X W (.Compare a [.NotEq] [b] pos) (tV (e2 dNe F G)) := et_2 (op_neP (by have : X.A.units + 100 < cLine := hu; omega)) od_ne cl_ne ha hb (nomark _)
theorem et_lt (hu : HasRoom X) (ha : Ev X W a F) (hb : Ev X W b G) : Et X W (.Compare a [.Lt] [b] pos) (tV (e2 dLt F G)) := et_2 (op_lt.or (op_ltP (by have : X.A.units + 100 < cLine := hu; omega))) od_lt cl_lt ha hb (nomark _)
theorem et_le (ha : Ev X W a F) (hb : Ev X W b G) : Et X W (.Compare a [.LtE] [b] pos) (tV (e2 dLe F G)) := et_2 op_le od_le cl_le ha hb (nomark _)
theorem et_gt (ha : Ev X W a F) (hb : Ev X W b G) : Et X W (.Compare a [.Gt] [b] pos) (tV (e2 dGt F G)) := et_2 op_gt od_gt cl_gt ha hb (nomark _)
theorem et_ge (ha : Ev X W a F) (hb : Ev X W b G) : Et X W (.Compare a [.GtE] [b] pos) (tV (e2 dGe F G)) := et_2 op_ge od_ge cl_ge ha hb (nomark _)
theorem et_in (hu : HasRoom X) (ha : Ev X W a F) (hb : Ev X W b G) (hm : behindInMarks .In b = false := by rfl) : Et X W (.Compare a [.In] [b] pos) (tV (e2 dIn F G)) := et_2 (op_inP hu) od_in cl_in ha hb hm
theorem et_notIn (hu : HasRoom X) (ha : Ev X W a F) (hb : Ev X W b G) (hm : behindInMarks .NotIn b = false := by rfl) : Et X W (.Compare a [.NotIn] [b] pos) (tV (e2 dNotIn F G)) := et_2 (op_notInP hu) od_notIn cl_notIn ha hb hm
theorem et_isN {j p} (ha : Ev X W a F) : Et X W (.Compare a [.Is] [.Constant .none j p] pos) (tV (e1 dIsN F)) := by
  refine ⟨fun {Z0 H0 Z H σ ρ Q} r q => toAtT (pt_cmp (pc_isN pe_at) rfl) ?_⟩
  refine ha.go r (q.bind.bind.mono fun d hd v Z1 H1 x1 r1 => ?_)
  refine ⟨decide (v = .non), rfl, ?_⟩
  rw [rd_none r1]
  exact hd _ _ x1
theorem et_notN {j p} (ha : Ev X W a F) : Et X W (.Compare a [.IsNot] [.Constant .none j p] pos) (tV (e1 dNotN F)) := by
  refine ⟨fun {Z0 H0 Z H σ ρ Q} r q => toAtT (pt_cmp (pc_notN pe_at) rfl) ?_⟩
  refine ha.go r (q.bind.bind.mono fun d hd v Z1 H1 x1 r1 => ?_)
  refine ⟨!decide (v = .non), rfl, ?_⟩
  rw [rd_none r1]
  exact hd _ _ x1
end
end PQ

/-! PQ.13: how denotations compute -/
namespace PQ
open PySem PySem.Spec PyProof.Rows L2
open PySem.W (alike alikeAll dataLt rcLt_alike)

def slF : Option Sl → R D
  | some (.f d) => .ok d
  | _ => .stuck
def slS : Option Sl → R (List Int)
  | some (.s ns) => .ok ns
  | _ => .stuck
def slO : Option Sl → R (List D)
  | some (.o (.list ds)) => .ok ds
  | _ => .stuck
@[simp] theorem slF_f (d : D) : slF (some (.f d)) = .ok d := id rfl
@[simp] theorem slS_s (d : List Int) : slS (some (.s d)) = .ok d := id rfl
@[simp] theorem slO_o (d : List D) : slO (some (.o (.list d))) = .ok d := id rfl
def bor1 {α : Type} (ok : α → Bool) (s : Option Sl) (a : R α) (b : D → R α) : R α := match s with
  | some (.o d) => borR ok (b d)
  | _ => a
def Out.thn (o : Out) (k : ES) : Out := match o with
  | .nx ρ => k ρ
  | o => o
@[simp] theorem thn_nx (ρ : Rho) (k : ES) : (Out.nx ρ).thn k = k ρ := id rfl
@[simp] theorem thn_ret (d : D) (k : ES) : (Out.ret d).thn k = .ret d := id rfl
@[simp] theorem thn_bk (ρ : Rho) (k : ES) : (Out.bk ρ).thn k = .bk ρ := id rfl
@[simp] theorem thn_ct (ρ : Rho) (k : ES) : (Out.ct ρ).thn k = .ct ρ := id rfl
@[simp] theorem thn_exc (x : Exc) (ρ : Rho) (k : ES) : (Out.exc x ρ).thn k = .exc x ρ := id rfl
@[simp] theorem thn_stuck (k : ES) : Out.stuck.thn k = .stuck := id rfl
@[simp] theorem of_stuck {α : Type} (ρ : Rho) (k : α → Out) : Out.of (.stuck) ρ k = .stuck := id rfl
theorem frz_o {i : Nat} {ρ : Rho} {d : D} (h : ρ[i]? = some (.o d)) : frz i ρ = ρ.set i (.f d) := by unfold frz; rw [h]
theorem frz_f {i : Nat} {ρ : Rho} {d : D} (h : ρ[i]? = some (.f d)) : frz i ρ = ρ := by unfold frz; rw [h]
@[simp] theorem x_eNone (ρ : Rho) : eNone ρ = .ok .none := id rfl
@[simp] theorem x_eBool (b : Bool) (ρ : Rho) : eBool b ρ = .ok (.bool b) := id rfl
@[simp] theorem x_eInt (i : Int) (ρ : Rho) : eInt i ρ = .ok (.int i) := id rfl
@[simp] theorem x_eStr (x : Str) (ρ : Rho) : eStr x ρ = .ok (.str x) := id rfl
@[simp] theorem x_eD (d : D) (ρ : Rho) : eD d ρ = .ok d := id rfl
@[simp] theorem x_eVar (i : Nat) (ρ : Rho) : eVar i ρ = slF ρ[i]? := id rfl
@[simp] theorem x_eNil (ρ : Rho) : eNil ρ = .ok [] := id rfl
@[simp] theorem x_eCons (F : EV) (Fs : EA) (ρ : Rho) : eCons F Fs ρ = (F ρ >>= fun d => Fs ρ >>= fun ds => .ok (d :: ds)) := id rfl
@[simp] theorem x_eTup (Fs : EA) (ρ : Rho) : eTup Fs ρ = (Fs ρ >>= fun ds => .ok (.tuple ds)) := id rfl
@[simp] theorem x_eLst (Fs : EA) (ρ : Rho) : eLst Fs ρ = (Fs ρ >>= fun ds => .ok (.list ds)) := id rfl
@[simp] theorem x_e1 (f : D → R D) (F : EV) (ρ : Rho) : e1 f F ρ = (F ρ >>= f) := id rfl
@[simp] theorem x_e2 (f : D → D → R D) (F G : EV) (ρ : Rho) : e2 f F G ρ = (F ρ >>= fun x => G ρ >>= fun y => f x y) := id rfl
@[simp] theorem x_eA (f : List D → R D) (Fs : EA) (ρ : Rho) : eA f Fs ρ = (Fs ρ >>= f) := id rfl
@[simp] theorem x_tV (F : EV) (ρ : Rho) : tV F ρ = (F ρ >>= asB) := id rfl
@[simp] theorem x_asB (b : Bool) : asB (.bool b) = .ok b := id rfl
@[simp] theorem x_asI (i : Int) : asI (.int i) = .ok i := id rfl
@[simp] theorem x_tNotB (T : ET) (ρ : Rho) : tNotB T ρ = (T ρ >>= fun b => .ok (!b)) := id rfl
@[simp] theorem x_tAndB (T U : ET) (ρ : Rho) : tAndB T U ρ = (T ρ >>= fun b => if b = true then U ρ else .ok false) := id rfl
@[simp] theorem x_tOrB (T U : ET) (ρ : Rho) : tOrB T U ρ = (T ρ >>= fun b => if b = true then .ok true else U ρ) := id rfl
@[simp] theorem x_tTrue (ρ : Rho) : tTrue ρ = .ok true := id rfl
@[simp] theorem x_eAnd (F G : EV) (ρ : Rho) : eAnd F G ρ = (F ρ >>= fun x => asB x >>= fun b => if b = true then G ρ else .ok (.bool false)) := by unfold eAnd; cases F ρ <;> rfl
@[simp] theorem x_eOr (F G : EV) (ρ : Rho) : eOr F G ρ = (F ρ >>= fun x => asB x >>= fun b => if b = true then .ok (.bool true) else G ρ) := by unfold eOr; cases F ρ <;> rfl
@[simp] theorem x_eNot (F : EV) (ρ : Rho) : eNot F ρ = (F ρ >>= fun x => asB x >>= fun b => .ok (.bool (!b))) := by unfold eNot; cases F ρ <;> rfl
@[simp] theorem x_eIte (T : ET) (F G : EV) (ρ : Rho) : eIte T F G ρ = (T ρ >>= fun b => if b = true then F ρ else G ρ) := id rfl
@[simp] theorem x_eCh (f g : D → D → R D) (F G I : EV) (ρ : Rho) : eCh f g F G I ρ = (F ρ >>= fun x => G ρ >>= fun y => f x y >>= fun c => asB c >>= fun k => if k = true then I ρ >>= fun z => g y z else .ok (.bool false)) := by unfold eCh; cases F ρ <;> first | rfl | (rename_i x; show (G ρ >>= _) = (G ρ >>= _); cases G ρ <;> first | rfl | (rename_i y; show (f x y >>= asB >>= _) = (f x y >>= _); cases f x y <;> rfl))
@[simp] theorem x_pNone (ρ : Rho) : pNone ρ = .ok none := id rfl
@[simp] theorem x_pSome (F : EV) (ρ : Rho) : pSome F ρ = (F ρ >>= asI >>= fun i => .ok (some i)) := by unfold pSome; cases F ρ with | ok d => cases d <;> rfl | exc x => rfl | stuck => rfl
@[simp] theorem x_eCut (F : EV) (P P' : EP') (ρ : Rho) : eCut F P P' ρ = (F ρ >>= fun x => P ρ >>= fun lo => P' ρ >>= fun hi => dCut lo hi x) := id rfl
@[simp] theorem x_iSeq (F : EV) (ρ : Rho) : iSeq F ρ = (F ρ >>= seqOf) := id rfl
@[simp] theorem x_iRg1 (F : EV) (ρ : Rho) : iRg1 F ρ = (F ρ >>= fun d => asI d >>= fun n => guardR (big62 n) (rgD 0 n)) := by unfold iRg1; cases F ρ <;> rfl
@[simp] theorem x_iRg2 (F G : EV) (ρ : Rho) : iRg2 F G ρ = (F ρ >>= fun d => asI d >>= fun m => G ρ >>= fun e => asI e >>= fun n => guardR (big62 m && big62 n) (rgD m n)) := by unfold iRg2; cases F ρ with | exc x => rfl | stuck => rfl | ok d => (show (asI d >>= _) = (asI d >>= _); cases asI d with | exc x => rfl | stuck => rfl | ok m => (show (G ρ >>= asI >>= _) = (G ρ >>= _); cases G ρ <;> rfl))
@[simp] theorem x_seqOfL (ds : List D) : seqOf (.list ds) = .ok ds := id rfl
@[simp] theorem x_seqOfT (ds : List D) : seqOf (.tuple ds) = .ok ds := id rfl
@[simp] theorem x_seqOfS (z : Str) : seqOf (.str z) = .ok (signs z) := id rfl
@[simp] theorem x_eCutS (i : Nat) (P P' : EP') (ρ : Rho) : eCutS i P P' ρ = (slS ρ[i]? >>= fun ns => P ρ >>= fun lo => P' ρ >>= fun hi => .ok (.list (cutL (ns.map .int) lo hi))) := by unfold eCutS slS; cases ρ[i]? with | none => rfl | some s => cases s <;> rfl
@[simp] theorem x_eCall (F : List D → R D) (Fs : EA) (ρ : Rho) : eCall F Fs ρ = (Fs ρ >>= F) := id rfl
@[simp] theorem x_eCallS (i : Nat) (F : List Int → List D → R D) (Fs : EA) (ρ : Rho) : eCallS i F Fs ρ = (slS ρ[i]? >>= fun ns => Fs ρ >>= F ns) := by unfold eCallS slS; cases ρ[i]? with | none => rfl | some s => cases s <;> rfl
@[simp] theorem x_mF (F : EV) (ρ : Rho) : mF F ρ = (F ρ >>= fun d => .ok (.f d)) := id rfl
@[simp] theorem x_mO (F : EV) (ρ : Rho) : mO F ρ = (F ρ >>= fun d => .ok (.o d)) := id rfl
@[simp] theorem x_sNil (ρ : Rho) : sNil ρ = .nx ρ := id rfl
@[simp] theorem x_sPass (ρ : Rho) : sPass ρ = .nx ρ := id rfl
@[simp] theorem x_sBreak (ρ : Rho) : sBreak ρ = .bk ρ := id rfl
@[simp] theorem x_sContinue (ρ : Rho) : sContinue ρ = .ct ρ := id rfl
@[simp] theorem x_sCons (S S' : ES) (ρ : Rho) : sCons S S' ρ = (S ρ).thn S' := by unfold sCons Out.thn; cases S ρ <;> rfl
@[simp] theorem x_sRet (F : EV) (ρ : Rho) : sRet F ρ = Out.of (F ρ) ρ .ret := id rfl
@[simp] theorem x_sRetN (ρ : Rho) : sRetN ρ = .ret .none := id rfl
@[simp] theorem x_sExpr (F : EV) (ρ : Rho) : sExpr F ρ = Out.of (F ρ) ρ fun _ => .nx ρ := id rfl
@[simp] theorem x_sNever (ρ : Rho) : sNever ρ = .stuck := id rfl
@[simp] theorem x_sIf (T : ET) (S S' : ES) (ρ : Rho) : sIf T S S' ρ = Out.of (T ρ) ρ fun b => if b = true then S ρ else S' ρ := id rfl
@[simp] theorem x_sSet (i : Nat) (F : Rho → R Sl) (ρ : Rho) : sSet i F ρ = Out.of (F ρ) ρ fun s => .nx (ρ.set i s) := id rfl
@[simp] theorem x_sAsg (F : EV) (A : EG) (ρ : Rho) : sAsg F A ρ = Out.of (F ρ) ρ fun d => Out.of (A d ρ) ρ .nx := id rfl
@[simp] theorem x_sPar (i j : Nat) (F G : Rho → R Sl) (ρ : Rho) : sPar i j F G ρ = Out.of (F ρ) ρ fun s => Out.of (G ρ) ρ fun t => .nx ((ρ.set i s).set j t) := id rfl
@[simp] theorem x_sAug (i : Nat) (f : D → D → R D) (F : EV) (ρ : Rho) : sAug i f F ρ = Out.of (eVar i ρ) ρ fun x => Out.of (F ρ) ρ fun y => Out.of (f x y) ρ fun z => .nx (ρ.set i (.f z)) := id rfl
@[simp] theorem x_sApp (i : Nat) (F : EV) (ρ : Rho) : sApp i F ρ = Out.of (slO ρ[i]?) ρ fun ds => Out.of (F ρ) ρ fun d => Out.of (guardR (fits (ds.length + 1)) ()) ρ fun _ => .nx (ρ.set i (.o (.list (ds ++ [d])))) := by unfold sApp slO; cases ρ[i]? with | none => rfl | some s => cases s with | o d => cases d <;> rfl | _ => rfl
@[simp] theorem x_sFor (Fi : EI) (A : EG) (B : ES) (ks : List Nat) (ρ : Rho) : sFor Fi A B ks ρ = Out.of (Fi ρ) ρ fun ds => forL A B ks ds (wipeR ρ ks) := id rfl
@[simp] theorem x_sFrz (i : Nat) (S : ES) (ρ : Rho) : sFrz i S ρ = S (frz i ρ) := id rfl
@[simp] theorem x_sKill (ks : List Nat) (S : ES) (ρ : Rho) : sKill ks S ρ = oKill ks (S ρ) := id rfl
@[simp] theorem x_aName (i : Nat) (d : D) (ρ : Rho) : aName i d ρ = .ok (ρ.set i (.f d)) := id rfl
@[simp] theorem x_aTup (B : List D → Rho → R Rho) (ds : List D) (ρ : Rho) : aTup B (.tuple ds) ρ = B ds ρ := id rfl
@[simp] theorem x_aNil (ρ : Rho) : aNil [] ρ = .ok ρ := id rfl
@[simp] theorem x_aCons (A : EG) (B : List D → Rho → R Rho) (d : D) (ds : List D) (ρ : Rho) : aCons A B (d :: ds) ρ = (A d ρ >>= fun ρ' => B ds ρ') := id rfl
@[simp] theorem x_wipe0 (ρ : Rho) : wipeR ρ [] = ρ := id rfl
@[simp] theorem x_wipe1 (ρ : Rho) (v : Nat) (vs : List Nat) : wipeR ρ (v :: vs) = (wipeR ρ vs).set v .u := id rfl
@[simp] theorem x_eComp (Fi : EI) (A : EG) (T : ET) (F : EV) (vs : List Nat) (ρ : Rho) : eComp Fi A T F vs ρ = (Fi ρ >>= fun ds => guardR (fits ds.length) ds >>= fun ds => nx (compR (cStep A T F (wipeR ρ vs)) ds) >>= fun ys => .ok (.list ys)) := id rfl
@[simp] theorem x_nxok {α : Type} (a : α) : nx (.ok a : R α) = .ok a := id rfl
@[simp] theorem x_resnx (ρ : Rho) : (Out.nx ρ).res = .ok .none := id rfl
@[simp] theorem x_resret (d : D) : (Out.ret d).res = .ok d := id rfl
@[simp] theorem x_resexc (x : Exc) (ρ : Rho) : (Out.exc x ρ).res = .exc x := id rfl
@[simp] theorem x_bor (i : Nat) (F : EV) (ρ : Rho) : eBor i F ρ = bor1 noLst ρ[i]? (F ρ) (fun d => F (ρ.set i (.f d))) := by unfold eBor borRho bor1; cases ρ[i]? with | none => rfl | some s => cases s <;> rfl
@[simp] theorem x_tbor (i : Nat) (F : ET) (ρ : Rho) : tBor i F ρ = bor1 (fun _ => true) ρ[i]? (F ρ) (fun d => F (ρ.set i (.f d))) := by unfold tBor borRho bor1; cases ρ[i]? with | none => rfl | some s => cases s <;> rfl
@[simp] theorem x_obor (i : Nat) (F : EV) (ρ : Rho) : oBor i F ρ = bor1 flatO ρ[i]? (F ρ) (fun d => F (ρ.set i (.f d))) := by unfold oBor borRho bor1; cases ρ[i]? with | none => rfl | some s => cases s <;> rfl
@[simp] theorem x_bor1 {α : Type} (ok : α → Bool) (d : D) (a : R α) (b : D → R α) : bor1 ok (some (.o d)) a b = borR ok (b d) := id rfl
@[simp] theorem x_bor0 {α : Type} (ok : α → Bool) (d : D) (a : R α) (b : D → R α) : bor1 ok (some (.f d)) a b = a := id rfl
@[simp] theorem x_borR {α : Type} (ok : α → Bool) (d : α) : borR ok (.ok d) = guardR (ok d) d := id rfl
@[simp] theorem x_dAdd (i j : Int) : dAdd (.int i) (.int j) = .ok (.int (i + j)) := id rfl
@[simp] theorem x_dSub (i j : Int) : dSub (.int i) (.int j) = .ok (.int (i - j)) := id rfl
@[simp] theorem x_dIAdd (i j : Int) : dIAdd (.int i) (.int j) = .ok (.int (i + j)) := id rfl
@[simp] theorem x_dISub (i j : Int) : dISub (.int i) (.int j) = .ok (.int (i - j)) := id rfl
@[simp] theorem x_dAddS (a b : Str) : dAdd (.str a) (.str b) = guardR (fits (a.length + b.length)) (.str (a ++ b)) := id rfl
@[simp] theorem x_dAddT (a b : List D) : dAdd (.tuple a) (.tuple b) = guardR (fits (a.length + b.length)) (.tuple (a ++ b)) := id rfl
@[simp] theorem x_dAddL (a b : List D) : dAdd (.list a) (.list b) = guardR (fits (a.length + b.length)) (.list (a ++ b)) := id rfl
@[simp] theorem x_dMul (i j : Int) : dMul (.int i) (.int j) = guardR (mulOk i j) (.int (i * j)) := id rfl
@[simp] theorem x_dFdiv (i j : Int) : dFdiv (.int i) (.int j) = guardR (divOk j) (.int (i / j)) := id rfl
@[simp] theorem x_dMod (i j : Int) : dMod (.int i) (.int j) = guardR (decide (0 < j)) (.int (i % j)) := id rfl
@[simp] theorem x_dIMul (i j : Int) : dIMul (.int i) (.int j) = guardR (mulOk i j) (.int (i * j)) := id rfl
@[simp] theorem x_dIFdiv (i j : Int) : dIFdiv (.int i) (.int j) = guardR (divOk j) (.int (i / j)) := id rfl
@[simp] theorem x_dNeg (i : Int) : dNeg (.int i) = .ok (.int (-i)) := id rfl
@[simp] theorem x_dLt (i j : Int) : dLt (.int i) (.int j) = .ok (.bool (decide (i < j))) := id rfl
@[simp] theorem x_dLe (i j : Int) : dLe (.int i) (.int j) = .ok (.bool (decide (i ≤ j))) := id rfl
@[simp] theorem x_dGt (i j : Int) : dGt (.int i) (.int j) = .ok (.bool (decide (j < i))) := id rfl
@[simp] theorem x_dGe (i j : Int) : dGe (.int i) (.int j) = .ok (.bool (decide (j ≤ i))) := id rfl
@[simp] theorem x_dLtI (i j : Int) : dLtI (.int i) (.int j) = .ok (.bool (decide (i < j))) := id rfl
@[simp] theorem x_dLenL (ds : List D) : dLen [.list ds] = .ok (.int ds.length) := id rfl
@[simp] theorem x_dLenT (ds : List D) : dLen [.tuple ds] = .ok (.int ds.length) := id rfl
@[simp] theorem x_dLenS (z : Str) : dLen [.str z] = guardR (fits z.length) (.int z.length) := id rfl
@[simp] theorem x_dInt (i : Int) : dInt [.int i] = .ok (.int i) := id rfl
@[simp] theorem x_dIntB (b : Bool) : dInt [.bool b] = .ok (.int (if b then 1 else 0)) := id rfl
@[simp] theorem x_dAbs (i : Int) : dAbs [.int i] = .ok (.int (if i < 0 then -i else i)) := id rfl
@[simp] theorem x_dMax2 (i j : Int) : dMax2 [.int i, .int j] = .ok (.int (if j > i then j else i)) := id rfl
@[simp] theorem x_dMin2 (i j : Int) : dMin2 [.int i, .int j] = .ok (.int (if j < i then j else i)) := id rfl
@[simp] theorem x_dCutL (lo hi : Option Int) (ds : List D) : dCut lo hi (.list ds) = .ok (.list (cutL ds lo hi)) := id rfl
@[simp] theorem x_dCutT (lo hi : Option Int) (ds : List D) : dCut lo hi (.tuple ds) = .ok (.tuple (cutL ds lo hi)) := id rfl
@[simp] theorem x_dCutS (lo hi : Option Int) (z : Str) : dCut lo hi (.str z) = guardR (fits z.length) (.str (cutS z lo hi)) := id rfl
@[simp] theorem x_dIsN (x : D) : dIsN x = .ok (.bool (isNone x)) := id rfl
@[simp] theorem x_dNotN (x : D) : dNotN x = .ok (.bool (!isNone x)) := id rfl
@[simp] theorem x_isNonenone  : isNone .none = true := id rfl
@[simp] theorem x_isinone (T : String)  : dIsi' T .none = .ok (.bool (isaB T .none)) := id rfl
@[simp] theorem x_isNonebool (b : Bool) : isNone (.bool b) = false := id rfl
@[simp] theorem x_isibool (T : String) (b : Bool) : dIsi' T (.bool b) = .ok (.bool (isaB T (.bool b))) := id rfl
@[simp] theorem x_isNoneint (b : Int) : isNone (.int b) = false := id rfl
@[simp] theorem x_isiint (T : String) (b : Int) : dIsi' T (.int b) = .ok (.bool (isaB T (.int b))) := id rfl
@[simp] theorem x_isNonestr (b : Str) : isNone (.str b) = false := id rfl
@[simp] theorem x_isistr (T : String) (b : Str) : dIsi' T (.str b) = .ok (.bool (isaB T (.str b))) := id rfl
@[simp] theorem x_isNonelist (b : List D) : isNone (.list b) = false := id rfl
@[simp] theorem x_isilist (T : String) (b : List D) : dIsi' T (.list b) = .ok (.bool (isaB T (.list b))) := id rfl
@[simp] theorem x_isNonetuple (b : List D) : isNone (.tuple b) = false := id rfl
@[simp] theorem x_isituple (T : String) (b : List D) : dIsi' T (.tuple b) = .ok (.bool (isaB T (.tuple b))) := id rfl
@[simp] theorem x_guard {α : Type} (a : α) : guardR true a = .ok a := id rfl

/-! ### loops -/
theorem forL_cons (A : EG) (B : ES) (ks : List Nat) (d : D) (ds : List D) (ρ ρ1 ρ2 : Rho) (h1 : A d ρ = .ok ρ1) (h2 : B ρ1 = .nx ρ2 ∨ B ρ1 = .ct ρ2) : forL A B ks (d :: ds) ρ = forL A B ks ds (wipeR ρ2 ks) := by
  rw [forL, h1]
  rcases h2 with h2 | h2 <;> simp only [h2]
theorem forL_next {A : EG} {B : ES} {ks : List Nat} {d : D} {ds : List D} {ρ ρ3 : Rho} {o : Out} (ρ1 ρ2 : Rho) (h1 : A d ρ = .ok ρ1) (h2 : B ρ1 = .nx ρ2) (hw : wipeR ρ2 ks = ρ3) (h3 : forL A B ks ds ρ3 = o) : forL A B ks (d :: ds) ρ = o := by
  rw [forL_cons A B ks d ds ρ ρ1 ρ2 h1 (.inl h2), hw, h3]
/-- a for that goes through: I is kept -/
theorem forL_run {A : EG} {B : ES} {ks : List Nat} (I : Nat → Rho → Prop) : ∀ (ds : List D) (i : Nat) (ρ : Rho), I i ρ →
    (∀ (j : Nat) (d : D) (ρ : Rho), ds[j]? = some d → I (i + j) ρ → ∃ ρ1 ρ2, A d ρ = .ok ρ1 ∧ (B ρ1 = .nx ρ2 ∨ B ρ1 = .ct ρ2) ∧ I (i + j + 1) (wipeR ρ2 ks)) → ∃ ρ', forL A B ks ds ρ = .nx ρ' ∧ I (i + ds.length) ρ'
  | [], i, ρ, h, _ => ⟨ρ, rfl, h⟩
  | d :: ds, i, ρ, h, st => by
    obtain ⟨ρ1, ρ2, h1, h2, h3⟩ := st 0 d ρ rfl h
    obtain ⟨ρ', e, q⟩ := forL_run I ds (i + 1) (wipeR ρ2 ks) h3 fun j d' ρ' hd hI => by
      have := st (j + 1) d' ρ' (by simpa using hd) (by rw [show i + (j + 1) = i + 1 + j by omega]; exact hI)
      rw [show i + (j + 1) = i + 1 + j by omega] at this
      exact this
    refine ⟨ρ', ?_, by rw [List.length_cons, show i + (ds.length + 1) = i + 1 + ds.length by omega]; exact q⟩
    rw [forL_cons A B ks d ds ρ ρ1 ρ2 h1 h2, e]
/-- .. or ends within, as N says -/
theorem forL_end {A : EG} {B : ES} {ks : List Nat} (I : Nat → Rho → Prop) (N : Out → Prop) : ∀ (ds : List D) (i : Nat) (ρ : Rho), I i ρ →
    (∀ (j : Nat) (d : D) (ρ : Rho), ds[j]? = some d → I (i + j) ρ → ∃ ρ1, A d ρ = .ok ρ1 ∧ ((∃ ρ2, (B ρ1 = .nx ρ2 ∨ B ρ1 = .ct ρ2) ∧ I (i + j + 1) (wipeR ρ2 ks)) ∨ (∃ ρ2, B ρ1 = .bk ρ2 ∧ N (.nx (wipeR ρ2 ks))) ∨ (∃ v, B ρ1 = .ret v ∧ N (.ret v)) ∨ (∃ x ρ2, B ρ1 = .exc x ρ2 ∧ N (.exc x ρ2)))) →
    N (forL A B ks ds ρ) ∨ ∃ ρ', forL A B ks ds ρ = .nx ρ' ∧ I (i + ds.length) ρ'
  | [], i, ρ, h, _ => .inr ⟨ρ, rfl, h⟩
  | d :: ds, i, ρ, h, st => by
    obtain ⟨ρ1, h1, ⟨ρ2, h2, h3⟩ | ⟨ρ2, h2, h3⟩ | ⟨v, h2, h3⟩ | ⟨x, ρ2, h2, h3⟩⟩ := st 0 d ρ rfl h
    · rw [forL_cons A B ks d ds ρ ρ1 ρ2 h1 h2]
      rcases forL_end I N ds (i + 1) (wipeR ρ2 ks) h3 (fun j d' ρ' hd hI => by
        have := st (j + 1) d' ρ' (by simpa using hd) (by rw [show i + (j + 1) = i + 1 + j by omega]; exact hI)
        rw [show i + (j + 1) = i + 1 + j by omega] at this
        exact this) with q | ⟨ρ', e, q⟩
      · exact .inl q
      · exact .inr ⟨ρ', e, by rw [List.length_cons, show i + (ds.length + 1) = i + 1 + ds.length by omega]; exact q⟩
    · left; rw [forL, h1]; simp only [h2]; exact h3
    · left; rw [forL, h1]; simp only [h2]; exact h3
    · left; rw [forL, h1]; simp only [h2]; exact h3
theorem compR_ok {step : D → R (Option D)} {f : D → Option D} : ∀ {ds : List D}, (∀ d ∈ ds, step d = .ok (f d)) → compR step ds = .ok (ds.filterMap f)
  | [], _ => rfl
  | d :: ds, h => by
    rw [compR, h d List.mem_cons_self, R.ok_bind, compR_ok fun e he => h e (List.mem_cons_of_mem _ he), R.ok_bind]
    cases e : f d <;> simp [List.filterMap_cons, e]
end PQ

/-! PQ.14: the draws -/
namespace PQ
open PySem PySem.Spec PyProof.Rows L2

def S__law_draws : ES := sCons (sSet 2 (mO (eLst (eNil)))) (sCons (sSet 3 (mF (eInt 7))) (sCons (sFor (iSeq (eCutS 0 (pNone) (pSome (eInt 63)))) (aName 4) (sCons (sSet 6 (mF (eA dAbs (eCons (eVar 4) (eNil))))) (sCons (sSet 3 (mF (e2 dMod (eA dInt (eCons (e2 dAdd (e2 dAdd (e2 dMul (eVar 3) (eInt 48271)) (eVar 6)) (eInt 11)) (eNil))) (eInt 2147483647)))) (sIf (tV (e2 dGe (eVar 6) (e2 dPow (eInt 10) (eInt 18)))) (sFor (iRg1 (eInt 60)) (aName 5) (sIf (tV (e2 dGt (eVar 6) (eInt 0))) (sCons (sApp 2 (e2 dMod (eA dInt (eCons (eVar 6) (eNil))) (eInt 1009))) (sSet 6 (mF (e2 dFdiv (eVar 6) (eInt 1009))))) (sNil)) [0, 4, 5]) (sApp 2 (e2 dMod (e2 dFdiv (eA dInt (eCons (e2 dAdd (e2 dMul (eVar 3) (eInt 16807)) (eInt 5)) (eNil))) (eInt 3)) (eInt 65521)))))) [0, 4, 5, 6]) (sCons (sFor (iRg1 (eVar 1)) (aName 5) (sIf (tBor 2 (tV (e2 dLt (eA dLen (eCons (eVar 2) (eNil))) (eVar 1)))) (sCons (sSet 3 (mF (e2 dMod (eA dInt (eCons (e2 dAdd (e2 dAdd (e2 dMul (eVar 3) (eInt 69621)) (eVar 5)) (eInt 1)) (eNil))) (eInt 2147483647)))) (sApp 2 (e2 dMod (e2 dFdiv (eA dInt (eCons (eVar 3) (eNil))) (eInt 7)) (eInt 65521)))) (sNil)) [0, 4, 5, 6]) (sFrz 2 (sRet (eCut (eVar 2) (pNone) (pSome (eVar 1))))))))
def F__law_draws := runS 7 S__law_draws
/-- a draw -/
def isDraw (d : D) : Prop := ∃ n : Int, d = .int n ∧ 0 ≤ n ∧ n < 65521
theorem mulOk_r {i j : Int} (h : j.natAbs < 18446744073709551616) : mulOk i j = true := by unfold mulOk; simp [h]
theorem rgD_get {lo hi : Int} {j : Nat} {d : D} (h : (rgD lo hi)[j]? = some d) : d = .int (lo + j) ∧ j < (hi - lo).toNat := by
  unfold rgD at h
  rw [List.getElem?_map] at h
  cases e : (List.range (hi - lo).toNat)[j]? with
  | none => rw [e] at h; cases h
  | some k =>
    rw [e] at h
    have hk := List.getElem?_eq_some_iff.mp e
    obtain ⟨hk1, hk2⟩ := hk
    rw [List.getElem_range] at hk2
    subst hk2
    cases h
    exact ⟨rfl, by simpa using hk1⟩
theorem rgD_len (lo hi : Int) : (rgD lo hi).length = (hi - lo).toNat := by unfold rgD; simp
theorem cut_take {α : Type} (xs : List α) (n : Nat) : cutL xs none (some (n : Int)) = xs.take n := by
  unfold cutL
  rw [show HT.sIx xs.length xs.length (some (n : Int)) = min n xs.length from HT.sIx_nat xs.length xs.length n, HT.sIx_none, Nat.sub_zero, List.drop_zero]
  rcases Nat.le_total n xs.length with h | h
  · rw [Nat.min_eq_left h]
  · rw [Nat.min_eq_right h, List.take_length, List.take_of_length_le h]
theorem big62_ok {i : Int} (h1 : 0 ≤ i) (h2 : i < 1000000000000) : big62 i = true := by
  obtain ⟨n, rfl⟩ := Int.eq_ofNat_of_zero_le h1
  show Nat.blt n 4611686018427387904 = true
  exact Nat.ble_eq_true_of_le (by omega)
theorem fits_ok {n : Nat} (h : n ≤ 16777216) : fits n = true := by unfold fits; simpa using h
theorem divOk_ok {j : Int} (h1 : 0 < j) (h2 : j < 1073741824) : divOk j = true := by unfold divOk; simp [h1, h2]
theorem isDraw_mod {i : Int} {j : Int} (h1 : 0 < j) (h2 : j ≤ 65521) : isDraw (.int (i % j)) := ⟨i % j, rfl, Int.emod_nonneg _ (by omega), by have := Int.emod_lt_of_pos i h1; omega⟩
theorem draws_inner (s m seed : Sl) (c1 c2 : Sl) : ∀ (ds : List D) (n : Int) (hn : 0 ≤ n), (∀ d ∈ ds, isDraw d) → ∀ (js : List D), ds.length + js.length ≤ 10000 → ∃ n' es, (∀ d ∈ es, isDraw d) ∧ es.length ≤ ds.length + js.length ∧
    forL (aName 5) (sIf (tV (e2 dGt (eVar 6) (eInt 0))) (sCons (sApp 2 (e2 dMod (eA dInt (eCons (eVar 6) (eNil))) (eInt 1009))) (sSet 6 (mF (e2 dFdiv (eVar 6) (eInt 1009))))) (sNil)) [0, 4, 5] js [.u, m, .o (.list ds), seed, .u, .u, .f (.int n)] = .nx [.u, m, .o (.list es), seed, .u, .u, .f (.int n')] := by
  intro ds n hn hd js hl
  induction js generalizing ds n with
  | nil => exact ⟨n, ds, hd, by simp, rfl⟩
  | cons j js ih =>
    rw [List.length_cons] at hl
    by_cases h : 0 < n
    · obtain ⟨n', es, h1, h2, h3⟩ := ih (ds ++ [.int (n % 1009)]) (n / 1009) (Int.ediv_nonneg hn (by omega)) (fun d hm => by
          rcases List.mem_append.mp hm with hm | hm
          · exact hd d hm
          · rw [List.mem_singleton] at hm; subst hm; exact isDraw_mod (by omega) (by omega)) (by simp; omega)
      refine ⟨n', es, h1, by simp at h2 ⊢; omega, ?_⟩
      refine forL_next [.u, m, .o (.list ds), seed, .u, .f j, .f (.int n)] [.u, m, .o (.list (ds ++ [.int (n % 1009)])), seed, .u, .f j, .f (.int (n / 1009))] (by rfl) ?_ (by rfl) h3
      have hf : fits (ds.length + 1) = true := fits_ok (by omega)
      simp [h, hf, divOk]
    · obtain ⟨n', es, h1, h2, h3⟩ := ih ds n hn hd (by omega)
      refine ⟨n', es, h1, by simp at h2 ⊢; omega, ?_⟩
      refine forL_next [.u, m, .o (.list ds), seed, .u, .f j, .f (.int n)] [.u, m, .o (.list ds), seed, .u, .f j, .f (.int n)] (by rfl) ?_ (by rfl) h3
      simp [h]
theorem draws_outer : ∀ (js : List Int) (ds : List D) (seed : Int) (m c4 : Sl) (k : Nat), (∀ d ∈ ds, isDraw d) → ds.length ≤ 60 * k → k + js.length ≤ 64 → ∃ es seed', (∀ d ∈ es, isDraw d) ∧ es.length ≤ 60 * (k + js.length) ∧
    forL (aName 4) (sCons (sSet 6 (mF (eA dAbs (eCons (eVar 4) (eNil))))) (sCons (sSet 3 (mF (e2 dMod (eA dInt (eCons (e2 dAdd (e2 dAdd (e2 dMul (eVar 3) (eInt 48271)) (eVar 6)) (eInt 11)) (eNil))) (eInt 2147483647)))) (sIf (tV (e2 dGe (eVar 6) (e2 dPow (eInt 10) (eInt 18)))) (sFor (iRg1 (eInt 60)) (aName 5) (sIf (tV (e2 dGt (eVar 6) (eInt 0))) (sCons (sApp 2 (e2 dMod (eA dInt (eCons (eVar 6) (eNil))) (eInt 1009))) (sSet 6 (mF (e2 dFdiv (eVar 6) (eInt 1009))))) (sNil)) [0, 4, 5]) (sApp 2 (e2 dMod (e2 dFdiv (eA dInt (eCons (e2 dAdd (e2 dMul (eVar 3) (eInt 16807)) (eInt 5)) (eNil))) (eInt 3)) (eInt 65521)))))) [0, 4, 5, 6]
      (js.map .int) [.u, m, .o (.list ds), .f (.int seed), .u, .u, .u] = .nx [.u, m, .o (.list es), .f (.int seed'), .u, .u, .u]
  | [], ds, seed, m, c4, k, hd, hl, hk => ⟨ds, seed, hd, by simpa using hl, rfl⟩
  | j :: js, ds, seed, m, c4, k, hd, hl, hk => by
    rw [List.length_cons] at hk
    have hm1 : mulOk seed 48271 = true := mulOk_r (by decide)
    have hm2 : ∀ s : Int, mulOk s 16807 = true := fun s => mulOk_r (by decide)
    have hb : big62 60 = true := by decide
    have hp : dPow (.int 10) (.int 18) = .ok (.int 1000000000000000000) := by rfl
    have hn : 0 ≤ (if j < 0 then -j else j) := by split <;> omega
    generalize hna : (if j < 0 then -j else j) = n at hn
    by_cases h : 1000000000000000000 ≤ n
    · obtain ⟨n', es, h1, h2, h3⟩ := draws_inner (.u) m (.f (.int ((seed * 48271 + n + 11) % 2147483647))) .u .u ds n hn hd (rgD 0 60) (by rw [rgD_len]; omega)
      rw [rgD_len] at h2
      obtain ⟨es', seed', g1, g2, g3⟩ := draws_outer js es ((seed * 48271 + n + 11) % 2147483647) m c4 (k + 1) h1 (by omega) (by omega)
      refine ⟨es', seed', g1, by rw [List.length_cons]; omega, ?_⟩
      rw [List.map_cons]
      refine forL_next [.u, m, .o (.list ds), .f (.int seed), .f (.int j), .u, .u] [.u, m, .o (.list es), .f (.int ((seed * 48271 + n + 11) % 2147483647)), .u, .u, .f (.int n')] (by rfl) ?_ (by rfl) g3
      simp [hna, hm1, hp, h, hb, h3]
    · obtain ⟨es', seed', g1, g2, g3⟩ := draws_outer js (ds ++ [.int ((((seed * 48271 + n + 11) % 2147483647) * 16807 + 5) / 3 % 65521)]) ((seed * 48271 + n + 11) % 2147483647) m c4 (k + 1) (fun d hm => by
          rcases List.mem_append.mp hm with hm | hm
          · exact hd d hm
          · rw [List.mem_singleton] at hm; subst hm; exact isDraw_mod (by omega) (by omega)) (by simp; omega) (by omega)
      refine ⟨es', seed', g1, by rw [List.length_cons]; omega, ?_⟩
      rw [List.map_cons]
      refine forL_next [.u, m, .o (.list ds), .f (.int seed), .f (.int j), .u, .u] [.u, m, .o (.list (ds ++ [.int ((((seed * 48271 + n + 11) % 2147483647) * 16807 + 5) / 3 % 65521)])), .f (.int ((seed * 48271 + n + 11) % 2147483647)), .f (.int j), .u, .f (.int n)] (by rfl) ?_ (by rfl) g3
      have hf : fits (ds.length + 1) = true := fits_ok (by omega)
      simp [hna, hm1, hm2, hp, h, hb, hf, divOk]
theorem draws_fill (M : Int) (hM : 0 ≤ M) : ∀ (js : List D) (ds : List D) (seed : Int) (i : Int), (∀ (t : Nat) (d : D), js[t]? = some d → d = .int (i + t)) → (∀ d ∈ ds, isDraw d) → ds.length + js.length ≤ 10000 → ∃ es seed', (∀ d ∈ es, isDraw d) ∧ es.length ≤ 10000 ∧ (M ≤ ds.length + js.length → M ≤ es.length) ∧
    forL (aName 5) (sIf (tBor 2 (tV (e2 dLt (eA dLen (eCons (eVar 2) (eNil))) (eVar 1)))) (sCons (sSet 3 (mF (e2 dMod (eA dInt (eCons (e2 dAdd (e2 dAdd (e2 dMul (eVar 3) (eInt 69621)) (eVar 5)) (eInt 1)) (eNil))) (eInt 2147483647)))) (sApp 2 (e2 dMod (e2 dFdiv (eA dInt (eCons (eVar 3) (eNil))) (eInt 7)) (eInt 65521)))) (sNil)) [0, 4, 5, 6]
      js [.u, .f (.int M), .o (.list ds), .f (.int seed), .u, .u, .u] = .nx [.u, .f (.int M), .o (.list es), .f (.int seed'), .u, .u, .u]
  | [], ds, seed, i, _, hd, hl => ⟨ds, seed, hd, by simpa using hl, fun h => by simpa using h, rfl⟩
  | j :: js, ds, seed, i, hj, hd, hl => by
    rw [List.length_cons] at hl
    have hj0 : j = .int i := by simpa using hj 0 j rfl
    have hjs : ∀ (t : Nat) (d : D), js[t]? = some d → d = .int ((i + 1) + t) := fun t d h => by
      have := hj (t + 1) d (by simpa using h)
      rw [this]; congr 1; omega
    subst hj0
    have hm1 : mulOk seed 69621 = true := mulOk_r (by decide)
    by_cases h : (ds.length : Int) < M
    · obtain ⟨es, seed', g1, g2, g3, g4⟩ := draws_fill M hM js (ds ++ [.int ((seed * 69621 + i + 1) % 2147483647 / 7 % 65521)]) ((seed * 69621 + i + 1) % 2147483647) (i + 1) hjs (fun d hm => by
          rcases List.mem_append.mp hm with hm | hm
          · exact hd d hm
          · rw [List.mem_singleton] at hm; subst hm; exact isDraw_mod (by omega) (by omega)) (by simp; omega)
      refine ⟨es, seed', g1, g2, fun q => g3 (by simp at q ⊢; omega), ?_⟩
      refine forL_next [.u, .f (.int M), .o (.list ds), .f (.int seed), .u, .f (.int i), .u] [.u, .f (.int M), .o (.list (ds ++ [.int ((seed * 69621 + i + 1) % 2147483647 / 7 % 65521)])), .f (.int ((seed * 69621 + i + 1) % 2147483647)), .u, .f (.int i), .u] (by rfl) ?_ (by rfl) g4
      have hf : fits (ds.length + 1) = true := fits_ok (by omega)
      simp [h, hm1, hf, divOk]
    · obtain ⟨es, seed', g1, g2, g3, g4⟩ := draws_fill M hM js ds seed (i + 1) hjs hd (by omega)
      refine ⟨es, seed', g1, g2, fun q => g3 (by simp at q ⊢; omega), ?_⟩
      refine forL_next [.u, .f (.int M), .o (.list ds), .f (.int seed), .u, .f (.int i), .u] [.u, .f (.int M), .o (.list ds), .f (.int seed), .u, .f (.int i), .u] (by rfl) ?_ (by rfl) g4
      simp [h]
/-- what _law_draws gives -/
theorem law_draws (ns : List Int) (hn : ns.length ≤ 63) (M : Nat) (hM : M ≤ 1000) : ∃ ds : List D, F__law_draws ns [.int M] = .ok (.list ds) ∧ ds.length = M ∧ ∀ d ∈ ds, isDraw d := by
  have hc : cutL (ns.map PyData.int) none (some (63 : Int)) = ns.map .int := by
    rw [show (63 : Int) = ((63 : Nat) : Int) from rfl, cut_take, List.take_of_length_le (by simpa using hn)]
  obtain ⟨es, seed', g1, g2, g3⟩ := draws_outer ns [] 7 (.f (.int M)) .u 0 (fun _ h => by cases h) (by simp) (by omega)
  obtain ⟨fs, seed2, k1, k2, k3, k4⟩ := draws_fill M (by omega) (rgD 0 M) es seed' 0 (fun t d h => (rgD_get h).1) g1 (by rw [rgD_len]; omega)
  refine ⟨fs.take M, ?_, by rw [List.length_take]; have := k3 (by rw [rgD_len]; omega); omega, fun d h => k1 d (List.mem_of_mem_take h)⟩
  have hb : big62 M = true := big62_ok (by omega) (by omega)
  have hcut := cut_take fs M
  simp [F__law_draws, runS, S__law_draws, frz, hc, g3, hb, k4, hcut]
end PQ

/-! PQ.15: how denotations compute: items, equality -/
namespace PQ
open PySem PySem.Spec PyProof.Rows L2

def oR {α : Type} : Option α → R α
  | some a => .ok a
  | none => .stuck
@[simp] theorem oR_some {α : Type} (a : α) : oR (some a) = .ok a := id rfl
@[simp] theorem x_ixL (ds : List D) (i : Int) : dIx (.list ds) (.int i) = oR (atI ds i) := by
  show (match atI ds i with
    | some d => R.ok d
    | none => .stuck) = _
  cases atI ds i <;> rfl
@[simp] theorem x_ixT (ds : List D) (i : Int) : dIx (.tuple ds) (.int i) = oR (atI ds i) := by
  show (match atI ds i with
    | some d => R.ok d
    | none => .stuck) = _
  cases atI ds i <;> rfl
theorem x_ixS (z : Str) (i : Int) : dIx (.str z) (.int i) = (oR (atI z.cps.toList i) >>= fun c => guardR (fits z.length) (PyData.str ⟨#[c]⟩)) := by
  show (match atI z.cps.toList i with
    | some c => guardR (fits z.length) (PyData.str ⟨#[c]⟩)
    | none => .stuck) = _
  cases atI z.cps.toList i <;> rfl
@[simp] theorem atI_0 {α : Type} (a : α) (l : List α) : atI (a :: l) 0 = some a := atI_nat (j := 0) rfl
@[simp] theorem atI_1 {α : Type} (a b : α) (l : List α) : atI (a :: b :: l) 1 = some b := atI_nat (j := 1) rfl
@[simp] theorem atI_2 {α : Type} (a b c : α) (l : List α) : atI (a :: b :: c :: l) 2 = some c := atI_nat (j := 2) rfl
@[simp] theorem atI_3 {α : Type} (a b c d : α) (l : List α) : atI (a :: b :: c :: d :: l) 3 = some d := atI_nat (j := 3) rfl
@[simp] theorem atI_4 {α : Type} (a b c d e : α) (l : List α) : atI (a :: b :: c :: d :: e :: l) 4 = some e := atI_nat (j := 4) rfl
@[simp] theorem atI_5 {α : Type} (a b c d e f : α) (l : List α) : atI (a :: b :: c :: d :: e :: f :: l) 5 = some f := atI_nat (j := 5) rfl
@[simp] theorem x_eqS (a b : Str) : dEq (.str a) (.str b) = .ok (.bool (a == b)) := by show guardR _ _ = _; rfl
@[simp] theorem x_eqI (a b : Int) : dEq (.int a) (.int b) = .ok (.bool (decide (a = b))) := by show guardR _ _ = _; rfl
@[simp] theorem x_eqB (a b : Bool) : dEq (.bool a) (.bool b) = .ok (.bool (a == b)) := by show guardR _ _ = _; rfl
@[simp] theorem x_neS (a b : Str) : dNe (.str a) (.str b) = .ok (.bool (!(a == b))) := by show guardR _ _ = _; rfl
@[simp] theorem x_neI (a b : Int) : dNe (.int a) (.int b) = .ok (.bool (!decide (a = b))) := by show guardR _ _ = _; rfl
theorem eqOk_of {x y : D} (h1 : x.plain = true) (h2 : y.plain = true) (h3 : min x.depth y.depth ≤ 60) : eqOk x y = true := by unfold eqOk; simp [h1, h2, h3]
mutual
theorem eqv_refl : ∀ d : D, d.plain = true → PyData.eqv d d = true
  | .none, _ => rfl
  | .bool b, _ => by simp [PyData.eqv]
  | .int b, _ => by simp [PyData.eqv]
  | .str b, _ => by simp [PyData.eqv]
  | .list xs, h => by
    have h : PyData.plainAll xs = true := h
    show PyData.eqvAll xs xs = true
    exact eqvs_refl xs h
  | .tuple xs, h => by
    have h : PyData.plainAll xs = true := h
    show PyData.eqvAll xs xs = true
    exact eqvs_refl xs h
  | .dict _, h => by cases h
theorem eqvs_refl : ∀ d : List D, PyData.plainAll d = true → PyData.eqvAll d d = true
  | [], _ => rfl
  | x :: xs, h => by
    have h : (x.plain && PyData.plainAll xs) = true := h
    rw [Bool.and_eq_true] at h
    show (PyData.eqv x x && PyData.eqvAll xs xs) = true
    rw [eqv_refl x h.1, eqvs_refl xs h.2]; rfl
end
theorem dNe_self {x : D} (h1 : x.plain = true) (h2 : x.depth ≤ 60) : dNe x x = .ok (.bool false) := by
  show guardR _ _ = _
  rw [eqOk_of h1 h1 (by omega), eqv_refl x h1]; rfl
theorem dEq_self {x : D} (h1 : x.plain = true) (h2 : x.depth ≤ 60) : dEq x x = .ok (.bool true) := by
  show guardR _ _ = _
  rw [eqOk_of h1 h1 (by omega), eqv_refl x h1]; rfl
theorem plain_strs : ∀ ss : List Str, PyData.plainAll (ss.map .str) = true
  | [] => rfl
  | s :: ss => by show (true && _) = true; rw [plain_strs ss]; rfl
theorem plain_ints : ∀ ss : List Int, PyData.plainAll (ss.map .int) = true
  | [] => rfl
  | s :: ss => by show (true && _) = true; rw [plain_ints ss]; rfl
theorem big62_lit {i : Int} (h : big62 i = true) : big62 i = true := h
@[simp] theorem x_guardT {α : Type} {c : Bool} (a : α) (h : c = true) : guardR c a = .ok a := by rw [h]; rfl
@[simp] theorem thn_ite {c : Prop} [Decidable c] (a b : Out) (k : ES) : (if c then a else b).thn k = if c then a.thn k else b.thn k := by split <;> rfl
@[simp] theorem bind_ite {α β : Type} {c : Prop} [Decidable c] (a b : R α) (f : α → R β) : ((if c then a else b) >>= f) = if c then a >>= f else b >>= f := by split <;> rfl
@[simp] theorem of_ite {α : Type} {c : Prop} [Decidable c] (a b : R α) (ρ : Rho) (k : α → Out) : Out.of (if c then a else b) ρ k = if c then Out.of a ρ k else Out.of b ρ k := by split <;> rfl
@[simp] theorem res_ite {c : Prop} [Decidable c] (a b : Out) : (if c then a else b).res = if c then a.res else b.res := by split <;> rfl
theorem whN_0 {T : ET} {B : ES} {ks : List Nat} {n : Nat} {ρ : Rho} (h : T ρ = .ok false) : whN T B ks (n + 1) ρ = .nx ρ := by rw [whN, h]; rfl
theorem whN_1 {T : ET} {B : ES} {ks : List Nat} {n : Nat} {ρ ρ2 ρ3 : Rho} {o : Out} (h : T ρ = .ok true) (h2 : B ρ = .nx ρ2) (hw : wipeR ρ2 ks = ρ3) (h3 : whN T B ks n ρ3 = o) : whN T B ks (n + 1) ρ = o := by
  rw [whN, h]
  show (match B ρ with
    | .nx ρ2 => whN T B ks n (wipeR ρ2 ks)
    | .ct ρ2 => whN T B ks n (wipeR ρ2 ks)
    | .bk ρ2 => .nx (wipeR ρ2 ks)
    | o => o) = o
  rw [h2]
  show whN T B ks n (wipeR ρ2 ks) = o
  rw [hw, h3]
theorem compR_map {α : Type} {step : D → R (Option D)} (φ : α → D) (P : α → Bool) (g : α → D) : ∀ (xs : List α), (∀ x ∈ xs, step (φ x) = .ok (if P x = true then some (g x) else none)) → compR step (xs.map φ) = .ok ((xs.filter P).map g)
  | [], _ => rfl
  | x :: xs, h => by
    rw [List.map_cons, compR, h x List.mem_cons_self, R.ok_bind, compR_map φ P g xs fun y hy => h y (List.mem_cons_of_mem _ hy), R.ok_bind]
    cases e : P x <;> simp [List.filter_cons, e]
theorem compR_all {α : Type} {step : D → R (Option D)} (φ : α → D) (g : α → D) (xs : List α) (h : ∀ x ∈ xs, step (φ x) = .ok (some (g x))) : compR step (xs.map φ) = .ok (xs.map g) := by
  have := compR_map (step := step) φ (fun _ => true) g xs (fun x hx => by rw [h x hx]; rfl)
  rw [this]
  congr 2
  simp
theorem forL_const {A : EG} {B : ES} {ks : List Nat} {ρ : Rho} : ∀ ds : List D, (∀ d ∈ ds, ∃ ρ1 ρ2, A d ρ = .ok ρ1 ∧ B ρ1 = .nx ρ2 ∧ wipeR ρ2 ks = ρ) → forL A B ks ds ρ = .nx ρ
  | [], _ => rfl
  | d :: ds, h => by
    obtain ⟨ρ1, ρ2, h1, h2, h3⟩ := h d List.mem_cons_self
    exact forL_next ρ1 ρ2 h1 h2 h3 (forL_const ds fun e he => h e (List.mem_cons_of_mem _ he))
theorem rgD_nat (m : Nat) : rgD 0 m = (List.range m).map fun (k : Nat) => PyData.int k := by
  unfold rgD
  rw [show ((m : Int) - 0).toNat = m by omega]
  congr 1
  funext k
  congr 1
  omega
end PQ

/-! PQ.16: t[i::k] of tuples -/
namespace PQ
open PySem PySem.Spec PyProof.Rows L2

/-- t[i::k] -/
def strideN (n i k : Nat) : Nat := if i < n then (n - i - 1) / k + 1 else 0
def strideL {α : Type} (xs : List α) (i k : Nat) : List α := (List.range (strideN xs.length i k)).filterMap fun m => xs[i + m * k]?
section
variable {prog : Program} {w : World} {A : Around} {E : Value → Shared → Prop} {s : Shared}
theorem places_stride {n i k : Nat} (hk : 0 < k) : Builtin.Slice.slicePlaces (i : Int) (n : Int) (k : Int) = strideN n i k := by
  unfold Builtin.Slice.slicePlaces strideN
  have h1 : (k : Int) > 0 := by omega
  simp only [h1, if_true]
  by_cases h : i < n
  · have h2 : (i : Int) < n := by omega
    simp only [h, h2, if_true]
    have e : (n : Int) - i - 1 = ((n - i - 1 : Nat) : Int) := by omega
    rw [e, ← Int.natCast_ediv]
    generalize (n - i - 1) / k = z
    omega
  · have h2 : ¬ (i : Int) < n := by omega
    simp only [h, h2, if_false]
    rfl
theorem adjust_stride (lo : Option Int) {i k n : Nat} (hk : 0 < k) (hi : lo = some (i : Int) ∨ (lo = none ∧ i = 0)) : Builtin.Slice.sliceAdjust lo none (k : Int) (n : Int) = (((min i n : Nat) : Int), (n : Int)) := by
  have h1 : ¬ ((k : Int) < 0) := by omega
  unfold Builtin.Slice.sliceAdjust
  simp only [h1, if_false]
  rcases hi with rfl | ⟨rfl, rfl⟩
  · have : ¬ (i : Int) < 0 := by omega
    simp only [this, if_false]
    refine Prod.ext ?_ rfl
    show min (i : Int) n = _
    omega
  · refine Prod.ext ?_ rfl
    show (0 : Int) = _
    omega
theorem stride_min {α : Type} (xs : List α) (i k : Nat) : strideL xs (min i xs.length) k = strideL xs i k := by
  unfold strideL strideN
  by_cases h : i < xs.length
  · rw [Nat.min_eq_left (by omega)]
  · rw [Nat.min_eq_right (by omega), if_neg (by omega), if_neg h]; rfl
theorem getItem_tuple_stride {t sl : Addr} {items : Array Value} {vl vs : Value} {lo : Option Int} {i k : Nat} {Q : Value → Shared → Prop} (ht : IsTup s.heap t items) (hs : s.heap.IsSliceOf sl vl .none vs) (pl : IsPart vl lo) (ps : IsPart vs (some (k : Int))) (hk : 1 < k)
    (hi : lo = some (i : Int) ∨ (lo = none ∧ i = 0))
    (h : Q (.ref s.heap.objs.size) { s with heap := s.heap.push { cls := .type "tuple", data := .seq (strideL items.toList i k).toArray } })
    (hsz : items.size ≤ sizeLine) : wpAny (model prog w) A (getItem (.ref t) (.ref sl)) Q E s := by
  have hle : strideN items.size i k ≤ items.size := by
    unfold strideN
    split
    · have := Nat.div_le_self (items.size - i - 1) k
      omega
    · omega
  have htake : sizeOk (.seq (strideL items.toList i k).toArray) := by
    show (strideL items.toList i k).toArray.size ≤ sizeLine
    rw [List.size_toArray]
    unfold strideL
    have := List.length_filterMap_le (fun m => items.toList[i + m * k]?) (List.range (strideN items.toList.length i k))
    have el : items.toList.length = items.size := by simp
    rw [List.length_range, el] at this
    rw [el]
    omega
  obtain ⟨os, hos, hcs, hds⟩ := id hs
  have hTs : s.TypeIs (.ref sl) "slice" := ⟨os, hos, hcs⟩
  unfold getItem
  try with_reducible refine wpAny_holding ?_
  first | refine wpAny_bind (wpAny_pure ?_) | skip
  refine wpAny_bind (wpAny_sequenceKey ht.typeIs (by decide) ?_)
  refine wpAny_bind (wpAny_callSpecial?_slot (name := Str.ofString "__getitem__") ht.typeIs PyProof.Rows.slot_tuple_getitem
    (wpAny_call_entry PyProof.Rows.slot_tuple_getitem ht.typeIs entry_tuple_getitem ?_ (args_tuple_getitem _ _)))
  show wpAny _ _ (Builtin.Tuple.tupleItemsOf (.ref t) >>= _) _ _ s
  refine wpAny_bind (tupleItemsOf_ ht ?_)
  refine wpAny_bind (wpAny_typeOf hTs ?_)
  rw [if_pos (by decide)]
  refine wpAny_bind ?_
  unfold Builtin.Slice.sliceApplied Builtin.Slice.sliceFields
  refine wpAny_bind (wpAny_bind (wpAny_field hos hds (x := vl) rfl (wpAny_bind (wpAny_field hos hds (x := .none) rfl (wpAny_bind (wpAny_field hos hds (x := vs) rfl (wpAny_pure ?_)))))))
  refine wpAny_bind (HT.slicePart_ ps ?_)
  have hk0 : ¬ (((k : Int) == 0) = true) := by
    rw [beq_iff_eq]; omega
  show wpAny _ _ (if ((k : Int) == 0) = true then _ else _) _ _ s
  rw [if_neg hk0]
  refine wpAny_bind (HT.slicePart_ pl (wpAny_bind (HT.slicePart_ .none (wpAny_bind (wpAny_pure ?_)))))
  show wpAny _ _ (match Builtin.Slice.sliceAdjust lo none (k : Int) ((items.size : Nat) : Int) with | (lo, hi) => pure (lo, (k : Int), Builtin.Slice.slicePlaces lo hi (k : Int))) _ _ s
  rw [adjust_stride lo (by omega) hi]
  show wpAny _ _ (pure (((min i items.size : Nat) : Int), (k : Int), Builtin.Slice.slicePlaces ((min i items.size : Nat) : Int) (items.size : Int) (k : Int))) _ _ s
  rw [places_stride (by omega)]
  refine wpAny_pure ?_
  have hno : ¬ ((((min i items.size : Nat) : Int) == 0 && (k : Int) == 1 && strideN items.size (min i items.size) k == items.size) = true) := by
    intro q
    rw [Bool.and_eq_true, Bool.and_eq_true] at q
    have q1 : (k : Int) = 1 := eq_of_beq q.1.2
    omega
  show wpAny _ _ (if (((min i items.size : Nat) : Int) == 0 && (k : Int) == 1 && strideN items.size (min i items.size) k == items.size) = true then _ else _) _ _ s
  rw [if_neg hno]
  have e : ((List.range (strideN items.size (min i items.size) k)).filterMap fun (m : Nat) => items[(((min i items.size : Nat) : Int) + (m : Int) * (k : Int)).toNat]?).toArray = (strideL items.toList i k).toArray := by
    congr 1
    rw [← stride_min]
    unfold strideL
    rw [Array.length_toList]
    congr 1
    funext m
    have : (((min i items.size : Nat) : Int) + (m : Int) * (k : Int)).toNat = min i items.size + m * k := by
      rw [← Int.natCast_mul]; omega
    rw [this, Array.getElem?_toList]
  rw [e]
  first
    | exact wpAny_bind (m := Builtin.Tuple.tupleExact _) (wpAny_newObj_type (wpAny_pure ⟨_, rfl, wpAny_pure h⟩) htake)
    | exact wpAny_bind (m := Builtin.Tuple.tupleExact _) (wpAny_newObj_type (wpAny_bind (wpAny_pure (wpAny_pure ⟨_, rfl, wpAny_pure h⟩))) htake)
    | exact wpAny_bind (wpAny_bind (m := Builtin.Tuple.tupleExact _) (wpAny_newObj_type (wpAny_pure (wpAny_pure ⟨_, rfl, wpAny_pure h⟩)) htake))
    | exact wpAny_bind (wpAny_bind (m := Builtin.Tuple.tupleExact _) (wpAny_newObj_type (wpAny_pure ⟨_, rfl, wpAny_pure h⟩) htake))
end
section
variable {X : Cx} {W : WX} {a b c e : Expr} {es rest : List Expr} {pos p : Pos} {F G I : EV} {T U : ET} {Fs : EA}
def asT : D → R (List D)
  | .tuple ds => .ok ds
  | _ => .stuck
def dStr2 (k : Nat) (ds : List D) : Option Int → R D
  | none => .ok (.tuple (strideL ds 0 k))
  | some i => if 0 ≤ i then .ok (.tuple (strideL ds i.toNat k)) else .stuck
theorem rd_tup {w : World} {K : PySem.W.Frag} {Z : Hp} {v : V} {ds : List D} (h : RD w K Z v (.tuple ds)) : ∃ a xs, v = .ref a ∧ SqT K Z a xs ∧ RDs w K Z xs ds := by
  cases h with
  | tup h r => exact ⟨_, _, rfl, h, r⟩
def eStride (F : EV) (k : Nat) (P : EP') : EV := fun ρ => F ρ >>= fun x => asT x >>= fun ds => P ρ >>= fun lo => dStr2 k ds lo
theorem RDs.pick {w : World} {K : PySem.W.Frag} {Z : Hp} {vs : List V} {ds : List D} (r : RDs w K Z vs ds) (f : Nat → Nat) : ∀ is : List Nat, RDs w K Z (is.filterMap fun m => vs[f m]?) (is.filterMap fun m => ds[f m]?)
  | [] => .nil
  | i :: is => by
    rw [List.filterMap_cons, List.filterMap_cons]
    cases e : ds[f i]? with
    | none =>
      have : vs[f i]? = none := by
        rw [List.getElem?_eq_none_iff] at e ⊢
        rw [r.length]; exact e
      rw [this]
      exact RDs.pick r f is
    | some d =>
      obtain ⟨v, hv, rv⟩ := r.get e
      rw [hv]
      exact .cons rv (RDs.pick r f is)
theorem vals_pick {xs : List V} {us : List Value} (r : Vals xs us) (f : Nat → Nat) : ∀ is : List Nat, Vals (is.filterMap fun m => xs[f m]?) (is.filterMap fun m => us[f m]?)
  | [] => .nil
  | i :: is => by
    rw [List.filterMap_cons, List.filterMap_cons]
    cases e : xs[f i]? with
    | none =>
      have : us[f i]? = none := Vals.none_of r e
      rw [this]
      exact vals_pick r f is
    | some d =>
      obtain ⟨v, hv, rv⟩ := Vals.get r e
      rw [hv]
      exact .cons rv (vals_pick r f is)
theorem ev_stride {k : Nat} {j} {lo : Option Expr} {P : EP'} {p2 p3 : Pos} (ha : Ev X W a F) (hl : Ep X W lo P) (hk : 1 < k := by decide) : Ev X W (.Subscript a (.Slice lo none (some (.Constant (.int (k : Int)) j p3)) p2) pos) (eStride F k P) := by
  refine ⟨fun {Z0 H0 Z H σ ρ Q} r q pins s I => ?_⟩
  have g : PEat X a σ H (fun x H1 => ∃ xs b, x = V.ref b ∧ SqT X.K H1 b xs ∧ (∀ (pins : List (Addr × Obj)) (s : Shared), Inv X pins σ H1 s → wpAny (model X.prog X.w) X.A (evalPart lo X.env) (fun u s' => ∃ o H', Inv X pins σ H' s' ∧ IsPart u o ∧ ∃ i : Nat, (o = some (i : Int) ∨ (o = none ∧ i = 0)) ∧ SqT X.K H' b xs ∧ ∀ p, H' p = none → Q (.ref p) (upd H' p (.tup (strideL xs i k)))) X.xe s)) := by
    refine ha.go r (q.bind.mono fun d hd v Z1 H1 x1 r1 => ?_)
    have hd := hd.bind
    cases d with
    | tuple ds =>
      obtain ⟨b, xs, rfl, h1, r1⟩ := rd_tup r1
      refine ⟨xs, b, rfl, SqT.mono x1.zh h1, fun pins s I => ?_⟩
      refine hl.go (r.step x1) (Q := fun o H' => ∃ i : Nat, (o = some (i : Int) ∨ (o = none ∧ i = 0)) ∧ SqT X.K H' b xs ∧ ∀ p, H' p = none → Q (.ref p) (upd H' p (.tup (strideL xs i k)))) ((hd.bind.step x1).mono fun o ho Z2 H2 x2 => ?_) pins s I
      have fin : ∀ i : Nat, Post X W Z H σ (.ok (.tuple (strideL ds i k)) : R D) (QV X Z H Q) → ∀ p, H2 p = none → Q (.ref p) (upd H2 p (.tup (strideL xs i k))) := by
        intro i q p hp
        refine q _ _ _ ((x1.trans x2).trans (Ext.new x2.zh hp)) (.tup (.inl (.inl upd_same)) ?_)
        unfold strideL
        rw [r1.length]
        exact ((r1.mono x2.zz).mono (Ext.new (o := .tup _) x2.zh hp).zz).pick (fun m => i + m * k) _
      cases o with
      | none => exact ⟨0, .inr ⟨rfl, rfl⟩, SqT.mono (x2.hh) (SqT.mono x1.zh h1), fin 0 ho⟩
      | some i =>
        have ho : Post X W Z H σ (if 0 ≤ i then .ok (.tuple (strideL ds i.toNat k)) else .stuck : R D) (QV X Z H Q) := ho
        split at ho
        · exact ⟨i.toNat, .inl (by congr 1; omega), SqT.mono (x2.hh) (SqT.mono x1.zh h1), fin _ ho⟩
        · exact ho.elim
    | _ => exact hd.elim
  refine Subscript_ (thn (g pins s I) fun v s1 ⟨x, H1, I1, r1, xs, b, ex, hx, q1⟩ => ?_)
  subst ex
  cases r1
  refine wpAny_Slice (thn (q1 pins s1 I1) fun vl s2 ⟨o, H2, I2, pl, i, hi, hx2, q2⟩ => ?_)
  refine thn (po_none.run pins s2 σ H2 (fun o H3 => o = none ∧ H3 = H2) I2 ⟨rfl, rfl⟩) fun vu s3 ⟨u, H3, I3, pu, eu, e3⟩ => ?_
  subst eu e3
  cases pu
  refine thn ((show PO X (some (.Constant (.int (k : Int)) j p3)) _ from po_some pe_int).run pins s3 σ H3 (fun o H4 => o = some (k : Int) ∧ H4 = H3) I3 ⟨(k : Int), rfl, rfl, rfl⟩) fun vs s4 ⟨o, H4, I4, ps, eo, e4⟩ => ?_
  subst eo e4
  have I5 : Inv X pins σ H4 { s4 with heap := s4.heap.push { cls := .type "slice", data := .fields #[vl, .none, vs] } } := I4.kept (t' := s4.toks) fun b ob q => Heap.get?_push_of_some _ q
  obtain ⟨its, r, ht, hz⟩ := I5.tuple hx2
  have hlen := r.length
  show wpAny (model X.prog X.w) X.A (subscriptTail a (.Slice lo none (some (.Constant (.int (k : Int)) j p3)) p2) (.ref b) (.ref s4.heap.objs.size)) (EP X pins σ Q) X.xe { s4 with heap := s4.heap.push { cls := .type "slice", data := .fields #[vl, .none, vs] } }
  refine tail_any (ops := [.ref b, .ref s4.heap.objs.size]) ht.typeIs (PyProof.Rows.slot_tuple_getitem.lookup) ?_ (by with_unfolding_all rfl)
  refine getItem_tuple_stride ht (Heap.IsSliceOf.new _ vl .none vs) pl ps hk hi ?_ (by rw [List.size_toArray]; omega)
  refine ⟨.ref _, _, I5.laid (t' := s4.toks) (o := .tup (strideL xs i k)) (fun b ob q => Heap.get?_push_of_some _ q) (Nat.le_refl _) ?_, rfl, q2 _ (I5.hok.fresh (Nat.le_refl _))⟩
  refine ⟨?_, strideL its i k, ?_, ?_⟩
  · unfold strideL
    have := List.length_filterMap_le (fun m => xs[i + m * k]?) (List.range (strideN xs.length i k))
    rw [List.length_range] at this
    have h2 : strideN xs.length i k ≤ xs.length := by
      unfold strideN
      split
      · have := Nat.div_le_self (xs.length - i - 1) k
        omega
      · omega
    omega
  · unfold strideL
    rw [hlen]
    exact vals_pick r (fun m => i + m * k) _
  · exact IsTup.new _ _
end
end PQ

/-! PQ.17: three names at once; an if as a test -/
namespace PQ
open PySem PySem.Spec PyProof.Rows L2
section
variable {X : Cx} {W : WX} {a b c e : Expr} {es rest : List Expr} {pos p : Pos} {F G I : EV} {T U : ET} {Fs : EA}
@[simp] theorem x_asT (ds : List D) : asT (.tuple ds) = .ok ds := id rfl
@[simp] theorem x_eStride (F : EV) (k : Nat) (P : EP') (ρ : Rho) : eStride F k P ρ = (F ρ >>= fun x => asT x >>= fun ds => P ρ >>= fun lo => dStr2 k ds lo) := id rfl
@[simp] theorem x_dStr2n (k : Nat) (ds : List D) : dStr2 k ds none = .ok (.tuple (strideL ds 0 k)) := id rfl
@[simp] theorem x_dStr2s (k : Nat) (ds : List D) (i : Int) : dStr2 k ds (some i) = if 0 ≤ i then .ok (.tuple (strideL ds i.toNat k)) else .stuck := id rfl
/-- every other item -/
def evens {α : Type} : List α → List α
  | [] => []
  | [a] => [a]
  | a :: _ :: r => a :: evens r
def odds {α : Type} (l : List α) : List α := evens l.tail
theorem evens_len {α : Type} : ∀ l : List α, (evens l).length = (l.length + 1) / 2
  | [] => by simp [evens]
  | [_] => by simp [evens]
  | a :: b :: r => by
    rw [evens, List.length_cons, evens_len r, List.length_cons, List.length_cons]
    omega
theorem odds_len {α : Type} (l : List α) : (odds l).length = l.length / 2 := by
  unfold odds
  rw [evens_len, List.length_tail]
  omega
theorem evens_get {α : Type} : ∀ (l : List α) (i : Nat), (evens l)[i]? = l[2 * i]?
  | [], i => by simp [evens]
  | [a], 0 => rfl
  | [a], i + 1 => by simp [evens]
  | a :: b :: r, 0 => rfl
  | a :: b :: r, i + 1 => by
    rw [evens, List.getElem?_cons_succ, evens_get r i, show 2 * (i + 1) = 2 * i + 1 + 1 by omega, List.getElem?_cons_succ, List.getElem?_cons_succ]
theorem odds_get {α : Type} (l : List α) (i : Nat) : (odds l)[i]? = l[2 * i + 1]? := by
  unfold odds
  rw [evens_get, List.getElem?_tail]
theorem filterMap_len {α : Type} (f : Nat → Option α) : ∀ n : Nat, (∀ i, i < n → (f i).isSome = true) → ((List.range n).filterMap f).length = n := by
  intro n h
  induction n with
  | zero => rfl
  | succ n ih =>
    rw [List.range_succ, List.filterMap_append, List.length_append, ih fun m hm => h m (by omega)]
    have := h n (by omega)
    cases q : f n with
    | none => rw [q] at this; cases this
    | some x => simp [q]
theorem filterMap_get {α : Type} (f : Nat → Option α) : ∀ n : Nat, (∀ i, i < n → (f i).isSome = true) → ∀ j, j < n → ((List.range n).filterMap f)[j]? = f j := by
  intro n
  induction n with
  | zero => intro _ j h; omega
  | succ n ih =>
    intro h j hj
    have hl : ((List.range n).filterMap f).length = n := filterMap_len f n fun i hi => h i (by omega)
    rw [List.range_succ, List.filterMap_append]
    by_cases e : j < n
    · rw [List.getElem?_append_left (by omega)]
      exact ih (fun i hi => h i (by omega)) j e
    · have : j = n := by omega
      subst this
      rw [List.getElem?_append_right (by omega), hl]
      have := h j (by omega)
      cases q : f j with
      | none => rw [q] at this; cases this
      | some x => simp [q]
theorem stride_len {α : Type} (l : List α) (i : Nat) : (strideL l i 2).length = strideN l.length i 2 := by
  unfold strideL
  have h : ∀ m, m < strideN l.length i 2 → (l[i + m * 2]?).isSome = true := by
    intro m hm
    unfold strideN at hm
    split at hm
    · rw [List.getElem?_eq_getElem (by omega)]; rfl
    · omega
  exact filterMap_len _ _ h
theorem stride_get {α : Type} (l : List α) (i j : Nat) : (strideL l i 2)[j]? = l[i + 2 * j]? := by
  by_cases hj : j < strideN l.length i 2
  · unfold strideL
    rw [filterMap_get _ _ (fun m hm => ?_) j hj, Nat.mul_comm]
    unfold strideN at hm
    split at hm
    · rw [List.getElem?_eq_getElem (by omega)]; rfl
    · omega
  · rw [List.getElem?_eq_none (by rw [stride_len]; omega)]
    unfold strideN at hj
    symm
    rw [List.getElem?_eq_none_iff]
    split at hj <;> omega
theorem stride0 {α : Type} (l : List α) : strideL l 0 2 = evens l := by
  apply List.ext_getElem?
  intro j
  rw [stride_get, evens_get, Nat.zero_add]
theorem stride1 {α : Type} (l : List α) : strideL l 1 2 = odds l := by
  apply List.ext_getElem?
  intro j
  rw [stride_get, odds_get, Nat.add_comm]
end
end PQ

namespace PQ
open PySem PySem.Spec PyProof.Rows L2
def topS (i : Nat) : Stmt := PySem.Challenge.pw_marblewright_k31_whole_same_trees.main.body.getD i (.Pass ⟨0, 0, 0, 0⟩)
@[simp] abbrev c_LETTERS : D := .str "abcdefghijklmnopqrstuvwxyz"
@[simp] abbrev c_END : D := .str "end"
@[simp] abbrev c_SWITCH : D := .str "switch"
@[simp] abbrev c_SIDES : D := .tuple [.str "L", .str "R"]
@[simp] abbrev c_MOST_LETTERS : D := .int 8
@[simp] abbrev c_MOST_DEEP : D := .int 8
@[simp] abbrev c_MOST_THINGS : D := .int 200
@[simp] abbrev c_MOST_MARBLES : D := .int 1000
@[simp] abbrev c_MOST_NAMES : D := .int 64
structure Txt (w : World) (K : PySem.W.Frag) (mg : Str → Option Value) where
  f_is_whole : Addr
  d_is_whole : FuncData
  m_is_whole : mg "is_whole" = some (.ref f_is_whole)
  F_is_whole : Fun K "is_whole" "is_whole" (topS 6) f_is_whole d_is_whole
  b_is_whole : Binds K d_is_whole ["value", "least", "most"] []
  f_is_name : Addr
  d_is_name : FuncData
  m_is_name : mg "is_name" = some (.ref f_is_name)
  F_is_name : Fun K "is_name" "is_name" (topS 16) f_is_name d_is_name
  b_is_name : Binds K d_is_name ["value"] []
  f__is_within : Addr
  d__is_within : FuncData
  m__is_within : mg "_is_within" = some (.ref f__is_within)
  F__is_within : Fun K "_is_within" "_is_within" (topS 17) f__is_within d__is_within
  b__is_within : Binds K d__is_within ["value", "room"] []
  f_things_in : Addr
  d_things_in : FuncData
  m_things_in : mg "things_in" = some (.ref f_things_in)
  F_things_in : Fun K "things_in" "things_in" (topS 18) f_things_in d_things_in
  b_things_in : Binds K d_things_in ["tree"] []
  f_is_tree : Addr
  d_is_tree : FuncData
  m_is_tree : mg "is_tree" = some (.ref f_is_tree)
  F_is_tree : Fun K "is_tree" "is_tree" (topS 19) f_is_tree d_is_tree
  b_is_tree : Binds K d_is_tree ["value"] []
  f_check_tree : Addr
  d_check_tree : FuncData
  m_check_tree : mg "check_tree" = some (.ref f_check_tree)
  F_check_tree : Fun K "check_tree" "check_tree" (topS 20) f_check_tree d_check_tree
  b_check_tree : Binds K d_check_tree ["tree"] []
  f__drop : Addr
  d__drop : FuncData
  m__drop : mg "_drop" = some (.ref f__drop)
  F__drop : Fun K "_drop" "_drop" (topS 21) f__drop d__drop
  b__drop : Binds K d__drop ["tree"] []
  f_tree_ends : Addr
  d_tree_ends : FuncData
  m_tree_ends : mg "tree_ends" = some (.ref f_tree_ends)
  F_tree_ends : Fun K "tree_ends" "tree_ends" (topS 22) f_tree_ends d_tree_ends
  b_tree_ends : Binds K d_tree_ends ["tree", "many"] []
  f__size : Addr
  d__size : FuncData
  m__size : mg "_size" = some (.ref f__size)
  F__size : Fun K "_size" "_size" (topS 23) f__size d__size
  b__size : Binds K d__size ["tree"] []
  f_tree_size : Addr
  d_tree_size : FuncData
  m_tree_size : mg "tree_size" = some (.ref f_tree_size)
  F_tree_size : Fun K "tree_size" "tree_size" (topS 24) f_tree_size d_tree_size
  b_tree_size : Binds K d_tree_size ["tree"] []
  f_deep_in : Addr
  d_deep_in : FuncData
  m_deep_in : mg "deep_in" = some (.ref f_deep_in)
  F_deep_in : Fun K "deep_in" "deep_in" (topS 25) f_deep_in d_deep_in
  b_deep_in : Binds K d_deep_in ["tree"] []
  f_again_in : Addr
  d_again_in : FuncData
  m_again_in : mg "again_in" = some (.ref f_again_in)
  F_again_in : Fun K "again_in" "again_in" (topS 26) f_again_in d_again_in
  b_again_in : Binds K d_again_in ["tree"] []
  f_tree_again : Addr
  d_tree_again : FuncData
  m_tree_again : mg "tree_again" = some (.ref f_tree_again)
  F_tree_again : Fun K "tree_again" "tree_again" (topS 27) f_tree_again d_tree_again
  b_tree_again : Binds K d_tree_again ["tree"] []
  f_name_of : Addr
  d_name_of : FuncData
  m_name_of : mg "name_of" = some (.ref f_name_of)
  F_name_of : Fun K "name_of" "name_of" (topS 28) f_name_of d_name_of
  b_name_of : Binds K d_name_of ["tree", "number"] []
  f__check_names : Addr
  d__check_names : FuncData
  m__check_names : mg "_check_names" = some (.ref f__check_names)
  F__check_names : Fun K "_check_names" "_check_names" (topS 31) f__check_names d__check_names
  b__check_names : Binds K d__check_names ["names"] []
  f__built : Addr
  d__built : FuncData
  m__built : mg "_built" = some (.ref f__built)
  F__built : Fun K "_built" "_built" (topS 32) f__built d__built
  b__built : Binds K d__built ["names"] []
  f__needed : Addr
  d__needed : FuncData
  m__needed : mg "_needed" = some (.ref f__needed)
  F__needed : Fun K "_needed" "_needed" (topS 33) f__needed d__needed
  b__needed : Binds K d__needed ["names"] []
  f_switches_for : Addr
  d_switches_for : FuncData
  m_switches_for : mg "switches_for" = some (.ref f_switches_for)
  F_switches_for : Fun K "switches_for" "switches_for" (topS 34) f_switches_for d_switches_for
  b_switches_for : Binds K d_switches_for ["names"] []
  f__all_names : Addr
  d__all_names : FuncData
  m__all_names : mg "_all_names" = some (.ref f__all_names)
  F__all_names : Fun K "_all_names" "_all_names" (topS 35) f__all_names d__all_names
  b__all_names : Binds K d__all_names ["tree", "many"] []
  f__first_unlike : Addr
  d__first_unlike : FuncData
  m__first_unlike : mg "_first_unlike" = some (.ref f__first_unlike)
  F__first_unlike : Fun K "_first_unlike" "_first_unlike" (topS 36) f__first_unlike d__first_unlike
  b__first_unlike : Binds K d__first_unlike ["tree", "other"] []
  f_first_unlike : Addr
  d_first_unlike : FuncData
  m_first_unlike : mg "first_unlike" = some (.ref f_first_unlike)
  F_first_unlike : Fun K "first_unlike" "first_unlike" (topS 37) f_first_unlike d_first_unlike
  b_first_unlike : Binds K d_first_unlike ["tree", "other"] []
  f_same_for_ever : Addr
  d_same_for_ever : FuncData
  m_same_for_ever : mg "same_for_ever" = some (.ref f_same_for_ever)
  F_same_for_ever : Fun K "same_for_ever" "same_for_ever" (topS 38) f_same_for_ever d_same_for_ever
  b_same_for_ever : Binds K d_same_for_ever ["tree", "other"] []
  f_least_tree : Addr
  d_least_tree : FuncData
  m_least_tree : mg "least_tree" = some (.ref f_least_tree)
  F_least_tree : Fun K "least_tree" "least_tree" (topS 39) f_least_tree d_least_tree
  b_least_tree : Binds K d_least_tree ["tree"] []
  f__law_draws : Addr
  d__law_draws : FuncData
  m__law_draws : mg "_law_draws" = some (.ref f__law_draws)
  F__law_draws : Fun K "_law_draws" "_law_draws" (topS 41) f__law_draws d__law_draws
  b__law_draws : Binds K d__law_draws ["script", "many"] []
  f__law_tree : Addr
  d__law_tree : FuncData
  m__law_tree : mg "_law_tree" = some (.ref f__law_tree)
  F__law_tree : Fun K "_law_tree" "_law_tree" (topS 42) f__law_tree d__law_tree
  b__law_tree : Binds K d__law_tree ["draws", "at", "deep"] []
  f__law_drop : Addr
  d__law_drop : FuncData
  m__law_drop : mg "_law_drop" = some (.ref f__law_drop)
  F__law_drop : Fun K "_law_drop" "_law_drop" (topS 43) f__law_drop d__law_drop
  b__law_drop : Binds K d__law_drop ["tree"] []
  f__law_names : Addr
  d__law_names : FuncData
  m__law_names : mg "_law_names" = some (.ref f__law_names)
  F__law_names : Fun K "_law_names" "_law_names" (topS 44) f__law_names d__law_names
  b__law_names : Binds K d__law_names ["tree", "many"] []
  f__law_turned : Addr
  d__law_turned : FuncData
  m__law_turned : mg "_law_turned" = some (.ref f__law_turned)
  F__law_turned : Fun K "_law_turned" "_law_turned" (topS 45) f__law_turned d__law_turned
  b__law_turned : Binds K d__law_turned ["tree"] []
  f__law_doubled : Addr
  d__law_doubled : FuncData
  m__law_doubled : mg "_law_doubled" = some (.ref f__law_doubled)
  F__law_doubled : Fun K "_law_doubled" "_law_doubled" (topS 46) f__law_doubled d__law_doubled
  b__law_doubled : Binds K d__law_doubled ["tree"] []
  f__law_changed : Addr
  d__law_changed : FuncData
  m__law_changed : mg "_law_changed" = some (.ref f__law_changed)
  F__law_changed : Fun K "_law_changed" "_law_changed" (topS 47) f__law_changed d__law_changed
  b__law_changed : Binds K d__law_changed ["tree"] []
  f__law_lefts : Addr
  d__law_lefts : FuncData
  m__law_lefts : mg "_law_lefts" = some (.ref f__law_lefts)
  F__law_lefts : Fun K "_law_lefts" "_law_lefts" (topS 48) f__law_lefts d__law_lefts
  b__law_lefts : Binds K d__law_lefts ["tree"] []
  f_law : Addr
  d_law : FuncData
  m_law : mg "law" = some (.ref f_law)
  F_law : Fun K "law" "law" (topS 49) f_law d_law
  b_law : Binds K d_law ["script"] []
  z_abs : mg "abs" = none
  z_all : mg "all" = none
  z_bool : mg "bool" = none
  z_int : mg "int" = none
  z_isinstance : mg "isinstance" = none
  z_len : mg "len" = none
  z_max : mg "max" = none
  z_range : mg "range" = none
  z_str : mg "str" = none
  z_tuple : mg "tuple" = none
  c_LETTERS : GC w K mg "LETTERS" (c_LETTERS)
  c_END : GC w K mg "END" (c_END)
  c_SWITCH : GC w K mg "SWITCH" (c_SWITCH)
  c_SIDES : GC w K mg "SIDES" (c_SIDES)
  c_MOST_LETTERS : GC w K mg "MOST_LETTERS" (c_MOST_LETTERS)
  c_MOST_DEEP : GC w K mg "MOST_DEEP" (c_MOST_DEEP)
  c_MOST_THINGS : GC w K mg "MOST_THINGS" (c_MOST_THINGS)
  c_MOST_MARBLES : GC w K mg "MOST_MARBLES" (c_MOST_MARBLES)
  c_MOST_NAMES : GC w K mg "MOST_NAMES" (c_MOST_NAMES)
section
variable {P : Program} {w : World} {K : PySem.W.Frag} {mg : Str → Option Value} {base : Heap}
/-! ### is_whole : 0 value, 1 least, 2 most -/
abbrev N_is_whole : List Str := ["value", "least", "most"]
theorem sc_is_whole : FnScope N_is_whole ["value", "least", "most"] (defScope (topS 6)) := ⟨rfl, rfl, rfl, by decide +kernel, rfl, by decide +kernel, by decide +kernel⟩
def S_is_whole : ES := sRet (eAnd (e1 (dIsi' "int") (eVar 0)) (eAnd (eNot (e1 (dIsi' "bool") (eVar 0))) (eCh dLe dLe (eVar 1) (eVar 0) (eVar 2))))
def F_is_whole := runD 3 S_is_whole
theorem ok_is_whole (T : Txt w K mg) : FnOk P w K mg base (L2.CX P w) 1 T.f_is_whole T.d_is_whole ["value", "least", "most"] (spF w K mg 3 F_is_whole) := by
  refine fn_ok (N := N_is_whole) (S := S_is_whole) T.F_is_whole sc_is_whole fun cdv A outer s H E hr => ?_
  have tk : Takes (cxOf (L2.CX P w) P w K mg base N_is_whole "is_whole" (defScope (topS 6)) T.f_is_whole cdv A outer s H E) (WD E) := tk_def
  have po : PassesOwn (model P w) (A.deeper (envOfC "is_whole" (defScope (topS 6)) s.heap.objs.size T.f_is_whole cdv)) (envOfC "is_whole" (defScope (topS 6)) s.heap.objs.size T.f_is_whole cdv) (cxOf (L2.CX P w) P w K mg base N_is_whole "is_whole" (defScope (topS 6)) T.f_is_whole cdv A outer s H E).xe := po_def
  exact ess_one (es_ret (ev_and (ev_isi (T := "int") rfl T.z_isinstance T.z_int (by decide +kernel) (by decide +kernel) (ev_var 0)) (ev_and (ev_not (ev_isi (T := "bool") rfl T.z_isinstance T.z_bool (by decide +kernel) (by decide +kernel) (ev_var 0))) (ev_one (ev_lele (ev_var 1) (ev_var 0) (ev_var 2))))))
/-! ### is_name : 0 value, 1 sign -/
abbrev N_is_name : List Str := ["value", "sign"]
theorem sc_is_name : FnScope N_is_name ["value"] (defScope (topS 16)) := ⟨rfl, rfl, rfl, by decide +kernel, rfl, by decide +kernel, by decide +kernel⟩
def S_is_name : ES := sRet (eAnd (e1 (dIsi' "str") (eVar 0)) (eAnd (eCh dLe dLe (eInt 1) (eA dLen (eCons (eVar 0) (eNil))) (eD (c_MOST_LETTERS))) (eA dAll (eCons (eComp (iSeq (eVar 0)) (aName 1) (tTrue) (e2 dIn (eVar 1) (eD (c_LETTERS))) [1]) (eNil)))))
def F_is_name := runD 2 S_is_name
theorem ok_is_name (T : Txt w K mg) : FnOk P w K mg base (L2.CX P w) 1 T.f_is_name T.d_is_name ["value"] (spF w K mg 1 F_is_name) := by
  refine fn_ok (N := N_is_name) (S := S_is_name) T.F_is_name sc_is_name fun cdv A outer s H E hr => ?_
  have tk : Takes (cxOf (L2.CX P w) P w K mg base N_is_name "is_name" (defScope (topS 16)) T.f_is_name cdv A outer s H E) (WD E) := tk_def
  have po : PassesOwn (model P w) (A.deeper (envOfC "is_name" (defScope (topS 16)) s.heap.objs.size T.f_is_name cdv)) (envOfC "is_name" (defScope (topS 16)) s.heap.objs.size T.f_is_name cdv) (cxOf (L2.CX P w) P w K mg base N_is_name "is_name" (defScope (topS 16)) T.f_is_name cdv A outer s H E).xe := po_def
  exact ess_one (es_ret (ev_and (ev_isi (T := "str") rfl T.z_isinstance T.z_str (by decide +kernel) (by decide +kernel) (ev_var 0)) (ev_and (ev_lele (ev_int) (ev_len T.z_len (ea_cons (ev_var 0) (ea_nil))) (ev_glob T.c_MOST_LETTERS)) (ev_one (ev_all rfl T.z_all (ea_cons ((eo_comp (own := [("sign", 1)]) rfl sc_is_name.nd (ei_seq (ev_var 0)) (blkOk_by (N := N_is_name) (sc := defScope (topS 16)) (by decide +kernel)) (fun _ _ _ _ _ => eg_name 1 sc_is_name.nd) (by decide) (fun _ _ _ _ _ => ets_nil) (fun _ _ _ _ _ => ev_in (hu_room hr) (ev_var 1) (ev_glob T.c_LETTERS))).ev) (ea_nil)))))))
/-! ### _is_within : 0 value, 1 room -/
abbrev N__is_within : List Str := ["value", "room"]
theorem sc__is_within : FnScope N__is_within ["value", "room"] (defScope (topS 17)) := ⟨rfl, rfl, rfl, by decide +kernel, rfl, by decide +kernel, by decide +kernel⟩
def S__is_within (self : List D → R D) : ES := sCons (sIf (tOrB (tNotB (tV (e1 (dIsi' "tuple") (eVar 0)))) (tOrB (tV (e2 dNotIn (eA dLen (eCons (eVar 0) (eNil))) (eTup (eCons (eInt 2) (eCons (eInt 4) (eNil)))))) (tNotB (tV (e1 (dIsi' "str") (e2 dIx (eVar 0) (eInt 0))))))) (sRet (eBool false)) (sNil)) (sCons (sIf (tV (e2 dEq (e2 dIx (eVar 0) (eInt 0)) (eD (c_END)))) (sRet (eAnd (e2 dEq (eA dLen (eCons (eVar 0) (eNil))) (eInt 2)) (eCall F_is_name (eCons (e2 dIx (eVar 0) (eInt 1)) (eNil))))) (sNil)) (sCons (sIf (tOrB (tV (e2 dNe (e2 dIx (eVar 0) (eInt 0)) (eD (c_SWITCH)))) (tOrB (tV (e2 dNe (eA dLen (eCons (eVar 0) (eNil))) (eInt 4))) (tV (e2 dEq (eVar 1) (eInt 0))))) (sRet (eBool false)) (sNil)) (sCons (sIf (tOrB (tNotB (tV (e1 (dIsi' "str") (e2 dIx (eVar 0) (eInt 1))))) (tV (e2 dNotIn (e2 dIx (eVar 0) (eInt 1)) (eD (c_SIDES))))) (sRet (eBool false)) (sNil)) (sRet (eAnd (eCall self (eCons (e2 dIx (eVar 0) (eInt 2)) (eCons (e2 dSub (eVar 1) (eInt 1)) (eNil)))) (eCall self (eCons (e2 dIx (eVar 0) (eInt 3)) (eCons (e2 dSub (eVar 1) (eInt 1)) (eNil)))))))))
def F__is_within : Nat → List D → R D
  | 0 => fun _ => .stuck
  | n + 1 => runD 2 (S__is_within (F__is_within n))
theorem ok__is_within (T : Txt w K mg) : ∀ n : Nat, FnOk P w K mg base (L2.CX P w) (1 + n) T.f__is_within T.d__is_within ["value", "room"] (spF w K mg 2 (F__is_within n))
  | 0 => fn_stuck
  | n + 1 => by
    have ih := ok__is_within T n
    refine fn_ok (N := N__is_within) (S := S__is_within (F__is_within n)) T.F__is_within sc__is_within fun cdv A outer s H E hr => ?_
    have tk : Takes (cxOf (L2.CX P w) P w K mg base N__is_within "_is_within" (defScope (topS 17)) T.f__is_within cdv A outer s H E) (WD E) := tk_def
    have po : PassesOwn (model P w) (A.deeper (envOfC "_is_within" (defScope (topS 17)) s.heap.objs.size T.f__is_within cdv)) (envOfC "_is_within" (defScope (topS 17)) s.heap.objs.size T.f__is_within cdv) (cxOf (L2.CX P w) P w K mg base N__is_within "_is_within" (defScope (topS 17)) T.f__is_within cdv A outer s H E).xe := po_def
    exact ess_cons (es_if (Ew.et (ew_or (et_not (et_val (ev_isi (T := "tuple") rfl T.z_isinstance T.z_tuple (by decide +kernel) (by decide +kernel) (ev_var 0)))) (ew_or (et_notIn (hu_room hr) (ev_len T.z_len (ea_cons (ev_var 0) (ea_nil))) (ev_tup (ea_cons (ev_int) (ea_cons (ev_int) (ea_nil))))) (ew_or1 (et_not (et_val (ev_isi (T := "str") rfl T.z_isinstance T.z_str (by decide +kernel) (by decide +kernel) (ev_ix (ev_var 0) (ev_int)))))))))
      (ess_one (es_ret (ev_bool)))
      (ess_nil))
      (ess_cons (es_if (et_eq (hu_room hr) (ev_ix (ev_var 0) (ev_int)) (ev_glob T.c_END))
      (ess_one (es_ret (ev_and (ev_eq (hu_room hr) (ev_len T.z_len (ea_cons (ev_var 0) (ea_nil))) (ev_int)) (ev_one (ev_call (ok_is_name T) rfl tk (hr.mono (by show _ ≤ 1 + n; omega)) T.m_is_name T.F_is_name.kp T.b_is_name (ea_cons (ev_ix (ev_var 0) (ev_int)) (ea_nil)))))))
      (ess_nil))
      (ess_cons (es_if (Ew.et (ew_or (et_ne (hu_room hr) (ev_ix (ev_var 0) (ev_int)) (ev_glob T.c_SWITCH)) (ew_or (et_ne (hu_room hr) (ev_len T.z_len (ea_cons (ev_var 0) (ea_nil))) (ev_int)) (ew_or1 (et_eq (hu_room hr) (ev_var 1) (ev_int))))))
      (ess_one (es_ret (ev_bool)))
      (ess_nil))
      (ess_cons (es_if (Ew.et (ew_or (et_not (et_val (ev_isi (T := "str") rfl T.z_isinstance T.z_str (by decide +kernel) (by decide +kernel) (ev_ix (ev_var 0) (ev_int))))) (ew_or1 (et_notIn (hu_room hr) (ev_ix (ev_var 0) (ev_int)) (ev_glob T.c_SIDES)))))
      (ess_one (es_ret (ev_bool)))
      (ess_nil))
      (ess_one (es_ret (ev_and (ev_call ih rfl tk (hr.mono (by show _ ≤ 1 + n; omega)) T.m__is_within T.F__is_within.kp T.b__is_within (ea_cons (ev_ix (ev_var 0) (ev_int)) (ea_cons (ev_sub (ev_var 1) (ev_int)) (ea_nil)))) (ev_one (ev_call ih rfl tk (hr.mono (by show _ ≤ 1 + n; omega)) T.m__is_within T.F__is_within.kp T.b__is_within (ea_cons (ev_ix (ev_var 0) (ev_int)) (ea_cons (ev_sub (ev_var 1) (ev_int)) (ea_nil)))))))))))
/-! ### things_in : 0 tree -/
abbrev N_things_in : List Str := ["tree"]
theorem sc_things_in : FnScope N_things_in ["tree"] (defScope (topS 18)) := ⟨rfl, rfl, rfl, by decide +kernel, rfl, by decide +kernel, by decide +kernel⟩
def S_things_in (self : List D → R D) : ES := sRet (eIte (tV (e2 dEq (e2 dIx (eVar 0) (eInt 0)) (eD (c_END)))) (eInt 1) (e2 dAdd (e2 dAdd (eInt 1) (eCall self (eCons (e2 dIx (eVar 0) (eInt 2)) (eNil)))) (eCall self (eCons (e2 dIx (eVar 0) (eInt 3)) (eNil)))))
def F_things_in : Nat → List D → R D
  | 0 => fun _ => .stuck
  | n + 1 => runD 1 (S_things_in (F_things_in n))
theorem ok_things_in (T : Txt w K mg) : ∀ n : Nat, FnOk P w K mg base (L2.CX P w) (0 + n) T.f_things_in T.d_things_in ["tree"] (spF w K mg 1 (F_things_in n))
  | 0 => fn_stuck
  | n + 1 => by
    have ih := ok_things_in T n
    refine fn_ok (N := N_things_in) (S := S_things_in (F_things_in n)) T.F_things_in sc_things_in fun cdv A outer s H E hr => ?_
    have tk : Takes (cxOf (L2.CX P w) P w K mg base N_things_in "things_in" (defScope (topS 18)) T.f_things_in cdv A outer s H E) (WD E) := tk_def
    have po : PassesOwn (model P w) (A.deeper (envOfC "things_in" (defScope (topS 18)) s.heap.objs.size T.f_things_in cdv)) (envOfC "things_in" (defScope (topS 18)) s.heap.objs.size T.f_things_in cdv) (cxOf (L2.CX P w) P w K mg base N_things_in "things_in" (defScope (topS 18)) T.f_things_in cdv A outer s H E).xe := po_def
    exact ess_one (es_ret (ev_ite (et_eq (hu_room hr) (ev_ix (ev_var 0) (ev_int)) (ev_glob T.c_END)) (ev_int) (ev_add (ev_add (ev_int) (ev_call ih rfl tk (hr.mono (by show _ ≤ 0 + n; omega)) T.m_things_in T.F_things_in.kp T.b_things_in (ea_cons (ev_ix (ev_var 0) (ev_int)) (ea_nil)))) (ev_call ih rfl tk (hr.mono (by show _ ≤ 0 + n; omega)) T.m_things_in T.F_things_in.kp T.b_things_in (ea_cons (ev_ix (ev_var 0) (ev_int)) (ea_nil))))))
/-! ### is_tree : 0 value -/
abbrev N_is_tree : List Str := ["value"]
theorem sc_is_tree : FnScope N_is_tree ["value"] (defScope (topS 19)) := ⟨rfl, rfl, rfl, by decide +kernel, rfl, by decide +kernel, by decide +kernel⟩
def S_is_tree : ES := sRet (eAnd (eCall (F__is_within 10) (eCons (eVar 0) (eCons (eD (c_MOST_DEEP)) (eNil)))) (e2 dLe (eCall (F_things_in 10) (eCons (eVar 0) (eNil))) (eD (c_MOST_THINGS))))
def F_is_tree := runD 1 S_is_tree
theorem ok_is_tree (T : Txt w K mg) : FnOk P w K mg base (L2.CX P w) 12 T.f_is_tree T.d_is_tree ["value"] (spF w K mg 1 F_is_tree) := by
  refine fn_ok (N := N_is_tree) (S := S_is_tree) T.F_is_tree sc_is_tree fun cdv A outer s H E hr => ?_
  have tk : Takes (cxOf (L2.CX P w) P w K mg base N_is_tree "is_tree" (defScope (topS 19)) T.f_is_tree cdv A outer s H E) (WD E) := tk_def
  have po : PassesOwn (model P w) (A.deeper (envOfC "is_tree" (defScope (topS 19)) s.heap.objs.size T.f_is_tree cdv)) (envOfC "is_tree" (defScope (topS 19)) s.heap.objs.size T.f_is_tree cdv) (cxOf (L2.CX P w) P w K mg base N_is_tree "is_tree" (defScope (topS 19)) T.f_is_tree cdv A outer s H E).xe := po_def
  exact ess_one (es_ret (ev_and (ev_call (ok__is_within T 10) rfl tk (hr.mono (by decide)) T.m__is_within T.F__is_within.kp T.b__is_within (ea_cons (ev_var 0) (ea_cons (ev_glob T.c_MOST_DEEP) (ea_nil)))) (ev_one (ev_le (ev_call (ok_things_in T 10) rfl tk (hr.mono (by decide)) T.m_things_in T.F_things_in.kp T.b_things_in (ea_cons (ev_var 0) (ea_nil))) (ev_glob T.c_MOST_THINGS)))))
/-! ### check_tree : 0 tree -/
abbrev N_check_tree : List Str := ["tree"]
theorem sc_check_tree : FnScope N_check_tree ["tree"] (defScope (topS 20)) := ⟨rfl, rfl, rfl, by decide +kernel, rfl, by decide +kernel, by decide +kernel⟩
def S_check_tree : ES := sIf (tNotB (tV (eCall F_is_tree (eCons (eVar 0) (eNil))))) (sNever) (sNil)
def F_check_tree := runD 1 S_check_tree
theorem ok_check_tree (T : Txt w K mg) : FnOk P w K mg base (L2.CX P w) 13 T.f_check_tree T.d_check_tree ["tree"] (spF w K mg 1 F_check_tree) := by
  refine fn_ok (N := N_check_tree) (S := S_check_tree) T.F_check_tree sc_check_tree fun cdv A outer s H E hr => ?_
  have tk : Takes (cxOf (L2.CX P w) P w K mg base N_check_tree "check_tree" (defScope (topS 20)) T.f_check_tree cdv A outer s H E) (WD E) := tk_def
  have po : PassesOwn (model P w) (A.deeper (envOfC "check_tree" (defScope (topS 20)) s.heap.objs.size T.f_check_tree cdv)) (envOfC "check_tree" (defScope (topS 20)) s.heap.objs.size T.f_check_tree cdv) (cxOf (L2.CX P w) P w K mg base N_check_tree "check_tree" (defScope (topS 20)) T.f_check_tree cdv A outer s H E).xe := po_def
  exact ess_one (es_if (et_not (et_val (ev_call (ok_is_tree T) rfl tk (hr.mono (by decide)) T.m_is_tree T.F_is_tree.kp T.b_is_tree (ea_cons (ev_var 0) (ea_nil)))))
      (ess_one (es_never))
      (ess_nil))
/-! ### _drop : 0 tree, 1 _switch, 2 side, 3 left, 4 right, 5 name -/
abbrev N__drop : List Str := ["tree", "_switch", "side", "left", "right", "name"]
theorem sc__drop : FnScope N__drop ["tree"] (defScope (topS 21)) := ⟨rfl, rfl, rfl, by decide +kernel, rfl, by decide +kernel, by decide +kernel⟩
def S__drop (self : List D → R D) : ES := sCons (sIf (tV (e2 dEq (e2 dIx (eVar 0) (eInt 0)) (eD (c_END)))) (sRet (eTup (eCons (eVar 0) (eCons (e2 dIx (eVar 0) (eInt 1)) (eNil))))) (sNil)) (sCons (sAsg (eVar 0) (aTup (aCons (aName 1) (aCons (aName 2) (aCons (aName 3) (aCons (aName 4) (aNil))))))) (sCons (sIf (tV (e2 dEq (eVar 2) (e2 dIx (eD (c_SIDES)) (eInt 0)))) (sCons (sAsg (eCall self (eCons (eVar 3) (eNil))) (aTup (aCons (aName 3) (aCons (aName 5) (aNil))))) (sRet (eTup (eCons (eTup (eCons (eD (c_SWITCH)) (eCons (e2 dIx (eD (c_SIDES)) (eInt 1)) (eCons (eVar 3) (eCons (eVar 4) (eNil)))))) (eCons (eVar 5) (eNil)))))) (sNil)) (sCons (sAsg (eCall self (eCons (eVar 4) (eNil))) (aTup (aCons (aName 4) (aCons (aName 5) (aNil))))) (sRet (eTup (eCons (eTup (eCons (eD (c_SWITCH)) (eCons (e2 dIx (eD (c_SIDES)) (eInt 0)) (eCons (eVar 3) (eCons (eVar 4) (eNil)))))) (eCons (eVar 5) (eNil))))))))
def F__drop : Nat → List D → R D
  | 0 => fun _ => .stuck
  | n + 1 => runD 6 (S__drop (F__drop n))
theorem ok__drop (T : Txt w K mg) : ∀ n : Nat, FnOk P w K mg base (L2.CX P w) (0 + n) T.f__drop T.d__drop ["tree"] (spF w K mg 1 (F__drop n))
  | 0 => fn_stuck
  | n + 1 => by
    have ih := ok__drop T n
    refine fn_ok (N := N__drop) (S := S__drop (F__drop n)) T.F__drop sc__drop fun cdv A outer s H E hr => ?_
    have tk : Takes (cxOf (L2.CX P w) P w K mg base N__drop "_drop" (defScope (topS 21)) T.f__drop cdv A outer s H E) (WD E) := tk_def
    have po : PassesOwn (model P w) (A.deeper (envOfC "_drop" (defScope (topS 21)) s.heap.objs.size T.f__drop cdv)) (envOfC "_drop" (defScope (topS 21)) s.heap.objs.size T.f__drop cdv) (cxOf (L2.CX P w) P w K mg base N__drop "_drop" (defScope (topS 21)) T.f__drop cdv A outer s H E).xe := po_def
    exact ess_cons (es_if (et_eq (hu_room hr) (ev_ix (ev_var 0) (ev_int)) (ev_glob T.c_END))
      (ess_one (es_ret (ev_tup (ea_cons (ev_var 0) (ea_cons (ev_ix (ev_var 0) (ev_int)) (ea_nil))))))
      (ess_nil))
      (ess_cons (es_asg (ev_var 0) (eg_tup rfl (egs_cons (eg_name 1 sc__drop.nd) (egs_cons (eg_name 2 sc__drop.nd) (egs_cons (eg_name 3 sc__drop.nd) (egs_cons (eg_name 4 sc__drop.nd) (egs_nil)))))))
      (ess_cons (es_if (et_eq (hu_room hr) (ev_var 2) (ev_ix (ev_glob T.c_SIDES) (ev_int)))
      (ess_cons (es_asg (ev_call ih rfl tk (hr.mono (by show _ ≤ 0 + n; omega)) T.m__drop T.F__drop.kp T.b__drop (ea_cons (ev_var 3) (ea_nil))) (eg_tup rfl (egs_cons (eg_name 3 sc__drop.nd) (egs_cons (eg_name 5 sc__drop.nd) (egs_nil)))))
      (ess_one (es_ret (ev_tup (ea_cons (ev_tup (ea_cons (ev_glob T.c_SWITCH) (ea_cons (ev_ix (ev_glob T.c_SIDES) (ev_int)) (ea_cons (ev_var 3) (ea_cons (ev_var 4) (ea_nil)))))) (ea_cons (ev_var 5) (ea_nil)))))))
      (ess_nil))
      (ess_cons (es_asg (ev_call ih rfl tk (hr.mono (by show _ ≤ 0 + n; omega)) T.m__drop T.F__drop.kp T.b__drop (ea_cons (ev_var 4) (ea_nil))) (eg_tup rfl (egs_cons (eg_name 4 sc__drop.nd) (egs_cons (eg_name 5 sc__drop.nd) (egs_nil)))))
      (ess_one (es_ret (ev_tup (ea_cons (ev_tup (ea_cons (ev_glob T.c_SWITCH) (ea_cons (ev_ix (ev_glob T.c_SIDES) (ev_int)) (ea_cons (ev_var 3) (ea_cons (ev_var 4) (ea_nil)))))) (ea_cons (ev_var 5) (ea_nil)))))))))
/-! ### tree_ends : 0 tree, 1 many, 2 names, 3 _marble, 4 name -/
abbrev N_tree_ends : List Str := ["tree", "many", "names", "_marble", "name"]
theorem sc_tree_ends : FnScope N_tree_ends ["tree", "many"] (defScope (topS 22)) := ⟨rfl, rfl, rfl, by decide +kernel, rfl, by decide +kernel, by decide +kernel⟩
def B_tree_ends_1 : ES := sCons (sAsg (eCall (F__drop 10) (eCons (eVar 0) (eNil))) (aTup (aCons (aName 0) (aCons (aName 4) (aNil))))) (sApp 2 (eVar 4))
def S_tree_ends : ES := sCons (sExpr (eCall F_check_tree (eCons (eVar 0) (eNil)))) (sCons (sIf (tNotB (tV (eCall F_is_whole (eCons (eVar 1) (eCons (eInt 0) (eCons (eD (c_MOST_MARBLES)) (eNil))))))) (sNever) (sNil)) (sCons (sSet 2 (mO (eLst (eNil)))) (sCons (sFor (iRg1 (eVar 1)) (aName 3) (B_tree_ends_1) [1, 3, 4]) (sFrz 2 (sRet (eA dTuple (eCons (eVar 2) (eNil))))))))
def F_tree_ends := runD 5 S_tree_ends
theorem ok_tree_ends (T : Txt w K mg) : FnOk P w K mg base (L2.CX P w) 14 T.f_tree_ends T.d_tree_ends ["tree", "many"] (spF w K mg 2 F_tree_ends) := by
  refine fn_ok (N := N_tree_ends) (S := S_tree_ends) T.F_tree_ends sc_tree_ends fun cdv A outer s H E hr => ?_
  have tk : Takes (cxOf (L2.CX P w) P w K mg base N_tree_ends "tree_ends" (defScope (topS 22)) T.f_tree_ends cdv A outer s H E) (WD E) := tk_def
  have po : PassesOwn (model P w) (A.deeper (envOfC "tree_ends" (defScope (topS 22)) s.heap.objs.size T.f_tree_ends cdv)) (envOfC "tree_ends" (defScope (topS 22)) s.heap.objs.size T.f_tree_ends cdv) (cxOf (L2.CX P w) P w K mg base N_tree_ends "tree_ends" (defScope (topS 22)) T.f_tree_ends cdv A outer s H E).xe := po_def
  exact ess_cons (es_expr (ev_call (ok_check_tree T) rfl tk (hr.mono (by decide)) T.m_check_tree T.F_check_tree.kp T.b_check_tree (ea_cons (ev_var 0) (ea_nil))))
      (ess_cons (es_if (et_not (et_val (ev_call (ok_is_whole T) rfl tk (hr.mono (by decide)) T.m_is_whole T.F_is_whole.kp T.b_is_whole (ea_cons (ev_var 1) (ea_cons (ev_int) (ea_cons (ev_glob T.c_MOST_MARBLES) (ea_nil)))))))
      (ess_one (es_never))
      (ess_nil))
      (ess_cons (es_set 2 (Eo.em (eo_lst (ea_nil))) sc_tree_ends.nd)
      (ess_cons (es_for [1, 3, 4] po rfl (ei_range1 T.z_range (ev_var 1)) (eg_name 3 sc_tree_ends.nd)
      (ess_cons (es_asg (ev_call (ok__drop T 10) rfl tk (hr.mono (by decide)) T.m__drop T.F__drop.kp T.b__drop (ea_cons (ev_var 0) (ea_nil))) (eg_tup rfl (egs_cons (eg_name 0 sc_tree_ends.nd) (egs_cons (eg_name 4 sc_tree_ends.nd) (egs_nil)))))
      (ess_one (es_app 2 (ev_var 4)))))
      (ess_one (es_frz 2 (es_ret (ev_tuple T.z_tuple (ea_cons (ev_var 2) (ea_nil)))))))))
/-! ### _size : 0 tree -/
abbrev N__size : List Str := ["tree"]
theorem sc__size : FnScope N__size ["tree"] (defScope (topS 23)) := ⟨rfl, rfl, rfl, by decide +kernel, rfl, by decide +kernel, by decide +kernel⟩
def S__size (self : List D → R D) : ES := sRet (eIte (tV (e2 dEq (e2 dIx (eVar 0) (eInt 0)) (eD (c_END)))) (eInt 0) (e2 dAdd (e2 dAdd (eInt 1) (eCall self (eCons (e2 dIx (eVar 0) (eInt 2)) (eNil)))) (eCall self (eCons (e2 dIx (eVar 0) (eInt 3)) (eNil)))))
def F__size : Nat → List D → R D
  | 0 => fun _ => .stuck
  | n + 1 => runD 1 (S__size (F__size n))
theorem ok__size (T : Txt w K mg) : ∀ n : Nat, FnOk P w K mg base (L2.CX P w) (0 + n) T.f__size T.d__size ["tree"] (spF w K mg 1 (F__size n))
  | 0 => fn_stuck
  | n + 1 => by
    have ih := ok__size T n
    refine fn_ok (N := N__size) (S := S__size (F__size n)) T.F__size sc__size fun cdv A outer s H E hr => ?_
    have tk : Takes (cxOf (L2.CX P w) P w K mg base N__size "_size" (defScope (topS 23)) T.f__size cdv A outer s H E) (WD E) := tk_def
    have po : PassesOwn (model P w) (A.deeper (envOfC "_size" (defScope (topS 23)) s.heap.objs.size T.f__size cdv)) (envOfC "_size" (defScope (topS 23)) s.heap.objs.size T.f__size cdv) (cxOf (L2.CX P w) P w K mg base N__size "_size" (defScope (topS 23)) T.f__size cdv A outer s H E).xe := po_def
    exact ess_one (es_ret (ev_ite (et_eq (hu_room hr) (ev_ix (ev_var 0) (ev_int)) (ev_glob T.c_END)) (ev_int) (ev_add (ev_add (ev_int) (ev_call ih rfl tk (hr.mono (by show _ ≤ 0 + n; omega)) T.m__size T.F__size.kp T.b__size (ea_cons (ev_ix (ev_var 0) (ev_int)) (ea_nil)))) (ev_call ih rfl tk (hr.mono (by show _ ≤ 0 + n; omega)) T.m__size T.F__size.kp T.b__size (ea_cons (ev_ix (ev_var 0) (ev_int)) (ea_nil))))))
/-! ### tree_size : 0 tree -/
abbrev N_tree_size : List Str := ["tree"]
theorem sc_tree_size : FnScope N_tree_size ["tree"] (defScope (topS 24)) := ⟨rfl, rfl, rfl, by decide +kernel, rfl, by decide +kernel, by decide +kernel⟩
def S_tree_size : ES := sCons (sExpr (eCall F_check_tree (eCons (eVar 0) (eNil)))) (sRet (eCall (F__size 10) (eCons (eVar 0) (eNil))))
def F_tree_size := runD 1 S_tree_size
theorem ok_tree_size (T : Txt w K mg) : FnOk P w K mg base (L2.CX P w) 14 T.f_tree_size T.d_tree_size ["tree"] (spF w K mg 1 F_tree_size) := by
  refine fn_ok (N := N_tree_size) (S := S_tree_size) T.F_tree_size sc_tree_size fun cdv A outer s H E hr => ?_
  have tk : Takes (cxOf (L2.CX P w) P w K mg base N_tree_size "tree_size" (defScope (topS 24)) T.f_tree_size cdv A outer s H E) (WD E) := tk_def
  have po : PassesOwn (model P w) (A.deeper (envOfC "tree_size" (defScope (topS 24)) s.heap.objs.size T.f_tree_size cdv)) (envOfC "tree_size" (defScope (topS 24)) s.heap.objs.size T.f_tree_size cdv) (cxOf (L2.CX P w) P w K mg base N_tree_size "tree_size" (defScope (topS 24)) T.f_tree_size cdv A outer s H E).xe := po_def
  exact ess_cons (es_expr (ev_call (ok_check_tree T) rfl tk (hr.mono (by decide)) T.m_check_tree T.F_check_tree.kp T.b_check_tree (ea_cons (ev_var 0) (ea_nil))))
      (ess_one (es_ret (ev_call (ok__size T 10) rfl tk (hr.mono (by decide)) T.m__size T.F__size.kp T.b__size (ea_cons (ev_var 0) (ea_nil)))))
/-! ### deep_in : 0 tree -/
abbrev N_deep_in : List Str := ["tree"]
theorem sc_deep_in : FnScope N_deep_in ["tree"] (defScope (topS 25)) := ⟨rfl, rfl, rfl, by decide +kernel, rfl, by decide +kernel, by decide +kernel⟩
def S_deep_in (self : List D → R D) : ES := sRet (eIte (tV (e2 dEq (e2 dIx (eVar 0) (eInt 0)) (eD (c_END)))) (eInt 0) (e2 dAdd (eInt 1) (eA dMax2 (eCons (eCall self (eCons (e2 dIx (eVar 0) (eInt 2)) (eNil))) (eCons (eCall self (eCons (e2 dIx (eVar 0) (eInt 3)) (eNil))) (eNil))))))
def F_deep_in : Nat → List D → R D
  | 0 => fun _ => .stuck
  | n + 1 => runD 1 (S_deep_in (F_deep_in n))
theorem ok_deep_in (T : Txt w K mg) : ∀ n : Nat, FnOk P w K mg base (L2.CX P w) (0 + n) T.f_deep_in T.d_deep_in ["tree"] (spF w K mg 1 (F_deep_in n))
  | 0 => fn_stuck
  | n + 1 => by
    have ih := ok_deep_in T n
    refine fn_ok (N := N_deep_in) (S := S_deep_in (F_deep_in n)) T.F_deep_in sc_deep_in fun cdv A outer s H E hr => ?_
    have tk : Takes (cxOf (L2.CX P w) P w K mg base N_deep_in "deep_in" (defScope (topS 25)) T.f_deep_in cdv A outer s H E) (WD E) := tk_def
    have po : PassesOwn (model P w) (A.deeper (envOfC "deep_in" (defScope (topS 25)) s.heap.objs.size T.f_deep_in cdv)) (envOfC "deep_in" (defScope (topS 25)) s.heap.objs.size T.f_deep_in cdv) (cxOf (L2.CX P w) P w K mg base N_deep_in "deep_in" (defScope (topS 25)) T.f_deep_in cdv A outer s H E).xe := po_def
    exact ess_one (es_ret (ev_ite (et_eq (hu_room hr) (ev_ix (ev_var 0) (ev_int)) (ev_glob T.c_END)) (ev_int) (ev_add (ev_int) (ev_max2 rfl T.z_max (ea_cons (ev_call ih rfl tk (hr.mono (by show _ ≤ 0 + n; omega)) T.m_deep_in T.F_deep_in.kp T.b_deep_in (ea_cons (ev_ix (ev_var 0) (ev_int)) (ea_nil))) (ea_cons (ev_call ih rfl tk (hr.mono (by show _ ≤ 0 + n; omega)) T.m_deep_in T.F_deep_in.kp T.b_deep_in (ea_cons (ev_ix (ev_var 0) (ev_int)) (ea_nil))) (ea_nil)))))))
/-! ### again_in : 0 tree -/
abbrev N_again_in : List Str := ["tree"]
theorem sc_again_in : FnScope N_again_in ["tree"] (defScope (topS 26)) := ⟨rfl, rfl, rfl, by decide +kernel, rfl, by decide +kernel, by decide +kernel⟩
def S_again_in : ES := sRet (e2 dShl (eInt 1) (eCall (F_deep_in 10) (eCons (eVar 0) (eNil))))
def F_again_in := runD 1 S_again_in
theorem ok_again_in (T : Txt w K mg) : FnOk P w K mg base (L2.CX P w) 11 T.f_again_in T.d_again_in ["tree"] (spF w K mg 1 F_again_in) := by
  refine fn_ok (N := N_again_in) (S := S_again_in) T.F_again_in sc_again_in fun cdv A outer s H E hr => ?_
  have tk : Takes (cxOf (L2.CX P w) P w K mg base N_again_in "again_in" (defScope (topS 26)) T.f_again_in cdv A outer s H E) (WD E) := tk_def
  have po : PassesOwn (model P w) (A.deeper (envOfC "again_in" (defScope (topS 26)) s.heap.objs.size T.f_again_in cdv)) (envOfC "again_in" (defScope (topS 26)) s.heap.objs.size T.f_again_in cdv) (cxOf (L2.CX P w) P w K mg base N_again_in "again_in" (defScope (topS 26)) T.f_again_in cdv A outer s H E).xe := po_def
  exact ess_one (es_ret (ev_shl (ev_int) (ev_call (ok_deep_in T 10) rfl tk (hr.mono (by decide)) T.m_deep_in T.F_deep_in.kp T.b_deep_in (ea_cons (ev_var 0) (ea_nil)))))
/-! ### tree_again : 0 tree -/
abbrev N_tree_again : List Str := ["tree"]
theorem sc_tree_again : FnScope N_tree_again ["tree"] (defScope (topS 27)) := ⟨rfl, rfl, rfl, by decide +kernel, rfl, by decide +kernel, by decide +kernel⟩
def S_tree_again : ES := sCons (sExpr (eCall F_check_tree (eCons (eVar 0) (eNil)))) (sRet (eCall F_again_in (eCons (eVar 0) (eNil))))
def F_tree_again := runD 1 S_tree_again
theorem ok_tree_again (T : Txt w K mg) : FnOk P w K mg base (L2.CX P w) 14 T.f_tree_again T.d_tree_again ["tree"] (spF w K mg 1 F_tree_again) := by
  refine fn_ok (N := N_tree_again) (S := S_tree_again) T.F_tree_again sc_tree_again fun cdv A outer s H E hr => ?_
  have tk : Takes (cxOf (L2.CX P w) P w K mg base N_tree_again "tree_again" (defScope (topS 27)) T.f_tree_again cdv A outer s H E) (WD E) := tk_def
  have po : PassesOwn (model P w) (A.deeper (envOfC "tree_again" (defScope (topS 27)) s.heap.objs.size T.f_tree_again cdv)) (envOfC "tree_again" (defScope (topS 27)) s.heap.objs.size T.f_tree_again cdv) (cxOf (L2.CX P w) P w K mg base N_tree_again "tree_again" (defScope (topS 27)) T.f_tree_again cdv A outer s H E).xe := po_def
  exact ess_cons (es_expr (ev_call (ok_check_tree T) rfl tk (hr.mono (by decide)) T.m_check_tree T.F_check_tree.kp T.b_check_tree (ea_cons (ev_var 0) (ea_nil))))
      (ess_one (es_ret (ev_call (ok_again_in T) rfl tk (hr.mono (by decide)) T.m_again_in T.F_again_in.kp T.b_again_in (ea_cons (ev_var 0) (ea_nil)))))
/-! ### name_of : 0 tree, 1 number, 2 is_left -/
abbrev N_name_of : List Str := ["tree", "number", "is_left"]
theorem sc_name_of : FnScope N_name_of ["tree", "number"] (defScope (topS 28)) := ⟨rfl, rfl, rfl, by decide +kernel, rfl, by decide +kernel, by decide +kernel⟩
def B_name_of_1 : ES := sCons (sSet 2 (mF (e2 dEq (e2 dEq (e2 dIx (eVar 0) (eInt 1)) (e2 dIx (eD (c_SIDES)) (eInt 0))) (e2 dEq (e2 dMod (eVar 1) (eInt 2)) (eInt 0))))) (sPar 0 1 (mF (eIte (tV (eVar 2)) (e2 dIx (eVar 0) (eInt 2)) (e2 dIx (eVar 0) (eInt 3)))) (mF (e2 dFdiv (eVar 1) (eInt 2))))
def T_name_of_1 : ET := tV (e2 dNe (e2 dIx (eVar 0) (eInt 0)) (eD (c_END)))
def S_name_of : ES := sCons (sWhile (T_name_of_1) (B_name_of_1) [2]) (sRet (e2 dIx (eVar 0) (eInt 1)))
def F_name_of := runD 3 S_name_of
theorem ok_name_of (T : Txt w K mg) : FnOk P w K mg base (L2.CX P w) 1 T.f_name_of T.d_name_of ["tree", "number"] (spF w K mg 2 F_name_of) := by
  refine fn_ok (N := N_name_of) (S := S_name_of) T.F_name_of sc_name_of fun cdv A outer s H E hr => ?_
  have tk : Takes (cxOf (L2.CX P w) P w K mg base N_name_of "name_of" (defScope (topS 28)) T.f_name_of cdv A outer s H E) (WD E) := tk_def
  have po : PassesOwn (model P w) (A.deeper (envOfC "name_of" (defScope (topS 28)) s.heap.objs.size T.f_name_of cdv)) (envOfC "name_of" (defScope (topS 28)) s.heap.objs.size T.f_name_of cdv) (cxOf (L2.CX P w) P w K mg base N_name_of "name_of" (defScope (topS 28)) T.f_name_of cdv A outer s H E).xe := po_def
  exact ess_cons (es_while [2] po (et_ne (hu_room hr) (ev_ix (ev_var 0) (ev_int)) (ev_glob T.c_END))
      (ess_cons (es_set 2 (Ev.em (ev_eq (hu_room hr) (ev_eq (hu_room hr) (ev_ix (ev_var 0) (ev_int)) (ev_ix (ev_glob T.c_SIDES) (ev_int))) (ev_eq (hu_room hr) (ev_mod (ev_var 1) (ev_int)) (ev_int)))) sc_name_of.nd)
      (ess_one (es_par 0 1 rfl sc_name_of.nd (Ev.em (ev_ite (et_val (ev_var 2)) (ev_ix (ev_var 0) (ev_int)) (ev_ix (ev_var 0) (ev_int)))) (Ev.em (ev_fdiv (ev_var 1) (ev_int)))))))
      (ess_one (es_ret (ev_ix (ev_var 0) (ev_int))))
/-! ### _check_names : 0 names, 1 one -/
abbrev N__check_names : List Str := ["names", "one"]
theorem sc__check_names : FnScope N__check_names ["names"] (defScope (topS 31)) := ⟨rfl, rfl, rfl, by decide +kernel, rfl, by decide +kernel, by decide +kernel⟩
def S__check_names : ES := sIf (tOrB (tNotB (tV (e1 (dIsi' "tuple") (eVar 0)))) (tOrB (tNotB (tV (eCh dLe dLe (eInt 1) (eA dLen (eCons (eVar 0) (eNil))) (eD (c_MOST_NAMES))))) (tNotB (tV (eA dAll (eCons (eComp (iSeq (eVar 0)) (aName 1) (tTrue) (eCall F_is_name (eCons (eVar 1) (eNil))) [1]) (eNil))))))) (sNever) (sNil)
def F__check_names := runD 2 S__check_names
theorem ok__check_names (T : Txt w K mg) : FnOk P w K mg base (L2.CX P w) 2 T.f__check_names T.d__check_names ["names"] (spF w K mg 1 F__check_names) := by
  refine fn_ok (N := N__check_names) (S := S__check_names) T.F__check_names sc__check_names fun cdv A outer s H E hr => ?_
  have tk : Takes (cxOf (L2.CX P w) P w K mg base N__check_names "_check_names" (defScope (topS 31)) T.f__check_names cdv A outer s H E) (WD E) := tk_def
  have po : PassesOwn (model P w) (A.deeper (envOfC "_check_names" (defScope (topS 31)) s.heap.objs.size T.f__check_names cdv)) (envOfC "_check_names" (defScope (topS 31)) s.heap.objs.size T.f__check_names cdv) (cxOf (L2.CX P w) P w K mg base N__check_names "_check_names" (defScope (topS 31)) T.f__check_names cdv A outer s H E).xe := po_def
  exact ess_one (es_if (Ew.et (ew_or (et_not (et_val (ev_isi (T := "tuple") rfl T.z_isinstance T.z_tuple (by decide +kernel) (by decide +kernel) (ev_var 0)))) (ew_or (et_not (et_lele (ev_int) (ev_len T.z_len (ea_cons (ev_var 0) (ea_nil))) (ev_glob T.c_MOST_NAMES))) (ew_or1 (et_not (et_val (ev_all rfl T.z_all (ea_cons ((eo_comp (own := [("one", 1)]) rfl sc__check_names.nd (ei_seq (ev_var 0)) (blkOk_by (N := N__check_names) (sc := defScope (topS 31)) (by decide +kernel)) (fun _ _ _ _ _ => eg_name 1 sc__check_names.nd) (by decide) (fun _ _ _ _ _ => ets_nil) (fun _ _ _ _ _ => ev_call (ok_is_name T) rfl takes0 (hr.mono (by decide)) T.m_is_name T.F_is_name.kp T.b_is_name (ea_cons (ev_var 1) (ea_nil)))).ev) (ea_nil)))))))))
      (ess_one (es_never))
      (ess_nil))
/-! ### _built : 0 names, 1 one -/
abbrev N__built : List Str := ["names", "one"]
theorem sc__built : FnScope N__built ["names"] (defScope (topS 32)) := ⟨rfl, rfl, rfl, by decide +kernel, rfl, by decide +kernel, by decide +kernel⟩
def S__built (self : List D → R D) : ES := sCons (sIf (tV (eA dAll (eCons (eComp (iSeq (eVar 0)) (aName 1) (tTrue) (e2 dEq (eVar 1) (e2 dIx (eVar 0) (eInt 0))) [1]) (eNil)))) (sRet (eTup (eCons (eD (c_END)) (eCons (e2 dIx (eVar 0) (eInt 0)) (eNil))))) (sNil)) (sRet (eTup (eCons (eD (c_SWITCH)) (eCons (e2 dIx (eD (c_SIDES)) (eInt 0)) (eCons (eCall self (eCons (eStride (eVar 0) 2 (pNone)) (eNil))) (eCons (eCall self (eCons (eStride (eVar 0) 2 (pSome (eInt 1))) (eNil))) (eNil)))))))
def F__built : Nat → List D → R D
  | 0 => fun _ => .stuck
  | n + 1 => runD 2 (S__built (F__built n))
theorem ok__built (T : Txt w K mg) : ∀ n : Nat, FnOk P w K mg base (L2.CX P w) (0 + n) T.f__built T.d__built ["names"] (spF w K mg 1 (F__built n))
  | 0 => fn_stuck
  | n + 1 => by
    have ih := ok__built T n
    refine fn_ok (N := N__built) (S := S__built (F__built n)) T.F__built sc__built fun cdv A outer s H E hr => ?_
    have tk : Takes (cxOf (L2.CX P w) P w K mg base N__built "_built" (defScope (topS 32)) T.f__built cdv A outer s H E) (WD E) := tk_def
    have po : PassesOwn (model P w) (A.deeper (envOfC "_built" (defScope (topS 32)) s.heap.objs.size T.f__built cdv)) (envOfC "_built" (defScope (topS 32)) s.heap.objs.size T.f__built cdv) (cxOf (L2.CX P w) P w K mg base N__built "_built" (defScope (topS 32)) T.f__built cdv A outer s H E).xe := po_def
    exact ess_cons (es_if (et_val (ev_all rfl T.z_all (ea_cons ((eo_comp (own := [("one", 1)]) rfl sc__built.nd (ei_seq (ev_var 0)) (blkOk_by (N := N__built) (sc := defScope (topS 32)) (by decide +kernel)) (fun _ _ _ _ _ => eg_name 1 sc__built.nd) (by decide) (fun _ _ _ _ _ => ets_nil) (fun _ _ _ _ _ => ev_eq (hu_room hr) (ev_var 1) (ev_ix (ev_var 0) (ev_int)))).ev) (ea_nil))))
      (ess_one (es_ret (ev_tup (ea_cons (ev_glob T.c_END) (ea_cons (ev_ix (ev_var 0) (ev_int)) (ea_nil))))))
      (ess_nil))
      (ess_one (es_ret (ev_tup (ea_cons (ev_glob T.c_SWITCH) (ea_cons (ev_ix (ev_glob T.c_SIDES) (ev_int)) (ea_cons (ev_call ih rfl tk (hr.mono (by show _ ≤ 0 + n; omega)) T.m__built T.F__built.kp T.b__built (ea_cons (ev_stride (k := 2) (ev_var 0) (ep_none)) (ea_nil))) (ea_cons (ev_call ih rfl tk (hr.mono (by show _ ≤ 0 + n; omega)) T.m__built T.F__built.kp T.b__built (ea_cons (ev_stride (k := 2) (ev_var 0) (ep_some (ev_int))) (ea_nil))) (ea_nil))))))))
/-! ### _needed : 0 names, 1 one -/
abbrev N__needed : List Str := ["names", "one"]
theorem sc__needed : FnScope N__needed ["names"] (defScope (topS 33)) := ⟨rfl, rfl, rfl, by decide +kernel, rfl, by decide +kernel, by decide +kernel⟩
def S__needed (self : List D → R D) : ES := sCons (sIf (tV (eA dAll (eCons (eComp (iSeq (eVar 0)) (aName 1) (tTrue) (e2 dEq (eVar 1) (e2 dIx (eVar 0) (eInt 0))) [1]) (eNil)))) (sRet (eInt 0)) (sNil)) (sRet (e2 dAdd (e2 dAdd (eInt 1) (eCall self (eCons (eStride (eVar 0) 2 (pNone)) (eNil)))) (eCall self (eCons (eStride (eVar 0) 2 (pSome (eInt 1))) (eNil)))))
def F__needed : Nat → List D → R D
  | 0 => fun _ => .stuck
  | n + 1 => runD 2 (S__needed (F__needed n))
theorem ok__needed (T : Txt w K mg) : ∀ n : Nat, FnOk P w K mg base (L2.CX P w) (0 + n) T.f__needed T.d__needed ["names"] (spF w K mg 1 (F__needed n))
  | 0 => fn_stuck
  | n + 1 => by
    have ih := ok__needed T n
    refine fn_ok (N := N__needed) (S := S__needed (F__needed n)) T.F__needed sc__needed fun cdv A outer s H E hr => ?_
    have tk : Takes (cxOf (L2.CX P w) P w K mg base N__needed "_needed" (defScope (topS 33)) T.f__needed cdv A outer s H E) (WD E) := tk_def
    have po : PassesOwn (model P w) (A.deeper (envOfC "_needed" (defScope (topS 33)) s.heap.objs.size T.f__needed cdv)) (envOfC "_needed" (defScope (topS 33)) s.heap.objs.size T.f__needed cdv) (cxOf (L2.CX P w) P w K mg base N__needed "_needed" (defScope (topS 33)) T.f__needed cdv A outer s H E).xe := po_def
    exact ess_cons (es_if (et_val (ev_all rfl T.z_all (ea_cons ((eo_comp (own := [("one", 1)]) rfl sc__needed.nd (ei_seq (ev_var 0)) (blkOk_by (N := N__needed) (sc := defScope (topS 33)) (by decide +kernel)) (fun _ _ _ _ _ => eg_name 1 sc__needed.nd) (by decide) (fun _ _ _ _ _ => ets_nil) (fun _ _ _ _ _ => ev_eq (hu_room hr) (ev_var 1) (ev_ix (ev_var 0) (ev_int)))).ev) (ea_nil))))
      (ess_one (es_ret (ev_int)))
      (ess_nil))
      (ess_one (es_ret (ev_add (ev_add (ev_int) (ev_call ih rfl tk (hr.mono (by show _ ≤ 0 + n; omega)) T.m__needed T.F__needed.kp T.b__needed (ea_cons (ev_stride (k := 2) (ev_var 0) (ep_none)) (ea_nil)))) (ev_call ih rfl tk (hr.mono (by show _ ≤ 0 + n; omega)) T.m__needed T.F__needed.kp T.b__needed (ea_cons (ev_stride (k := 2) (ev_var 0) (ep_some (ev_int))) (ea_nil))))))
/-! ### switches_for : 0 names -/
abbrev N_switches_for : List Str := ["names"]
theorem sc_switches_for : FnScope N_switches_for ["names"] (defScope (topS 34)) := ⟨rfl, rfl, rfl, by decide +kernel, rfl, by decide +kernel, by decide +kernel⟩
def S_switches_for : ES := sCons (sExpr (eCall F__check_names (eCons (eVar 0) (eNil)))) (sRet (eCall (F__needed 10) (eCons (eVar 0) (eNil))))
def F_switches_for := runD 1 S_switches_for
theorem ok_switches_for (T : Txt w K mg) : FnOk P w K mg base (L2.CX P w) 11 T.f_switches_for T.d_switches_for ["names"] (spF w K mg 1 F_switches_for) := by
  refine fn_ok (N := N_switches_for) (S := S_switches_for) T.F_switches_for sc_switches_for fun cdv A outer s H E hr => ?_
  have tk : Takes (cxOf (L2.CX P w) P w K mg base N_switches_for "switches_for" (defScope (topS 34)) T.f_switches_for cdv A outer s H E) (WD E) := tk_def
  have po : PassesOwn (model P w) (A.deeper (envOfC "switches_for" (defScope (topS 34)) s.heap.objs.size T.f_switches_for cdv)) (envOfC "switches_for" (defScope (topS 34)) s.heap.objs.size T.f_switches_for cdv) (cxOf (L2.CX P w) P w K mg base N_switches_for "switches_for" (defScope (topS 34)) T.f_switches_for cdv A outer s H E).xe := po_def
  exact ess_cons (es_expr (ev_call (ok__check_names T) rfl tk (hr.mono (by decide)) T.m__check_names T.F__check_names.kp T.b__check_names (ea_cons (ev_var 0) (ea_nil))))
      (ess_one (es_ret (ev_call (ok__needed T 10) rfl tk (hr.mono (by decide)) T.m__needed T.F__needed.kp T.b__needed (ea_cons (ev_var 0) (ea_nil)))))
/-! ### _all_names : 0 tree, 1 many, 2 number -/
abbrev N__all_names : List Str := ["tree", "many", "number"]
theorem sc__all_names : FnScope N__all_names ["tree", "many"] (defScope (topS 35)) := ⟨rfl, rfl, rfl, by decide +kernel, rfl, by decide +kernel, by decide +kernel⟩
def S__all_names : ES := sRet (eA dTuple (eCons (eComp (iRg1 (eVar 1)) (aName 2) (tTrue) (eCall F_name_of (eCons (eVar 0) (eCons (eVar 2) (eNil)))) [2]) (eNil)))
def F__all_names := runD 3 S__all_names
theorem ok__all_names (T : Txt w K mg) : FnOk P w K mg base (L2.CX P w) 2 T.f__all_names T.d__all_names ["tree", "many"] (spF w K mg 2 F__all_names) := by
  refine fn_ok (N := N__all_names) (S := S__all_names) T.F__all_names sc__all_names fun cdv A outer s H E hr => ?_
  have tk : Takes (cxOf (L2.CX P w) P w K mg base N__all_names "_all_names" (defScope (topS 35)) T.f__all_names cdv A outer s H E) (WD E) := tk_def
  have po : PassesOwn (model P w) (A.deeper (envOfC "_all_names" (defScope (topS 35)) s.heap.objs.size T.f__all_names cdv)) (envOfC "_all_names" (defScope (topS 35)) s.heap.objs.size T.f__all_names cdv) (cxOf (L2.CX P w) P w K mg base N__all_names "_all_names" (defScope (topS 35)) T.f__all_names cdv A outer s H E).xe := po_def
  exact ess_one (es_ret (ev_tuple T.z_tuple (ea_cons ((eo_comp (own := [("number", 2)]) rfl sc__all_names.nd (ei_range1 T.z_range (ev_var 1)) (blkOk_by (N := N__all_names) (sc := defScope (topS 35)) (by decide +kernel)) (fun _ _ _ _ _ => eg_name 2 sc__all_names.nd) (by decide) (fun _ _ _ _ _ => ets_nil) (fun _ _ _ _ _ => ev_call (ok_name_of T) rfl takes0 (hr.mono (by decide)) T.m_name_of T.F_name_of.kp T.b_name_of (ea_cons (ev_var 0) (ea_cons (ev_var 2) (ea_nil))))).ev) (ea_nil))))
/-! ### _first_unlike : 0 tree, 1 other, 2 number -/
abbrev N__first_unlike : List Str := ["tree", "other", "number"]
theorem sc__first_unlike : FnScope N__first_unlike ["tree", "other"] (defScope (topS 36)) := ⟨rfl, rfl, rfl, by decide +kernel, rfl, by decide +kernel, by decide +kernel⟩
def B__first_unlike_1 : ES := sIf (tV (e2 dNe (eCall F_name_of (eCons (eVar 0) (eCons (eVar 2) (eNil)))) (eCall F_name_of (eCons (eVar 1) (eCons (eVar 2) (eNil)))))) (sRet (eVar 2)) (sNil)
def S__first_unlike : ES := sCons (sFor (iRg1 (eA dMax2 (eCons (eCall F_again_in (eCons (eVar 0) (eNil))) (eCons (eCall F_again_in (eCons (eVar 1) (eNil))) (eNil))))) (aName 2) (B__first_unlike_1) [2]) (sRet (eNone))
def F__first_unlike := runD 3 S__first_unlike
theorem ok__first_unlike (T : Txt w K mg) : FnOk P w K mg base (L2.CX P w) 12 T.f__first_unlike T.d__first_unlike ["tree", "other"] (spF w K mg 2 F__first_unlike) := by
  refine fn_ok (N := N__first_unlike) (S := S__first_unlike) T.F__first_unlike sc__first_unlike fun cdv A outer s H E hr => ?_
  have tk : Takes (cxOf (L2.CX P w) P w K mg base N__first_unlike "_first_unlike" (defScope (topS 36)) T.f__first_unlike cdv A outer s H E) (WD E) := tk_def
  have po : PassesOwn (model P w) (A.deeper (envOfC "_first_unlike" (defScope (topS 36)) s.heap.objs.size T.f__first_unlike cdv)) (envOfC "_first_unlike" (defScope (topS 36)) s.heap.objs.size T.f__first_unlike cdv) (cxOf (L2.CX P w) P w K mg base N__first_unlike "_first_unlike" (defScope (topS 36)) T.f__first_unlike cdv A outer s H E).xe := po_def
  exact ess_cons (es_for [2] po rfl (ei_range1 T.z_range (ev_max2 rfl T.z_max (ea_cons (ev_call (ok_again_in T) rfl tk (hr.mono (by decide)) T.m_again_in T.F_again_in.kp T.b_again_in (ea_cons (ev_var 0) (ea_nil))) (ea_cons (ev_call (ok_again_in T) rfl tk (hr.mono (by decide)) T.m_again_in T.F_again_in.kp T.b_again_in (ea_cons (ev_var 1) (ea_nil))) (ea_nil))))) (eg_name 2 sc__first_unlike.nd)
      (ess_one (es_if (et_ne (hu_room hr) (ev_call (ok_name_of T) rfl tk (hr.mono (by decide)) T.m_name_of T.F_name_of.kp T.b_name_of (ea_cons (ev_var 0) (ea_cons (ev_var 2) (ea_nil)))) (ev_call (ok_name_of T) rfl tk (hr.mono (by decide)) T.m_name_of T.F_name_of.kp T.b_name_of (ea_cons (ev_var 1) (ea_cons (ev_var 2) (ea_nil)))))
      (ess_one (es_ret (ev_var 2)))
      (ess_nil))))
      (ess_one (es_ret (ev_none)))
/-! ### first_unlike : 0 tree, 1 other -/
abbrev N_first_unlike : List Str := ["tree", "other"]
theorem sc_first_unlike : FnScope N_first_unlike ["tree", "other"] (defScope (topS 37)) := ⟨rfl, rfl, rfl, by decide +kernel, rfl, by decide +kernel, by decide +kernel⟩
def S_first_unlike : ES := sCons (sExpr (eCall F_check_tree (eCons (eVar 0) (eNil)))) (sCons (sExpr (eCall F_check_tree (eCons (eVar 1) (eNil)))) (sRet (eCall F__first_unlike (eCons (eVar 0) (eCons (eVar 1) (eNil))))))
def F_first_unlike := runD 2 S_first_unlike
theorem ok_first_unlike (T : Txt w K mg) : FnOk P w K mg base (L2.CX P w) 14 T.f_first_unlike T.d_first_unlike ["tree", "other"] (spF w K mg 2 F_first_unlike) := by
  refine fn_ok (N := N_first_unlike) (S := S_first_unlike) T.F_first_unlike sc_first_unlike fun cdv A outer s H E hr => ?_
  have tk : Takes (cxOf (L2.CX P w) P w K mg base N_first_unlike "first_unlike" (defScope (topS 37)) T.f_first_unlike cdv A outer s H E) (WD E) := tk_def
  have po : PassesOwn (model P w) (A.deeper (envOfC "first_unlike" (defScope (topS 37)) s.heap.objs.size T.f_first_unlike cdv)) (envOfC "first_unlike" (defScope (topS 37)) s.heap.objs.size T.f_first_unlike cdv) (cxOf (L2.CX P w) P w K mg base N_first_unlike "first_unlike" (defScope (topS 37)) T.f_first_unlike cdv A outer s H E).xe := po_def
  exact ess_cons (es_expr (ev_call (ok_check_tree T) rfl tk (hr.mono (by decide)) T.m_check_tree T.F_check_tree.kp T.b_check_tree (ea_cons (ev_var 0) (ea_nil))))
      (ess_cons (es_expr (ev_call (ok_check_tree T) rfl tk (hr.mono (by decide)) T.m_check_tree T.F_check_tree.kp T.b_check_tree (ea_cons (ev_var 1) (ea_nil))))
      (ess_one (es_ret (ev_call (ok__first_unlike T) rfl tk (hr.mono (by decide)) T.m__first_unlike T.F__first_unlike.kp T.b__first_unlike (ea_cons (ev_var 0) (ea_cons (ev_var 1) (ea_nil)))))))
/-! ### same_for_ever : 0 tree, 1 other -/
abbrev N_same_for_ever : List Str := ["tree", "other"]
theorem sc_same_for_ever : FnScope N_same_for_ever ["tree", "other"] (defScope (topS 38)) := ⟨rfl, rfl, rfl, by decide +kernel, rfl, by decide +kernel, by decide +kernel⟩
def S_same_for_ever : ES := sCons (sExpr (eCall F_check_tree (eCons (eVar 0) (eNil)))) (sCons (sExpr (eCall F_check_tree (eCons (eVar 1) (eNil)))) (sRet (e1 dIsN (eCall F__first_unlike (eCons (eVar 0) (eCons (eVar 1) (eNil)))))))
def F_same_for_ever := runD 2 S_same_for_ever
theorem ok_same_for_ever (T : Txt w K mg) : FnOk P w K mg base (L2.CX P w) 14 T.f_same_for_ever T.d_same_for_ever ["tree", "other"] (spF w K mg 2 F_same_for_ever) := by
  refine fn_ok (N := N_same_for_ever) (S := S_same_for_ever) T.F_same_for_ever sc_same_for_ever fun cdv A outer s H E hr => ?_
  have tk : Takes (cxOf (L2.CX P w) P w K mg base N_same_for_ever "same_for_ever" (defScope (topS 38)) T.f_same_for_ever cdv A outer s H E) (WD E) := tk_def
  have po : PassesOwn (model P w) (A.deeper (envOfC "same_for_ever" (defScope (topS 38)) s.heap.objs.size T.f_same_for_ever cdv)) (envOfC "same_for_ever" (defScope (topS 38)) s.heap.objs.size T.f_same_for_ever cdv) (cxOf (L2.CX P w) P w K mg base N_same_for_ever "same_for_ever" (defScope (topS 38)) T.f_same_for_ever cdv A outer s H E).xe := po_def
  exact ess_cons (es_expr (ev_call (ok_check_tree T) rfl tk (hr.mono (by decide)) T.m_check_tree T.F_check_tree.kp T.b_check_tree (ea_cons (ev_var 0) (ea_nil))))
      (ess_cons (es_expr (ev_call (ok_check_tree T) rfl tk (hr.mono (by decide)) T.m_check_tree T.F_check_tree.kp T.b_check_tree (ea_cons (ev_var 1) (ea_nil))))
      (ess_one (es_ret (ev_isN (ev_call (ok__first_unlike T) rfl tk (hr.mono (by decide)) T.m__first_unlike T.F__first_unlike.kp T.b__first_unlike (ea_cons (ev_var 0) (ea_cons (ev_var 1) (ea_nil))))))))
/-! ### least_tree : 0 tree -/
abbrev N_least_tree : List Str := ["tree"]
theorem sc_least_tree : FnScope N_least_tree ["tree"] (defScope (topS 39)) := ⟨rfl, rfl, rfl, by decide +kernel, rfl, by decide +kernel, by decide +kernel⟩
def S_least_tree : ES := sCons (sExpr (eCall F_check_tree (eCons (eVar 0) (eNil)))) (sRet (eCall (F__built 10) (eCons (eCall F__all_names (eCons (eVar 0) (eCons (eCall F_again_in (eCons (eVar 0) (eNil))) (eNil)))) (eNil))))
def F_least_tree := runD 1 S_least_tree
theorem ok_least_tree (T : Txt w K mg) : FnOk P w K mg base (L2.CX P w) 14 T.f_least_tree T.d_least_tree ["tree"] (spF w K mg 1 F_least_tree) := by
  refine fn_ok (N := N_least_tree) (S := S_least_tree) T.F_least_tree sc_least_tree fun cdv A outer s H E hr => ?_
  have tk : Takes (cxOf (L2.CX P w) P w K mg base N_least_tree "least_tree" (defScope (topS 39)) T.f_least_tree cdv A outer s H E) (WD E) := tk_def
  have po : PassesOwn (model P w) (A.deeper (envOfC "least_tree" (defScope (topS 39)) s.heap.objs.size T.f_least_tree cdv)) (envOfC "least_tree" (defScope (topS 39)) s.heap.objs.size T.f_least_tree cdv) (cxOf (L2.CX P w) P w K mg base N_least_tree "least_tree" (defScope (topS 39)) T.f_least_tree cdv A outer s H E).xe := po_def
  exact ess_cons (es_expr (ev_call (ok_check_tree T) rfl tk (hr.mono (by decide)) T.m_check_tree T.F_check_tree.kp T.b_check_tree (ea_cons (ev_var 0) (ea_nil))))
      (ess_one (es_ret (ev_call (ok__built T 10) rfl tk (hr.mono (by decide)) T.m__built T.F__built.kp T.b__built (ea_cons (ev_call (ok__all_names T) rfl tk (hr.mono (by decide)) T.m__all_names T.F__all_names.kp T.b__all_names (ea_cons (ev_var 0) (ea_cons (ev_call (ok_again_in T) rfl tk (hr.mono (by decide)) T.m_again_in T.F_again_in.kp T.b_again_in (ea_cons (ev_var 0) (ea_nil))) (ea_nil)))) (ea_nil)))))
/-! ### _law_draws : 0 script, 1 many, 2 draws, 3 seed, 4 cell, 5 k, 6 number -/
abbrev N__law_draws : List Str := ["script", "many", "draws", "seed", "cell", "k", "number"]
theorem sc__law_draws : FnScope N__law_draws ["script", "many"] (defScope (topS 41)) := ⟨rfl, rfl, rfl, by decide +kernel, rfl, by decide +kernel, by decide +kernel⟩
theorem ok__law_draws (T : Txt w K mg) : FnOk P w K mg base (L2.CX P w) 1 T.f__law_draws T.d__law_draws ["script", "many"] (spS w K mg 2 F__law_draws) := by
  refine fn_okS (N := N__law_draws) (S := S__law_draws) T.F__law_draws sc__law_draws fun cdv A outer s H E hr => ?_
  have tk : Takes (cxOf (L2.CX P w) P w K mg base N__law_draws "_law_draws" (defScope (topS 41)) T.f__law_draws cdv A outer s H E) (WD E) := tk_def
  have po : PassesOwn (model P w) (A.deeper (envOfC "_law_draws" (defScope (topS 41)) s.heap.objs.size T.f__law_draws cdv)) (envOfC "_law_draws" (defScope (topS 41)) s.heap.objs.size T.f__law_draws cdv) (cxOf (L2.CX P w) P w K mg base N__law_draws "_law_draws" (defScope (topS 41)) T.f__law_draws cdv A outer s H E).xe := po_def
  exact ess_cons (es_set 2 (Eo.em (eo_lst (ea_nil))) sc__law_draws.nd)
      (ess_cons (es_set 3 (Ev.em (ev_int)) sc__law_draws.nd)
      (ess_cons (es_for [0, 4, 5, 6] po rfl (ei_seq (ev_cutS 0 (ep_none) (ep_some (ev_int)))) (eg_name 4 sc__law_draws.nd)
      (ess_cons (es_set 6 (Ev.em (ev_abs T.z_abs (ea_cons (ev_var 4) (ea_nil)))) sc__law_draws.nd)
      (ess_cons (es_set 3 (Ev.em (ev_mod (ev_intc T.z_int (ea_cons (ev_add (ev_add (ev_mul (ev_var 3) (ev_int)) (ev_var 6)) (ev_int)) (ea_nil))) (ev_int))) sc__law_draws.nd)
      (ess_one (es_if (et_ge (ev_var 6) (ev_pow (ev_int) (ev_int)))
      (ess_one (es_for [0, 4, 5] po rfl (ei_range1 T.z_range (ev_int)) (eg_name 5 sc__law_draws.nd)
      (ess_one (es_if (et_gt (ev_var 6) (ev_int))
      (ess_cons (es_app 2 (ev_mod (ev_intc T.z_int (ea_cons (ev_var 6) (ea_nil))) (ev_int)))
      (ess_one (es_set 6 (Ev.em (ev_fdiv (ev_var 6) (ev_int))) sc__law_draws.nd)))
      (ess_nil)))))
      (ess_one (es_app 2 (ev_mod (ev_fdiv (ev_intc T.z_int (ea_cons (ev_add (ev_mul (ev_var 3) (ev_int)) (ev_int)) (ea_nil))) (ev_int)) (ev_int)))))))))
      (ess_cons (es_for [0, 4, 5, 6] po rfl (ei_range1 T.z_range (ev_var 1)) (eg_name 5 sc__law_draws.nd)
      (ess_one (es_if (et_bor 2 (et_lt (hu_room hr) (ev_len T.z_len (ea_cons (ev_var 2) (ea_nil))) (ev_var 1)))
      (ess_cons (es_set 3 (Ev.em (ev_mod (ev_intc T.z_int (ea_cons (ev_add (ev_add (ev_mul (ev_var 3) (ev_int)) (ev_var 5)) (ev_int)) (ea_nil))) (ev_int))) sc__law_draws.nd)
      (ess_one (es_app 2 (ev_mod (ev_fdiv (ev_intc T.z_int (ea_cons (ev_var 3) (ea_nil))) (ev_int)) (ev_int)))))
      (ess_nil))))
      (ess_one (es_frz 2 (es_ret (ev_cut (ev_var 2) (ep_none) (ep_some (ev_var 1)))))))))
/-! ### _law_tree : 0 draws, 1 at, 2 deep, 3 draw, 4 left, 5 right -/
abbrev N__law_tree : List Str := ["draws", "at", "deep", "draw", "left", "right"]
theorem sc__law_tree : FnScope N__law_tree ["draws", "at", "deep"] (defScope (topS 42)) := ⟨rfl, rfl, rfl, by decide +kernel, rfl, by decide +kernel, by decide +kernel⟩
def S__law_tree (self : List D → R D) : ES := sCons (sSet 3 (mF (e2 dFdiv (eA dInt (eCons (e2 dIx (eVar 0) (e2 dMod (eVar 1) (eA dLen (eCons (eVar 0) (eNil))))) (eNil))) (e2 dAdd (eInt 1) (e2 dFdiv (eVar 1) (eA dLen (eCons (eVar 0) (eNil)))))))) (sCons (sIf (tOrB (tV (e2 dEq (eVar 2) (eInt 0))) (tV (e2 dEq (e2 dMod (eVar 3) (eInt 4)) (eInt 0)))) (sRet (eTup (eCons (eTup (eCons (eStr "end") (eCons (e2 dIx (eLst (eCons (eStr "a") (eCons (eStr "b") (eCons (eStr "cc") (eCons (eStr "a") (eNil)))))) (e2 dMod (e2 dFdiv (eVar 3) (eInt 4)) (eInt 4))) (eNil)))) (eCons (e2 dAdd (eVar 1) (eInt 1)) (eNil))))) (sNil)) (sCons (sAsg (eCall self (eCons (eVar 0) (eCons (e2 dAdd (eVar 1) (eInt 1)) (eCons (e2 dSub (eVar 2) (eInt 1)) (eNil))))) (aTup (aCons (aName 4) (aCons (aName 1) (aNil))))) (sCons (sAsg (eCall self (eCons (eVar 0) (eCons (eVar 1) (eCons (e2 dSub (eVar 2) (eInt 1)) (eNil))))) (aTup (aCons (aName 5) (aCons (aName 1) (aNil))))) (sRet (eTup (eCons (eTup (eCons (eStr "switch") (eCons (e2 dIx (eLst (eCons (eStr "L") (eCons (eStr "R") (eNil)))) (e2 dMod (e2 dFdiv (eVar 3) (eInt 4)) (eInt 2))) (eCons (eVar 4) (eCons (eVar 5) (eNil)))))) (eCons (eVar 1) (eNil))))))))
def F__law_tree : Nat → List D → R D
  | 0 => fun _ => .stuck
  | n + 1 => runD 6 (S__law_tree (F__law_tree n))
theorem ok__law_tree (T : Txt w K mg) : ∀ n : Nat, FnOk P w K mg base (L2.CX P w) (0 + n) T.f__law_tree T.d__law_tree ["draws", "at", "deep"] (spF w K mg 3 (F__law_tree n))
  | 0 => fn_stuck
  | n + 1 => by
    have ih := ok__law_tree T n
    refine fn_ok (N := N__law_tree) (S := S__law_tree (F__law_tree n)) T.F__law_tree sc__law_tree fun cdv A outer s H E hr => ?_
    have tk : Takes (cxOf (L2.CX P w) P w K mg base N__law_tree "_law_tree" (defScope (topS 42)) T.f__law_tree cdv A outer s H E) (WD E) := tk_def
    have po : PassesOwn (model P w) (A.deeper (envOfC "_law_tree" (defScope (topS 42)) s.heap.objs.size T.f__law_tree cdv)) (envOfC "_law_tree" (defScope (topS 42)) s.heap.objs.size T.f__law_tree cdv) (cxOf (L2.CX P w) P w K mg base N__law_tree "_law_tree" (defScope (topS 42)) T.f__law_tree cdv A outer s H E).xe := po_def
    exact ess_cons (es_set 3 (Ev.em (ev_fdiv (ev_intc T.z_int (ea_cons (ev_ix (ev_var 0) (ev_mod (ev_var 1) (ev_len T.z_len (ea_cons (ev_var 0) (ea_nil))))) (ea_nil))) (ev_add (ev_int) (ev_fdiv (ev_var 1) (ev_len T.z_len (ea_cons (ev_var 0) (ea_nil))))))) sc__law_tree.nd)
      (ess_cons (es_if (Ew.et (ew_or (et_eq (hu_room hr) (ev_var 2) (ev_int)) (ew_or1 (et_eq (hu_room hr) (ev_mod (ev_var 3) (ev_int)) (ev_int)))))
      (ess_one (es_ret (ev_tup (ea_cons (ev_tup (ea_cons (ev_str) (ea_cons (ev_ix ((eo_lst (ea_cons (ev_str) (ea_cons (ev_str) (ea_cons (ev_str) (ea_cons (ev_str) (ea_nil)))))).ev) (ev_mod (ev_fdiv (ev_var 3) (ev_int)) (ev_int))) (ea_nil)))) (ea_cons (ev_add (ev_var 1) (ev_int)) (ea_nil))))))
      (ess_nil))
      (ess_cons (es_asg (ev_call ih rfl tk (hr.mono (by show _ ≤ 0 + n; omega)) T.m__law_tree T.F__law_tree.kp T.b__law_tree (ea_cons (ev_var 0) (ea_cons (ev_add (ev_var 1) (ev_int)) (ea_cons (ev_sub (ev_var 2) (ev_int)) (ea_nil))))) (eg_tup rfl (egs_cons (eg_name 4 sc__law_tree.nd) (egs_cons (eg_name 1 sc__law_tree.nd) (egs_nil)))))
      (ess_cons (es_asg (ev_call ih rfl tk (hr.mono (by show _ ≤ 0 + n; omega)) T.m__law_tree T.F__law_tree.kp T.b__law_tree (ea_cons (ev_var 0) (ea_cons (ev_var 1) (ea_cons (ev_sub (ev_var 2) (ev_int)) (ea_nil))))) (eg_tup rfl (egs_cons (eg_name 5 sc__law_tree.nd) (egs_cons (eg_name 1 sc__law_tree.nd) (egs_nil)))))
      (ess_one (es_ret (ev_tup (ea_cons (ev_tup (ea_cons (ev_str) (ea_cons (ev_ix ((eo_lst (ea_cons (ev_str) (ea_cons (ev_str) (ea_nil)))).ev) (ev_mod (ev_fdiv (ev_var 3) (ev_int)) (ev_int))) (ea_cons (ev_var 4) (ea_cons (ev_var 5) (ea_nil)))))) (ea_cons (ev_var 1) (ea_nil)))))))))
/-! ### _law_drop : 0 tree, 1 own, 2 name -/
abbrev N__law_drop : List Str := ["tree", "own", "name"]
theorem sc__law_drop : FnScope N__law_drop ["tree"] (defScope (topS 43)) := ⟨rfl, rfl, rfl, by decide +kernel, rfl, by decide +kernel, by decide +kernel⟩
def S__law_drop (self : List D → R D) : ES := sCons (sIf (tV (e2 dEq (e2 dIx (eVar 0) (eInt 0)) (eStr "end"))) (sRet (eTup (eCons (eVar 0) (eCons (e2 dIx (eVar 0) (eInt 1)) (eNil))))) (sNil)) (sCons (sAsg (eCall self (eCons (eIte (tV (e2 dEq (e2 dIx (eVar 0) (eInt 1)) (eStr "L"))) (e2 dIx (eVar 0) (eInt 2)) (e2 dIx (eVar 0) (eInt 3))) (eNil))) (aTup (aCons (aName 1) (aCons (aName 2) (aNil))))) (sRet (eTup (eCons (eIte (tV (e2 dEq (e2 dIx (eVar 0) (eInt 1)) (eStr "L"))) (eTup (eCons (eStr "switch") (eCons (eStr "R") (eCons (eVar 1) (eCons (e2 dIx (eVar 0) (eInt 3)) (eNil)))))) (eTup (eCons (eStr "switch") (eCons (eStr "L") (eCons (e2 dIx (eVar 0) (eInt 2)) (eCons (eVar 1) (eNil))))))) (eCons (eVar 2) (eNil))))))
def F__law_drop : Nat → List D → R D
  | 0 => fun _ => .stuck
  | n + 1 => runD 3 (S__law_drop (F__law_drop n))
theorem ok__law_drop (T : Txt w K mg) : ∀ n : Nat, FnOk P w K mg base (L2.CX P w) (0 + n) T.f__law_drop T.d__law_drop ["tree"] (spF w K mg 1 (F__law_drop n))
  | 0 => fn_stuck
  | n + 1 => by
    have ih := ok__law_drop T n
    refine fn_ok (N := N__law_drop) (S := S__law_drop (F__law_drop n)) T.F__law_drop sc__law_drop fun cdv A outer s H E hr => ?_
    have tk : Takes (cxOf (L2.CX P w) P w K mg base N__law_drop "_law_drop" (defScope (topS 43)) T.f__law_drop cdv A outer s H E) (WD E) := tk_def
    have po : PassesOwn (model P w) (A.deeper (envOfC "_law_drop" (defScope (topS 43)) s.heap.objs.size T.f__law_drop cdv)) (envOfC "_law_drop" (defScope (topS 43)) s.heap.objs.size T.f__law_drop cdv) (cxOf (L2.CX P w) P w K mg base N__law_drop "_law_drop" (defScope (topS 43)) T.f__law_drop cdv A outer s H E).xe := po_def
    exact ess_cons (es_if (et_eq (hu_room hr) (ev_ix (ev_var 0) (ev_int)) (ev_str))
      (ess_one (es_ret (ev_tup (ea_cons (ev_var 0) (ea_cons (ev_ix (ev_var 0) (ev_int)) (ea_nil))))))
      (ess_nil))
      (ess_cons (es_asg (ev_call ih rfl tk (hr.mono (by show _ ≤ 0 + n; omega)) T.m__law_drop T.F__law_drop.kp T.b__law_drop (ea_cons (ev_ite (et_eq (hu_room hr) (ev_ix (ev_var 0) (ev_int)) (ev_str)) (ev_ix (ev_var 0) (ev_int)) (ev_ix (ev_var 0) (ev_int))) (ea_nil))) (eg_tup rfl (egs_cons (eg_name 1 sc__law_drop.nd) (egs_cons (eg_name 2 sc__law_drop.nd) (egs_nil)))))
      (ess_one (es_ret (ev_tup (ea_cons (ev_ite (et_eq (hu_room hr) (ev_ix (ev_var 0) (ev_int)) (ev_str)) (ev_tup (ea_cons (ev_str) (ea_cons (ev_str) (ea_cons (ev_var 1) (ea_cons (ev_ix (ev_var 0) (ev_int)) (ea_nil)))))) (ev_tup (ea_cons (ev_str) (ea_cons (ev_str) (ea_cons (ev_ix (ev_var 0) (ev_int)) (ea_cons (ev_var 1) (ea_nil))))))) (ea_cons (ev_var 2) (ea_nil)))))))
/-! ### _law_names : 0 tree, 1 many, 2 found, 3 k, 4 name -/
abbrev N__law_names : List Str := ["tree", "many", "found", "k", "name"]
theorem sc__law_names : FnScope N__law_names ["tree", "many"] (defScope (topS 44)) := ⟨rfl, rfl, rfl, by decide +kernel, rfl, by decide +kernel, by decide +kernel⟩
def B__law_names_1 : ES := sCons (sAsg (eCall (F__law_drop 10) (eCons (eVar 0) (eNil))) (aTup (aCons (aName 0) (aCons (aName 4) (aNil))))) (sSet 2 (mF (e2 dAdd (eVar 2) (eTup (eCons (eVar 4) (eNil))))))
def S__law_names : ES := sCons (sSet 2 (mF (eTup (eNil)))) (sCons (sFor (iRg1 (eVar 1)) (aName 3) (B__law_names_1) [1, 3, 4]) (sRet (eVar 2)))
def F__law_names := runD 5 S__law_names
theorem ok__law_names (T : Txt w K mg) : FnOk P w K mg base (L2.CX P w) 11 T.f__law_names T.d__law_names ["tree", "many"] (spF w K mg 2 F__law_names) := by
  refine fn_ok (N := N__law_names) (S := S__law_names) T.F__law_names sc__law_names fun cdv A outer s H E hr => ?_
  have tk : Takes (cxOf (L2.CX P w) P w K mg base N__law_names "_law_names" (defScope (topS 44)) T.f__law_names cdv A outer s H E) (WD E) := tk_def
  have po : PassesOwn (model P w) (A.deeper (envOfC "_law_names" (defScope (topS 44)) s.heap.objs.size T.f__law_names cdv)) (envOfC "_law_names" (defScope (topS 44)) s.heap.objs.size T.f__law_names cdv) (cxOf (L2.CX P w) P w K mg base N__law_names "_law_names" (defScope (topS 44)) T.f__law_names cdv A outer s H E).xe := po_def
  exact ess_cons (es_set 2 (Ev.em (ev_tup (ea_nil))) sc__law_names.nd)
      (ess_cons (es_for [1, 3, 4] po rfl (ei_range1 T.z_range (ev_var 1)) (eg_name 3 sc__law_names.nd)
      (ess_cons (es_asg (ev_call (ok__law_drop T 10) rfl tk (hr.mono (by decide)) T.m__law_drop T.F__law_drop.kp T.b__law_drop (ea_cons (ev_var 0) (ea_nil))) (eg_tup rfl (egs_cons (eg_name 0 sc__law_names.nd) (egs_cons (eg_name 4 sc__law_names.nd) (egs_nil)))))
      (ess_one (es_set 2 (Ev.em (ev_add (ev_var 2) (ev_tup (ea_cons (ev_var 4) (ea_nil))))) sc__law_names.nd))))
      (ess_one (es_ret (ev_var 2))))
/-! ### _law_turned : 0 tree -/
abbrev N__law_turned : List Str := ["tree"]
theorem sc__law_turned : FnScope N__law_turned ["tree"] (defScope (topS 45)) := ⟨rfl, rfl, rfl, by decide +kernel, rfl, by decide +kernel, by decide +kernel⟩
def S__law_turned (self : List D → R D) : ES := sRet (eIte (tV (e2 dEq (e2 dIx (eVar 0) (eInt 0)) (eStr "end"))) (eVar 0) (eTup (eCons (eStr "switch") (eCons (eIte (tV (e2 dEq (e2 dIx (eVar 0) (eInt 1)) (eStr "R"))) (eStr "L") (eStr "R")) (eCons (eCall self (eCons (e2 dIx (eVar 0) (eInt 3)) (eNil))) (eCons (eCall self (eCons (e2 dIx (eVar 0) (eInt 2)) (eNil))) (eNil)))))))
def F__law_turned : Nat → List D → R D
  | 0 => fun _ => .stuck
  | n + 1 => runD 1 (S__law_turned (F__law_turned n))
theorem ok__law_turned (T : Txt w K mg) : ∀ n : Nat, FnOk P w K mg base (L2.CX P w) (0 + n) T.f__law_turned T.d__law_turned ["tree"] (spF w K mg 1 (F__law_turned n))
  | 0 => fn_stuck
  | n + 1 => by
    have ih := ok__law_turned T n
    refine fn_ok (N := N__law_turned) (S := S__law_turned (F__law_turned n)) T.F__law_turned sc__law_turned fun cdv A outer s H E hr => ?_
    have tk : Takes (cxOf (L2.CX P w) P w K mg base N__law_turned "_law_turned" (defScope (topS 45)) T.f__law_turned cdv A outer s H E) (WD E) := tk_def
    have po : PassesOwn (model P w) (A.deeper (envOfC "_law_turned" (defScope (topS 45)) s.heap.objs.size T.f__law_turned cdv)) (envOfC "_law_turned" (defScope (topS 45)) s.heap.objs.size T.f__law_turned cdv) (cxOf (L2.CX P w) P w K mg base N__law_turned "_law_turned" (defScope (topS 45)) T.f__law_turned cdv A outer s H E).xe := po_def
    exact ess_one (es_ret (ev_ite (et_eq (hu_room hr) (ev_ix (ev_var 0) (ev_int)) (ev_str)) (ev_var 0) (ev_tup (ea_cons (ev_str) (ea_cons (ev_ite (et_eq (hu_room hr) (ev_ix (ev_var 0) (ev_int)) (ev_str)) (ev_str) (ev_str)) (ea_cons (ev_call ih rfl tk (hr.mono (by show _ ≤ 0 + n; omega)) T.m__law_turned T.F__law_turned.kp T.b__law_turned (ea_cons (ev_ix (ev_var 0) (ev_int)) (ea_nil))) (ea_cons (ev_call ih rfl tk (hr.mono (by show _ ≤ 0 + n; omega)) T.m__law_turned T.F__law_turned.kp T.b__law_turned (ea_cons (ev_ix (ev_var 0) (ev_int)) (ea_nil))) (ea_nil))))))))
/-! ### _law_doubled : 0 tree -/
abbrev N__law_doubled : List Str := ["tree"]
theorem sc__law_doubled : FnScope N__law_doubled ["tree"] (defScope (topS 46)) := ⟨rfl, rfl, rfl, by decide +kernel, rfl, by decide +kernel, by decide +kernel⟩
def S__law_doubled (self : List D → R D) : ES := sRet (eIte (tV (e2 dEq (e2 dIx (eVar 0) (eInt 0)) (eStr "end"))) (eTup (eCons (eStr "switch") (eCons (eStr "R") (eCons (eVar 0) (eCons (eVar 0) (eNil)))))) (eTup (eCons (eStr "switch") (eCons (e2 dIx (eVar 0) (eInt 1)) (eCons (eCall self (eCons (e2 dIx (eVar 0) (eInt 2)) (eNil))) (eCons (eCall self (eCons (e2 dIx (eVar 0) (eInt 3)) (eNil))) (eNil)))))))
def F__law_doubled : Nat → List D → R D
  | 0 => fun _ => .stuck
  | n + 1 => runD 1 (S__law_doubled (F__law_doubled n))
theorem ok__law_doubled (T : Txt w K mg) : ∀ n : Nat, FnOk P w K mg base (L2.CX P w) (0 + n) T.f__law_doubled T.d__law_doubled ["tree"] (spF w K mg 1 (F__law_doubled n))
  | 0 => fn_stuck
  | n + 1 => by
    have ih := ok__law_doubled T n
    refine fn_ok (N := N__law_doubled) (S := S__law_doubled (F__law_doubled n)) T.F__law_doubled sc__law_doubled fun cdv A outer s H E hr => ?_
    have tk : Takes (cxOf (L2.CX P w) P w K mg base N__law_doubled "_law_doubled" (defScope (topS 46)) T.f__law_doubled cdv A outer s H E) (WD E) := tk_def
    have po : PassesOwn (model P w) (A.deeper (envOfC "_law_doubled" (defScope (topS 46)) s.heap.objs.size T.f__law_doubled cdv)) (envOfC "_law_doubled" (defScope (topS 46)) s.heap.objs.size T.f__law_doubled cdv) (cxOf (L2.CX P w) P w K mg base N__law_doubled "_law_doubled" (defScope (topS 46)) T.f__law_doubled cdv A outer s H E).xe := po_def
    exact ess_one (es_ret (ev_ite (et_eq (hu_room hr) (ev_ix (ev_var 0) (ev_int)) (ev_str)) (ev_tup (ea_cons (ev_str) (ea_cons (ev_str) (ea_cons (ev_var 0) (ea_cons (ev_var 0) (ea_nil)))))) (ev_tup (ea_cons (ev_str) (ea_cons (ev_ix (ev_var 0) (ev_int)) (ea_cons (ev_call ih rfl tk (hr.mono (by show _ ≤ 0 + n; omega)) T.m__law_doubled T.F__law_doubled.kp T.b__law_doubled (ea_cons (ev_ix (ev_var 0) (ev_int)) (ea_nil))) (ea_cons (ev_call ih rfl tk (hr.mono (by show _ ≤ 0 + n; omega)) T.m__law_doubled T.F__law_doubled.kp T.b__law_doubled (ea_cons (ev_ix (ev_var 0) (ev_int)) (ea_nil))) (ea_nil))))))))
/-! ### _law_changed : 0 tree -/
abbrev N__law_changed : List Str := ["tree"]
theorem sc__law_changed : FnScope N__law_changed ["tree"] (defScope (topS 47)) := ⟨rfl, rfl, rfl, by decide +kernel, rfl, by decide +kernel, by decide +kernel⟩
def S__law_changed (self : List D → R D) : ES := sRet (eIte (tV (e2 dEq (e2 dIx (eVar 0) (eInt 0)) (eStr "end"))) (eTup (eCons (eStr "end") (eCons (eStr "zz") (eNil)))) (eTup (eCons (eStr "switch") (eCons (e2 dIx (eVar 0) (eInt 1)) (eCons (e2 dIx (eVar 0) (eInt 2)) (eCons (eCall self (eCons (e2 dIx (eVar 0) (eInt 3)) (eNil))) (eNil)))))))
def F__law_changed : Nat → List D → R D
  | 0 => fun _ => .stuck
  | n + 1 => runD 1 (S__law_changed (F__law_changed n))
theorem ok__law_changed (T : Txt w K mg) : ∀ n : Nat, FnOk P w K mg base (L2.CX P w) (0 + n) T.f__law_changed T.d__law_changed ["tree"] (spF w K mg 1 (F__law_changed n))
  | 0 => fn_stuck
  | n + 1 => by
    have ih := ok__law_changed T n
    refine fn_ok (N := N__law_changed) (S := S__law_changed (F__law_changed n)) T.F__law_changed sc__law_changed fun cdv A outer s H E hr => ?_
    have tk : Takes (cxOf (L2.CX P w) P w K mg base N__law_changed "_law_changed" (defScope (topS 47)) T.f__law_changed cdv A outer s H E) (WD E) := tk_def
    have po : PassesOwn (model P w) (A.deeper (envOfC "_law_changed" (defScope (topS 47)) s.heap.objs.size T.f__law_changed cdv)) (envOfC "_law_changed" (defScope (topS 47)) s.heap.objs.size T.f__law_changed cdv) (cxOf (L2.CX P w) P w K mg base N__law_changed "_law_changed" (defScope (topS 47)) T.f__law_changed cdv A outer s H E).xe := po_def
    exact ess_one (es_ret (ev_ite (et_eq (hu_room hr) (ev_ix (ev_var 0) (ev_int)) (ev_str)) (ev_tup (ea_cons (ev_str) (ea_cons (ev_str) (ea_nil)))) (ev_tup (ea_cons (ev_str) (ea_cons (ev_ix (ev_var 0) (ev_int)) (ea_cons (ev_ix (ev_var 0) (ev_int)) (ea_cons (ev_call ih rfl tk (hr.mono (by show _ ≤ 0 + n; omega)) T.m__law_changed T.F__law_changed.kp T.b__law_changed (ea_cons (ev_ix (ev_var 0) (ev_int)) (ea_nil))) (ea_nil))))))))
/-! ### _law_lefts : 0 tree -/
abbrev N__law_lefts : List Str := ["tree"]
theorem sc__law_lefts : FnScope N__law_lefts ["tree"] (defScope (topS 48)) := ⟨rfl, rfl, rfl, by decide +kernel, rfl, by decide +kernel, by decide +kernel⟩
def S__law_lefts (self : List D → R D) : ES := sRet (eIte (tV (e2 dEq (e2 dIx (eVar 0) (eInt 0)) (eStr "end"))) (eBool true) (eAnd (e2 dEq (e2 dIx (eVar 0) (eInt 1)) (eStr "L")) (eAnd (eCall self (eCons (e2 dIx (eVar 0) (eInt 2)) (eNil))) (eCall self (eCons (e2 dIx (eVar 0) (eInt 3)) (eNil))))))
def F__law_lefts : Nat → List D → R D
  | 0 => fun _ => .stuck
  | n + 1 => runD 1 (S__law_lefts (F__law_lefts n))
theorem ok__law_lefts (T : Txt w K mg) : ∀ n : Nat, FnOk P w K mg base (L2.CX P w) (0 + n) T.f__law_lefts T.d__law_lefts ["tree"] (spF w K mg 1 (F__law_lefts n))
  | 0 => fn_stuck
  | n + 1 => by
    have ih := ok__law_lefts T n
    refine fn_ok (N := N__law_lefts) (S := S__law_lefts (F__law_lefts n)) T.F__law_lefts sc__law_lefts fun cdv A outer s H E hr => ?_
    have tk : Takes (cxOf (L2.CX P w) P w K mg base N__law_lefts "_law_lefts" (defScope (topS 48)) T.f__law_lefts cdv A outer s H E) (WD E) := tk_def
    have po : PassesOwn (model P w) (A.deeper (envOfC "_law_lefts" (defScope (topS 48)) s.heap.objs.size T.f__law_lefts cdv)) (envOfC "_law_lefts" (defScope (topS 48)) s.heap.objs.size T.f__law_lefts cdv) (cxOf (L2.CX P w) P w K mg base N__law_lefts "_law_lefts" (defScope (topS 48)) T.f__law_lefts cdv A outer s H E).xe := po_def
    exact ess_one (es_ret (ev_ite (et_eq (hu_room hr) (ev_ix (ev_var 0) (ev_int)) (ev_str)) (ev_bool) (ev_and (ev_eq (hu_room hr) (ev_ix (ev_var 0) (ev_int)) (ev_str)) (ev_and (ev_call ih rfl tk (hr.mono (by show _ ≤ 0 + n; omega)) T.m__law_lefts T.F__law_lefts.kp T.b__law_lefts (ea_cons (ev_ix (ev_var 0) (ev_int)) (ea_nil))) (ev_one (ev_call ih rfl tk (hr.mono (by show _ ≤ 0 + n; omega)) T.m__law_lefts T.F__law_lefts.kp T.b__law_lefts (ea_cons (ev_ix (ev_var 0) (ev_int)) (ea_nil))))))))
/-! ### law : 0 script, 1 draws, 2 turn, 3 tree, 4 least, 5 one, 6 other, 7 unlike, 8 first, 9 second, 10 k -/
abbrev N_law : List Str := ["script", "draws", "turn", "tree", "least", "one", "other", "unlike", "first", "second", "k"]
theorem sc_law : FnScope N_law ["script"] (defScope (topS 49)) := ⟨rfl, rfl, rfl, by decide +kernel, rfl, by decide +kernel, by decide +kernel⟩
def B_law_1 : ES := sCons (sAsg (eTup (eCons (eCall F__law_names (eCons (eVar 3) (eCons (eInt 64) (eNil)))) (eCons (eCall F__law_names (eCons (eVar 5) (eCons (eInt 64) (eNil)))) (eNil)))) (aTup (aCons (aName 8) (aCons (aName 9) (aNil))))) (sCons (sSet 7 (mF (eComp (iRg1 (eInt 64)) (aName 10) (tV (e2 dNe (e2 dIx (eVar 8) (eVar 10)) (e2 dIx (eVar 9) (eVar 10)))) (eVar 10) [10]))) (sCons (sIf (tOrB (tV (e2 dNe (eCall F_first_unlike (eCons (eVar 3) (eCons (eVar 5) (eNil)))) (eIte (tV (e2 dGt (eA dLen (eCons (eVar 7) (eNil))) (eInt 0))) (e2 dIx (eVar 7) (eInt 0)) (eNone)))) (tV (e2 dNe (eCall F_first_unlike (eCons (eVar 5) (eCons (eVar 3) (eNil)))) (eCall F_first_unlike (eCons (eVar 3) (eCons (eVar 5) (eNil))))))) (sRet (eBool false)) (sNil)) (sIf (tOrB (tV (e2 dNe (eCall F_same_for_ever (eCons (eVar 3) (eCons (eVar 5) (eNil)))) (e2 dEq (eA dLen (eCons (eVar 7) (eNil))) (eInt 0)))) (tOrB (tNotB (tV (e1 (dIsi' "bool") (eCall F_same_for_ever (eCons (eVar 3) (eCons (eVar 5) (eNil))))))) (tV (e2 dNe (eCall F_same_for_ever (eCons (eVar 3) (eCons (eVar 5) (eNil)))) (e2 dEq (eCall F_least_tree (eCons (eVar 5) (eNil))) (eVar 4)))))) (sRet (eBool false)) (sNil))))
def B_law_2 : ES := sCons (sPar 3 6 (mF (e2 dIx (eCall (F__law_tree 6) (eCons (eVar 1) (eCons (e2 dMul (eInt 9) (eVar 2)) (eCons (e2 dIx (eLst (eCons (eInt 4) (eCons (eInt 3) (eCons (eInt 2) (eCons (eInt 1) (eCons (eInt 4) (eNil))))))) (eVar 2)) (eNil))))) (eInt 0))) (mF (e2 dIx (eCall (F__law_tree 6) (eCons (eVar 1) (eCons (e2 dAdd (e2 dMul (eInt 9) (eVar 2)) (eInt 5)) (eCons (e2 dIx (eLst (eCons (eInt 3) (eCons (eInt 2) (eCons (eInt 2) (eCons (eInt 1) (eCons (eInt 3) (eNil))))))) (eVar 2)) (eNil))))) (eInt 0)))) (sCons (sSet 4 (mF (eCall F_least_tree (eCons (eVar 3) (eNil))))) (sCons (sIf (tOrB (tNotB (tV (eCall F_is_tree (eCons (eVar 4) (eNil))))) (tOrB (tNotB (tV (eCall (F__law_lefts 10) (eCons (eVar 4) (eNil))))) (tOrB (tV (e2 dNe (eCall F__law_names (eCons (eVar 4) (eCons (eInt 32) (eNil)))) (eCall F__law_names (eCons (eVar 3) (eCons (eInt 32) (eNil)))))) (tOrB (tV (e2 dNe (eCall F_least_tree (eCons (eVar 4) (eNil))) (eVar 4))) (tV (e2 dGt (eCall F_tree_size (eCons (eVar 4) (eNil))) (eCall F_tree_size (eCons (eVar 3) (eNil))))))))) (sRet (eBool false)) (sNil)) (sCons (sIf (tV (e2 dNe (eCall F_tree_size (eCons (eVar 4) (eNil))) (eCall F_switches_for (eCons (eCall F_tree_ends (eCons (eVar 3) (eCons (eCall F_tree_again (eCons (eVar 3) (eNil))) (eNil)))) (eNil))))) (sRet (eBool false)) (sNil)) (sCons (sFor (iSeq (eLst (eCons (eVar 6) (eCons (eCall (F__law_turned 10) (eCons (eVar 3) (eNil))) (eCons (eCall (F__law_doubled 10) (eCons (eVar 3) (eNil))) (eCons (eCall (F__law_changed 10) (eCons (eVar 3) (eNil))) (eCons (eVar 4) (eCons (eVar 3) (eNil))))))))) (aName 5) (B_law_1) [0, 2, 5, 6, 7, 8, 9, 10]) (sIf (tOrB (tNotB (tV (eCall F_same_for_ever (eCons (eVar 3) (eCons (eCall (F__law_turned 10) (eCons (eVar 3) (eNil))) (eNil)))))) (tOrB (tNotB (tV (eCall F_same_for_ever (eCons (eVar 3) (eCons (eCall (F__law_doubled 10) (eCons (eVar 3) (eNil))) (eNil)))))) (tV (eCall F_same_for_ever (eCons (eVar 3) (eCons (eCall (F__law_changed 10) (eCons (eVar 3) (eNil))) (eNil))))))) (sRet (eBool false)) (sNil))))))
def S_law : ES := sCons (sSet 1 (mF (eCallS 0 F__law_draws (eCons (eInt 60) (eNil))))) (sCons (sFor (iRg1 (eInt 5)) (aName 2) (B_law_2) [0, 2, 3, 4, 5, 6, 7, 8, 9, 10]) (sCons (sSet 3 (mF (eTup (eCons (eStr "switch") (eCons (eStr "R") (eCons (eTup (eCons (eStr "end") (eCons (eStr "a") (eNil)))) (eCons (eTup (eCons (eStr "switch") (eCons (eStr "L") (eCons (eTup (eCons (eStr "end") (eCons (eStr "b") (eNil)))) (eCons (eTup (eCons (eStr "end") (eCons (eStr "b") (eNil)))) (eNil)))))) (eNil)))))))) (sCons (sIf (tV (e2 dNe (eCall F_least_tree (eCons (eVar 3) (eNil))) (eTup (eCons (eStr "switch") (eCons (eStr "L") (eCons (eTup (eCons (eStr "end") (eCons (eStr "b") (eNil)))) (eCons (eTup (eCons (eStr "end") (eCons (eStr "a") (eNil)))) (eNil)))))))) (sRet (eBool false)) (sNil)) (sRet (eAnd (e2 dEq (eCall F_first_unlike (eCons (eVar 3) (eCons (eTup (eCons (eStr "end") (eCons (eStr "b") (eNil)))) (eNil)))) (eInt 1)) (eAnd (e1 dIsN (eCall F_first_unlike (eCons (eTup (eCons (eStr "end") (eCons (eStr "a") (eNil)))) (eCons (eTup (eCons (eStr "end") (eCons (eStr "a") (eNil)))) (eNil))))) (e2 dEq (eCall F_least_tree (eCons (eTup (eCons (eStr "end") (eCons (eStr "a") (eNil)))) (eNil))) (eTup (eCons (eStr "end") (eCons (eStr "a") (eNil)))))))))))
def F_law := runS 11 S_law
theorem ok_law (T : Txt w K mg) : FnOk P w K mg base (L2.CX P w) 15 T.f_law T.d_law ["script"] (spS w K mg 1 F_law) := by
  refine fn_okS (N := N_law) (S := S_law) T.F_law sc_law fun cdv A outer s H E hr => ?_
  have tk : Takes (cxOf (L2.CX P w) P w K mg base N_law "law" (defScope (topS 49)) T.f_law cdv A outer s H E) (WD E) := tk_def
  have po : PassesOwn (model P w) (A.deeper (envOfC "law" (defScope (topS 49)) s.heap.objs.size T.f_law cdv)) (envOfC "law" (defScope (topS 49)) s.heap.objs.size T.f_law cdv) (cxOf (L2.CX P w) P w K mg base N_law "law" (defScope (topS 49)) T.f_law cdv A outer s H E).xe := po_def
  exact ess_cons (es_set 1 (Ev.em (ev_callS 0 (ok__law_draws T) rfl tk (hr.mono (by decide)) T.m__law_draws T.F__law_draws.kp T.b__law_draws (ea_cons (ev_int) (ea_nil)))) sc_law.nd)
      (ess_cons (es_for [0, 2, 3, 4, 5, 6, 7, 8, 9, 10] po rfl (ei_range1 T.z_range (ev_int)) (eg_name 2 sc_law.nd)
      (ess_cons (es_par 3 6 rfl sc_law.nd (Ev.em (ev_ix (ev_call (ok__law_tree T 6) rfl tk (hr.mono (by decide)) T.m__law_tree T.F__law_tree.kp T.b__law_tree (ea_cons (ev_var 1) (ea_cons (ev_mul (ev_int) (ev_var 2)) (ea_cons (ev_ix ((eo_lst (ea_cons (ev_int) (ea_cons (ev_int) (ea_cons (ev_int) (ea_cons (ev_int) (ea_cons (ev_int) (ea_nil))))))).ev) (ev_var 2)) (ea_nil))))) (ev_int))) (Ev.em (ev_ix (ev_call (ok__law_tree T 6) rfl tk (hr.mono (by decide)) T.m__law_tree T.F__law_tree.kp T.b__law_tree (ea_cons (ev_var 1) (ea_cons (ev_add (ev_mul (ev_int) (ev_var 2)) (ev_int)) (ea_cons (ev_ix ((eo_lst (ea_cons (ev_int) (ea_cons (ev_int) (ea_cons (ev_int) (ea_cons (ev_int) (ea_cons (ev_int) (ea_nil))))))).ev) (ev_var 2)) (ea_nil))))) (ev_int))))
      (ess_cons (es_set 4 (Ev.em (ev_call (ok_least_tree T) rfl tk (hr.mono (by decide)) T.m_least_tree T.F_least_tree.kp T.b_least_tree (ea_cons (ev_var 3) (ea_nil)))) sc_law.nd)
      (ess_cons (es_if (Ew.et (ew_or (et_not (et_val (ev_call (ok_is_tree T) rfl tk (hr.mono (by decide)) T.m_is_tree T.F_is_tree.kp T.b_is_tree (ea_cons (ev_var 4) (ea_nil))))) (ew_or (et_not (et_val (ev_call (ok__law_lefts T 10) rfl tk (hr.mono (by decide)) T.m__law_lefts T.F__law_lefts.kp T.b__law_lefts (ea_cons (ev_var 4) (ea_nil))))) (ew_or (et_ne (hu_room hr) (ev_call (ok__law_names T) rfl tk (hr.mono (by decide)) T.m__law_names T.F__law_names.kp T.b__law_names (ea_cons (ev_var 4) (ea_cons (ev_int) (ea_nil)))) (ev_call (ok__law_names T) rfl tk (hr.mono (by decide)) T.m__law_names T.F__law_names.kp T.b__law_names (ea_cons (ev_var 3) (ea_cons (ev_int) (ea_nil))))) (ew_or (et_ne (hu_room hr) (ev_call (ok_least_tree T) rfl tk (hr.mono (by decide)) T.m_least_tree T.F_least_tree.kp T.b_least_tree (ea_cons (ev_var 4) (ea_nil))) (ev_var 4)) (ew_or1 (et_gt (ev_call (ok_tree_size T) rfl tk (hr.mono (by decide)) T.m_tree_size T.F_tree_size.kp T.b_tree_size (ea_cons (ev_var 4) (ea_nil))) (ev_call (ok_tree_size T) rfl tk (hr.mono (by decide)) T.m_tree_size T.F_tree_size.kp T.b_tree_size (ea_cons (ev_var 3) (ea_nil))))))))))
      (ess_one (es_ret (ev_bool)))
      (ess_nil))
      (ess_cons (es_if (et_ne (hu_room hr) (ev_call (ok_tree_size T) rfl tk (hr.mono (by decide)) T.m_tree_size T.F_tree_size.kp T.b_tree_size (ea_cons (ev_var 4) (ea_nil))) (ev_call (ok_switches_for T) rfl tk (hr.mono (by decide)) T.m_switches_for T.F_switches_for.kp T.b_switches_for (ea_cons (ev_call (ok_tree_ends T) rfl tk (hr.mono (by decide)) T.m_tree_ends T.F_tree_ends.kp T.b_tree_ends (ea_cons (ev_var 3) (ea_cons (ev_call (ok_tree_again T) rfl tk (hr.mono (by decide)) T.m_tree_again T.F_tree_again.kp T.b_tree_again (ea_cons (ev_var 3) (ea_nil))) (ea_nil)))) (ea_nil))))
      (ess_one (es_ret (ev_bool)))
      (ess_nil))
      (ess_cons (es_for [0, 2, 5, 6, 7, 8, 9, 10] po rfl (ei_seq ((eo_lst (ea_cons (ev_var 6) (ea_cons (ev_call (ok__law_turned T 10) rfl tk (hr.mono (by decide)) T.m__law_turned T.F__law_turned.kp T.b__law_turned (ea_cons (ev_var 3) (ea_nil))) (ea_cons (ev_call (ok__law_doubled T 10) rfl tk (hr.mono (by decide)) T.m__law_doubled T.F__law_doubled.kp T.b__law_doubled (ea_cons (ev_var 3) (ea_nil))) (ea_cons (ev_call (ok__law_changed T 10) rfl tk (hr.mono (by decide)) T.m__law_changed T.F__law_changed.kp T.b__law_changed (ea_cons (ev_var 3) (ea_nil))) (ea_cons (ev_var 4) (ea_cons (ev_var 3) (ea_nil)))))))).ev)) (eg_name 5 sc_law.nd)
      (ess_cons (es_asg (ev_tup (ea_cons (ev_call (ok__law_names T) rfl tk (hr.mono (by decide)) T.m__law_names T.F__law_names.kp T.b__law_names (ea_cons (ev_var 3) (ea_cons (ev_int) (ea_nil)))) (ea_cons (ev_call (ok__law_names T) rfl tk (hr.mono (by decide)) T.m__law_names T.F__law_names.kp T.b__law_names (ea_cons (ev_var 5) (ea_cons (ev_int) (ea_nil)))) (ea_nil)))) (eg_tup rfl (egs_cons (eg_name 8 sc_law.nd) (egs_cons (eg_name 9 sc_law.nd) (egs_nil)))))
      (ess_cons (es_setF (es_setLc (own := [("k", 10)]) rfl sc_law.nd rfl rfl (sw_true rfl rfl rfl (by decide +kernel)) (ei_range1 T.z_range (ev_int)) (blkOk_by (N := N_law) (sc := defScope (topS 49)) (by decide +kernel)) (fun _ _ _ _ _ => eg_name 10 sc_law.nd) (by decide) (fun _ _ _ _ _ => ets_one (et_ne (hu_room hr) (ev_ix (ev_var 8) (ev_var 10)) (ev_ix (ev_var 9) (ev_var 10)))) (fun _ _ _ _ _ => ev_var 10)))
      (ess_cons (es_if (Ew.et (ew_or (et_ne (hu_room hr) (ev_call (ok_first_unlike T) rfl tk (hr.mono (by decide)) T.m_first_unlike T.F_first_unlike.kp T.b_first_unlike (ea_cons (ev_var 3) (ea_cons (ev_var 5) (ea_nil)))) (ev_ite (et_gt (ev_len T.z_len (ea_cons (ev_var 7) (ea_nil))) (ev_int)) (ev_ix (ev_var 7) (ev_int)) (ev_none))) (ew_or1 (et_ne (hu_room hr) (ev_call (ok_first_unlike T) rfl tk (hr.mono (by decide)) T.m_first_unlike T.F_first_unlike.kp T.b_first_unlike (ea_cons (ev_var 5) (ea_cons (ev_var 3) (ea_nil)))) (ev_call (ok_first_unlike T) rfl tk (hr.mono (by decide)) T.m_first_unlike T.F_first_unlike.kp T.b_first_unlike (ea_cons (ev_var 3) (ea_cons (ev_var 5) (ea_nil))))))))
      (ess_one (es_ret (ev_bool)))
      (ess_nil))
      (ess_one (es_if (Ew.et (ew_or (et_ne (hu_room hr) (ev_call (ok_same_for_ever T) rfl tk (hr.mono (by decide)) T.m_same_for_ever T.F_same_for_ever.kp T.b_same_for_ever (ea_cons (ev_var 3) (ea_cons (ev_var 5) (ea_nil)))) (ev_eq (hu_room hr) (ev_len T.z_len (ea_cons (ev_var 7) (ea_nil))) (ev_int))) (ew_or (et_not (et_val (ev_isi (T := "bool") rfl T.z_isinstance T.z_bool (by decide +kernel) (by decide +kernel) (ev_call (ok_same_for_ever T) rfl tk (hr.mono (by decide)) T.m_same_for_ever T.F_same_for_ever.kp T.b_same_for_ever (ea_cons (ev_var 3) (ea_cons (ev_var 5) (ea_nil))))))) (ew_or1 (et_ne (hu_room hr) (ev_call (ok_same_for_ever T) rfl tk (hr.mono (by decide)) T.m_same_for_ever T.F_same_for_ever.kp T.b_same_for_ever (ea_cons (ev_var 3) (ea_cons (ev_var 5) (ea_nil)))) (ev_eq (hu_room hr) (ev_call (ok_least_tree T) rfl tk (hr.mono (by decide)) T.m_least_tree T.F_least_tree.kp T.b_least_tree (ea_cons (ev_var 5) (ea_nil))) (ev_var 4)))))))
      (ess_one (es_ret (ev_bool)))
      (ess_nil)))))))
      (ess_one (es_if (Ew.et (ew_or (et_not (et_val (ev_call (ok_same_for_ever T) rfl tk (hr.mono (by decide)) T.m_same_for_ever T.F_same_for_ever.kp T.b_same_for_ever (ea_cons (ev_var 3) (ea_cons (ev_call (ok__law_turned T 10) rfl tk (hr.mono (by decide)) T.m__law_turned T.F__law_turned.kp T.b__law_turned (ea_cons (ev_var 3) (ea_nil))) (ea_nil)))))) (ew_or (et_not (et_val (ev_call (ok_same_for_ever T) rfl tk (hr.mono (by decide)) T.m_same_for_ever T.F_same_for_ever.kp T.b_same_for_ever (ea_cons (ev_var 3) (ea_cons (ev_call (ok__law_doubled T 10) rfl tk (hr.mono (by decide)) T.m__law_doubled T.F__law_doubled.kp T.b__law_doubled (ea_cons (ev_var 3) (ea_nil))) (ea_nil)))))) (ew_or1 (et_val (ev_call (ok_same_for_ever T) rfl tk (hr.mono (by decide)) T.m_same_for_ever T.F_same_for_ever.kp T.b_same_for_ever (ea_cons (ev_var 3) (ea_cons (ev_call (ok__law_changed T 10) rfl tk (hr.mono (by decide)) T.m__law_changed T.F__law_changed.kp T.b__law_changed (ea_cons (ev_var 3) (ea_nil))) (ea_nil)))))))))
      (ess_one (es_ret (ev_bool)))
      (ess_nil)))))))))
      (ess_cons (es_set 3 (Ev.em (ev_tup (ea_cons (ev_str) (ea_cons (ev_str) (ea_cons (ev_tup (ea_cons (ev_str) (ea_cons (ev_str) (ea_nil)))) (ea_cons (ev_tup (ea_cons (ev_str) (ea_cons (ev_str) (ea_cons (ev_tup (ea_cons (ev_str) (ea_cons (ev_str) (ea_nil)))) (ea_cons (ev_tup (ea_cons (ev_str) (ea_cons (ev_str) (ea_nil)))) (ea_nil)))))) (ea_nil))))))) sc_law.nd)
      (ess_cons (es_if (et_ne (hu_room hr) (ev_call (ok_least_tree T) rfl tk (hr.mono (by decide)) T.m_least_tree T.F_least_tree.kp T.b_least_tree (ea_cons (ev_var 3) (ea_nil))) (ev_tup (ea_cons (ev_str) (ea_cons (ev_str) (ea_cons (ev_tup (ea_cons (ev_str) (ea_cons (ev_str) (ea_nil)))) (ea_cons (ev_tup (ea_cons (ev_str) (ea_cons (ev_str) (ea_nil)))) (ea_nil)))))))
      (ess_one (es_ret (ev_bool)))
      (ess_nil))
      (ess_one (es_ret (ev_and (ev_eq (hu_room hr) (ev_call (ok_first_unlike T) rfl tk (hr.mono (by decide)) T.m_first_unlike T.F_first_unlike.kp T.b_first_unlike (ea_cons (ev_var 3) (ea_cons (ev_tup (ea_cons (ev_str) (ea_cons (ev_str) (ea_nil)))) (ea_nil)))) (ev_int)) (ev_and (ev_isN (ev_call (ok_first_unlike T) rfl tk (hr.mono (by decide)) T.m_first_unlike T.F_first_unlike.kp T.b_first_unlike (ea_cons (ev_tup (ea_cons (ev_str) (ea_cons (ev_str) (ea_nil)))) (ea_cons (ev_tup (ea_cons (ev_str) (ea_cons (ev_str) (ea_nil)))) (ea_nil))))) (ev_one (ev_eq (hu_room hr) (ev_call (ok_least_tree T) rfl tk (hr.mono (by decide)) T.m_least_tree T.F_least_tree.kp T.b_least_tree (ea_cons (ev_tup (ea_cons (ev_str) (ea_cons (ev_str) (ea_nil)))) (ea_nil))) (ev_tup (ea_cons (ev_str) (ea_cons (ev_str) (ea_nil)))))))))))))
end
theorem all_mk {w : World} {K : PySem.W.Frag} {h : Heap} {mg : Str → Option Value} {fa : Addr} (X : K.In h) (G : h.Ns mainGlobals mg) (hfa : mg "law" = some (.ref fa))
    {f0 : Addr} {od0 an0 : Option Addr} {sl0 : Array (Option Value)} {oc0 kV0 dc0 pm0 cd0 ct0 : Value}
    {f1 : Addr} {od1 an1 : Option Addr} {sl1 : Array (Option Value)} {oc1 kV1 dc1 pm1 cd1 ct1 : Value}
    {f2 : Addr} {od2 an2 : Option Addr} {sl2 : Array (Option Value)} {oc2 kV2 dc2 pm2 cd2 ct2 : Value}
    {f3 : Addr} {od3 an3 : Option Addr} {sl3 : Array (Option Value)} {oc3 kV3 dc3 pm3 cd3 ct3 : Value}
    {f4 : Addr} {od4 an4 : Option Addr} {sl4 : Array (Option Value)} {oc4 kV4 dc4 pm4 cd4 ct4 : Value}
    {f5 : Addr} {od5 an5 : Option Addr} {sl5 : Array (Option Value)} {oc5 kV5 dc5 pm5 cd5 ct5 : Value}
    {f6 : Addr} {od6 an6 : Option Addr} {sl6 : Array (Option Value)} {oc6 kV6 dc6 pm6 cd6 ct6 : Value}
    {f7 : Addr} {od7 an7 : Option Addr} {sl7 : Array (Option Value)} {oc7 kV7 dc7 pm7 cd7 ct7 : Value}
    {f8 : Addr} {od8 an8 : Option Addr} {sl8 : Array (Option Value)} {oc8 kV8 dc8 pm8 cd8 ct8 : Value}
    {f9 : Addr} {od9 an9 : Option Addr} {sl9 : Array (Option Value)} {oc9 kV9 dc9 pm9 cd9 ct9 : Value}
    {f10 : Addr} {od10 an10 : Option Addr} {sl10 : Array (Option Value)} {oc10 kV10 dc10 pm10 cd10 ct10 : Value}
    {f11 : Addr} {od11 an11 : Option Addr} {sl11 : Array (Option Value)} {oc11 kV11 dc11 pm11 cd11 ct11 : Value}
    {f12 : Addr} {od12 an12 : Option Addr} {sl12 : Array (Option Value)} {oc12 kV12 dc12 pm12 cd12 ct12 : Value}
    {f13 : Addr} {od13 an13 : Option Addr} {sl13 : Array (Option Value)} {oc13 kV13 dc13 pm13 cd13 ct13 : Value}
    {f14 : Addr} {od14 an14 : Option Addr} {sl14 : Array (Option Value)} {oc14 kV14 dc14 pm14 cd14 ct14 : Value}
    {f15 : Addr} {od15 an15 : Option Addr} {sl15 : Array (Option Value)} {oc15 kV15 dc15 pm15 cd15 ct15 : Value}
    {f16 : Addr} {od16 an16 : Option Addr} {sl16 : Array (Option Value)} {oc16 kV16 dc16 pm16 cd16 ct16 : Value}
    {f17 : Addr} {od17 an17 : Option Addr} {sl17 : Array (Option Value)} {oc17 kV17 dc17 pm17 cd17 ct17 : Value}
    {f18 : Addr} {od18 an18 : Option Addr} {sl18 : Array (Option Value)} {oc18 kV18 dc18 pm18 cd18 ct18 : Value}
    {f19 : Addr} {od19 an19 : Option Addr} {sl19 : Array (Option Value)} {oc19 kV19 dc19 pm19 cd19 ct19 : Value}
    {f20 : Addr} {od20 an20 : Option Addr} {sl20 : Array (Option Value)} {oc20 kV20 dc20 pm20 cd20 ct20 : Value}
    {f21 : Addr} {od21 an21 : Option Addr} {sl21 : Array (Option Value)} {oc21 kV21 dc21 pm21 cd21 ct21 : Value}
    {f22 : Addr} {od22 an22 : Option Addr} {sl22 : Array (Option Value)} {oc22 kV22 dc22 pm22 cd22 ct22 : Value}
    {f23 : Addr} {od23 an23 : Option Addr} {sl23 : Array (Option Value)} {oc23 kV23 dc23 pm23 cd23 ct23 : Value}
    {f24 : Addr} {od24 an24 : Option Addr} {sl24 : Array (Option Value)} {oc24 kV24 dc24 pm24 cd24 ct24 : Value}
    {f25 : Addr} {od25 an25 : Option Addr} {sl25 : Array (Option Value)} {oc25 kV25 dc25 pm25 cd25 ct25 : Value}
    {f26 : Addr} {od26 an26 : Option Addr} {sl26 : Array (Option Value)} {oc26 kV26 dc26 pm26 cd26 ct26 : Value}
    {f27 : Addr} {od27 an27 : Option Addr} {sl27 : Array (Option Value)} {oc27 kV27 dc27 pm27 cd27 ct27 : Value}
    {f28 : Addr} {od28 an28 : Option Addr} {sl28 : Array (Option Value)} {oc28 kV28 dc28 pm28 cd28 ct28 : Value}
    {f29 : Addr} {od29 an29 : Option Addr} {sl29 : Array (Option Value)} {oc29 kV29 dc29 pm29 cd29 ct29 : Value}
    {f30 : Addr} {od30 an30 : Option Addr} {sl30 : Array (Option Value)} {oc30 kV30 dc30 pm30 cd30 ct30 : Value}
    {f31 : Addr} {od31 an31 : Option Addr} {sl31 : Array (Option Value)} {oc31 kV31 dc31 pm31 cd31 ct31 : Value}
    {y_LETTERS : Tok}
    {y_END : Tok}
    {y_SWITCH : Tok}
    {t_SIDES : Addr} {o_SIDES : Option Addr} {it_SIDES : Array Value} {n_SIDES : Nat} {sl_SIDES : Array (Option Value)}
    {y_MOST_LETTERS : Tok}
    {y_MOST_DEEP : Tok}
    {y_MOST_THINGS : Tok}
    {y_MOST_MARBLES : Tok}
    {y_MOST_NAMES : Tok}
    (a0 : PySem.W.nsIn K mainGlobals "is_whole" = some (some (.ref f0))) (l0 : K.lookup f0 = some ⟨oc0, od0, .func (PySem.W.fnOf "is_whole" "is_whole" (defArgs (topS 6)) (defBody (topS 6)) (defScope (topS 6)) .none kV0 dc0 pm0 an0 cd0 ct0), sl0⟩) (c0 : PySem.W.codeIn K cd0 "is_whole" = true) (k0 : PySem.W.keepIn K (.ref f0) = true)
    (a1 : PySem.W.nsIn K mainGlobals "is_name" = some (some (.ref f1))) (l1 : K.lookup f1 = some ⟨oc1, od1, .func (PySem.W.fnOf "is_name" "is_name" (defArgs (topS 16)) (defBody (topS 16)) (defScope (topS 16)) .none kV1 dc1 pm1 an1 cd1 ct1), sl1⟩) (c1 : PySem.W.codeIn K cd1 "is_name" = true) (k1 : PySem.W.keepIn K (.ref f1) = true)
    (a2 : PySem.W.nsIn K mainGlobals "_is_within" = some (some (.ref f2))) (l2 : K.lookup f2 = some ⟨oc2, od2, .func (PySem.W.fnOf "_is_within" "_is_within" (defArgs (topS 17)) (defBody (topS 17)) (defScope (topS 17)) .none kV2 dc2 pm2 an2 cd2 ct2), sl2⟩) (c2 : PySem.W.codeIn K cd2 "_is_within" = true) (k2 : PySem.W.keepIn K (.ref f2) = true)
    (a3 : PySem.W.nsIn K mainGlobals "things_in" = some (some (.ref f3))) (l3 : K.lookup f3 = some ⟨oc3, od3, .func (PySem.W.fnOf "things_in" "things_in" (defArgs (topS 18)) (defBody (topS 18)) (defScope (topS 18)) .none kV3 dc3 pm3 an3 cd3 ct3), sl3⟩) (c3 : PySem.W.codeIn K cd3 "things_in" = true) (k3 : PySem.W.keepIn K (.ref f3) = true)
    (a4 : PySem.W.nsIn K mainGlobals "is_tree" = some (some (.ref f4))) (l4 : K.lookup f4 = some ⟨oc4, od4, .func (PySem.W.fnOf "is_tree" "is_tree" (defArgs (topS 19)) (defBody (topS 19)) (defScope (topS 19)) .none kV4 dc4 pm4 an4 cd4 ct4), sl4⟩) (c4 : PySem.W.codeIn K cd4 "is_tree" = true) (k4 : PySem.W.keepIn K (.ref f4) = true)
    (a5 : PySem.W.nsIn K mainGlobals "check_tree" = some (some (.ref f5))) (l5 : K.lookup f5 = some ⟨oc5, od5, .func (PySem.W.fnOf "check_tree" "check_tree" (defArgs (topS 20)) (defBody (topS 20)) (defScope (topS 20)) .none kV5 dc5 pm5 an5 cd5 ct5), sl5⟩) (c5 : PySem.W.codeIn K cd5 "check_tree" = true) (k5 : PySem.W.keepIn K (.ref f5) = true)
    (a6 : PySem.W.nsIn K mainGlobals "_drop" = some (some (.ref f6))) (l6 : K.lookup f6 = some ⟨oc6, od6, .func (PySem.W.fnOf "_drop" "_drop" (defArgs (topS 21)) (defBody (topS 21)) (defScope (topS 21)) .none kV6 dc6 pm6 an6 cd6 ct6), sl6⟩) (c6 : PySem.W.codeIn K cd6 "_drop" = true) (k6 : PySem.W.keepIn K (.ref f6) = true)
    (a7 : PySem.W.nsIn K mainGlobals "tree_ends" = some (some (.ref f7))) (l7 : K.lookup f7 = some ⟨oc7, od7, .func (PySem.W.fnOf "tree_ends" "tree_ends" (defArgs (topS 22)) (defBody (topS 22)) (defScope (topS 22)) .none kV7 dc7 pm7 an7 cd7 ct7), sl7⟩) (c7 : PySem.W.codeIn K cd7 "tree_ends" = true) (k7 : PySem.W.keepIn K (.ref f7) = true)
    (a8 : PySem.W.nsIn K mainGlobals "_size" = some (some (.ref f8))) (l8 : K.lookup f8 = some ⟨oc8, od8, .func (PySem.W.fnOf "_size" "_size" (defArgs (topS 23)) (defBody (topS 23)) (defScope (topS 23)) .none kV8 dc8 pm8 an8 cd8 ct8), sl8⟩) (c8 : PySem.W.codeIn K cd8 "_size" = true) (k8 : PySem.W.keepIn K (.ref f8) = true)
    (a9 : PySem.W.nsIn K mainGlobals "tree_size" = some (some (.ref f9))) (l9 : K.lookup f9 = some ⟨oc9, od9, .func (PySem.W.fnOf "tree_size" "tree_size" (defArgs (topS 24)) (defBody (topS 24)) (defScope (topS 24)) .none kV9 dc9 pm9 an9 cd9 ct9), sl9⟩) (c9 : PySem.W.codeIn K cd9 "tree_size" = true) (k9 : PySem.W.keepIn K (.ref f9) = true)
    (a10 : PySem.W.nsIn K mainGlobals "deep_in" = some (some (.ref f10))) (l10 : K.lookup f10 = some ⟨oc10, od10, .func (PySem.W.fnOf "deep_in" "deep_in" (defArgs (topS 25)) (defBody (topS 25)) (defScope (topS 25)) .none kV10 dc10 pm10 an10 cd10 ct10), sl10⟩) (c10 : PySem.W.codeIn K cd10 "deep_in" = true) (k10 : PySem.W.keepIn K (.ref f10) = true)
    (a11 : PySem.W.nsIn K mainGlobals "again_in" = some (some (.ref f11))) (l11 : K.lookup f11 = some ⟨oc11, od11, .func (PySem.W.fnOf "again_in" "again_in" (defArgs (topS 26)) (defBody (topS 26)) (defScope (topS 26)) .none kV11 dc11 pm11 an11 cd11 ct11), sl11⟩) (c11 : PySem.W.codeIn K cd11 "again_in" = true) (k11 : PySem.W.keepIn K (.ref f11) = true)
    (a12 : PySem.W.nsIn K mainGlobals "tree_again" = some (some (.ref f12))) (l12 : K.lookup f12 = some ⟨oc12, od12, .func (PySem.W.fnOf "tree_again" "tree_again" (defArgs (topS 27)) (defBody (topS 27)) (defScope (topS 27)) .none kV12 dc12 pm12 an12 cd12 ct12), sl12⟩) (c12 : PySem.W.codeIn K cd12 "tree_again" = true) (k12 : PySem.W.keepIn K (.ref f12) = true)
    (a13 : PySem.W.nsIn K mainGlobals "name_of" = some (some (.ref f13))) (l13 : K.lookup f13 = some ⟨oc13, od13, .func (PySem.W.fnOf "name_of" "name_of" (defArgs (topS 28)) (defBody (topS 28)) (defScope (topS 28)) .none kV13 dc13 pm13 an13 cd13 ct13), sl13⟩) (c13 : PySem.W.codeIn K cd13 "name_of" = true) (k13 : PySem.W.keepIn K (.ref f13) = true)
    (a14 : PySem.W.nsIn K mainGlobals "_check_names" = some (some (.ref f14))) (l14 : K.lookup f14 = some ⟨oc14, od14, .func (PySem.W.fnOf "_check_names" "_check_names" (defArgs (topS 31)) (defBody (topS 31)) (defScope (topS 31)) .none kV14 dc14 pm14 an14 cd14 ct14), sl14⟩) (c14 : PySem.W.codeIn K cd14 "_check_names" = true) (k14 : PySem.W.keepIn K (.ref f14) = true)
    (a15 : PySem.W.nsIn K mainGlobals "_built" = some (some (.ref f15))) (l15 : K.lookup f15 = some ⟨oc15, od15, .func (PySem.W.fnOf "_built" "_built" (defArgs (topS 32)) (defBody (topS 32)) (defScope (topS 32)) .none kV15 dc15 pm15 an15 cd15 ct15), sl15⟩) (c15 : PySem.W.codeIn K cd15 "_built" = true) (k15 : PySem.W.keepIn K (.ref f15) = true)
    (a16 : PySem.W.nsIn K mainGlobals "_needed" = some (some (.ref f16))) (l16 : K.lookup f16 = some ⟨oc16, od16, .func (PySem.W.fnOf "_needed" "_needed" (defArgs (topS 33)) (defBody (topS 33)) (defScope (topS 33)) .none kV16 dc16 pm16 an16 cd16 ct16), sl16⟩) (c16 : PySem.W.codeIn K cd16 "_needed" = true) (k16 : PySem.W.keepIn K (.ref f16) = true)
    (a17 : PySem.W.nsIn K mainGlobals "switches_for" = some (some (.ref f17))) (l17 : K.lookup f17 = some ⟨oc17, od17, .func (PySem.W.fnOf "switches_for" "switches_for" (defArgs (topS 34)) (defBody (topS 34)) (defScope (topS 34)) .none kV17 dc17 pm17 an17 cd17 ct17), sl17⟩) (c17 : PySem.W.codeIn K cd17 "switches_for" = true) (k17 : PySem.W.keepIn K (.ref f17) = true)
    (a18 : PySem.W.nsIn K mainGlobals "_all_names" = some (some (.ref f18))) (l18 : K.lookup f18 = some ⟨oc18, od18, .func (PySem.W.fnOf "_all_names" "_all_names" (defArgs (topS 35)) (defBody (topS 35)) (defScope (topS 35)) .none kV18 dc18 pm18 an18 cd18 ct18), sl18⟩) (c18 : PySem.W.codeIn K cd18 "_all_names" = true) (k18 : PySem.W.keepIn K (.ref f18) = true)
    (a19 : PySem.W.nsIn K mainGlobals "_first_unlike" = some (some (.ref f19))) (l19 : K.lookup f19 = some ⟨oc19, od19, .func (PySem.W.fnOf "_first_unlike" "_first_unlike" (defArgs (topS 36)) (defBody (topS 36)) (defScope (topS 36)) .none kV19 dc19 pm19 an19 cd19 ct19), sl19⟩) (c19 : PySem.W.codeIn K cd19 "_first_unlike" = true) (k19 : PySem.W.keepIn K (.ref f19) = true)
    (a20 : PySem.W.nsIn K mainGlobals "first_unlike" = some (some (.ref f20))) (l20 : K.lookup f20 = some ⟨oc20, od20, .func (PySem.W.fnOf "first_unlike" "first_unlike" (defArgs (topS 37)) (defBody (topS 37)) (defScope (topS 37)) .none kV20 dc20 pm20 an20 cd20 ct20), sl20⟩) (c20 : PySem.W.codeIn K cd20 "first_unlike" = true) (k20 : PySem.W.keepIn K (.ref f20) = true)
    (a21 : PySem.W.nsIn K mainGlobals "same_for_ever" = some (some (.ref f21))) (l21 : K.lookup f21 = some ⟨oc21, od21, .func (PySem.W.fnOf "same_for_ever" "same_for_ever" (defArgs (topS 38)) (defBody (topS 38)) (defScope (topS 38)) .none kV21 dc21 pm21 an21 cd21 ct21), sl21⟩) (c21 : PySem.W.codeIn K cd21 "same_for_ever" = true) (k21 : PySem.W.keepIn K (.ref f21) = true)
    (a22 : PySem.W.nsIn K mainGlobals "least_tree" = some (some (.ref f22))) (l22 : K.lookup f22 = some ⟨oc22, od22, .func (PySem.W.fnOf "least_tree" "least_tree" (defArgs (topS 39)) (defBody (topS 39)) (defScope (topS 39)) .none kV22 dc22 pm22 an22 cd22 ct22), sl22⟩) (c22 : PySem.W.codeIn K cd22 "least_tree" = true) (k22 : PySem.W.keepIn K (.ref f22) = true)
    (a23 : PySem.W.nsIn K mainGlobals "_law_draws" = some (some (.ref f23))) (l23 : K.lookup f23 = some ⟨oc23, od23, .func (PySem.W.fnOf "_law_draws" "_law_draws" (defArgs (topS 41)) (defBody (topS 41)) (defScope (topS 41)) .none kV23 dc23 pm23 an23 cd23 ct23), sl23⟩) (c23 : PySem.W.codeIn K cd23 "_law_draws" = true) (k23 : PySem.W.keepIn K (.ref f23) = true)
    (a24 : PySem.W.nsIn K mainGlobals "_law_tree" = some (some (.ref f24))) (l24 : K.lookup f24 = some ⟨oc24, od24, .func (PySem.W.fnOf "_law_tree" "_law_tree" (defArgs (topS 42)) (defBody (topS 42)) (defScope (topS 42)) .none kV24 dc24 pm24 an24 cd24 ct24), sl24⟩) (c24 : PySem.W.codeIn K cd24 "_law_tree" = true) (k24 : PySem.W.keepIn K (.ref f24) = true)
    (a25 : PySem.W.nsIn K mainGlobals "_law_drop" = some (some (.ref f25))) (l25 : K.lookup f25 = some ⟨oc25, od25, .func (PySem.W.fnOf "_law_drop" "_law_drop" (defArgs (topS 43)) (defBody (topS 43)) (defScope (topS 43)) .none kV25 dc25 pm25 an25 cd25 ct25), sl25⟩) (c25 : PySem.W.codeIn K cd25 "_law_drop" = true) (k25 : PySem.W.keepIn K (.ref f25) = true)
    (a26 : PySem.W.nsIn K mainGlobals "_law_names" = some (some (.ref f26))) (l26 : K.lookup f26 = some ⟨oc26, od26, .func (PySem.W.fnOf "_law_names" "_law_names" (defArgs (topS 44)) (defBody (topS 44)) (defScope (topS 44)) .none kV26 dc26 pm26 an26 cd26 ct26), sl26⟩) (c26 : PySem.W.codeIn K cd26 "_law_names" = true) (k26 : PySem.W.keepIn K (.ref f26) = true)
    (a27 : PySem.W.nsIn K mainGlobals "_law_turned" = some (some (.ref f27))) (l27 : K.lookup f27 = some ⟨oc27, od27, .func (PySem.W.fnOf "_law_turned" "_law_turned" (defArgs (topS 45)) (defBody (topS 45)) (defScope (topS 45)) .none kV27 dc27 pm27 an27 cd27 ct27), sl27⟩) (c27 : PySem.W.codeIn K cd27 "_law_turned" = true) (k27 : PySem.W.keepIn K (.ref f27) = true)
    (a28 : PySem.W.nsIn K mainGlobals "_law_doubled" = some (some (.ref f28))) (l28 : K.lookup f28 = some ⟨oc28, od28, .func (PySem.W.fnOf "_law_doubled" "_law_doubled" (defArgs (topS 46)) (defBody (topS 46)) (defScope (topS 46)) .none kV28 dc28 pm28 an28 cd28 ct28), sl28⟩) (c28 : PySem.W.codeIn K cd28 "_law_doubled" = true) (k28 : PySem.W.keepIn K (.ref f28) = true)
    (a29 : PySem.W.nsIn K mainGlobals "_law_changed" = some (some (.ref f29))) (l29 : K.lookup f29 = some ⟨oc29, od29, .func (PySem.W.fnOf "_law_changed" "_law_changed" (defArgs (topS 47)) (defBody (topS 47)) (defScope (topS 47)) .none kV29 dc29 pm29 an29 cd29 ct29), sl29⟩) (c29 : PySem.W.codeIn K cd29 "_law_changed" = true) (k29 : PySem.W.keepIn K (.ref f29) = true)
    (a30 : PySem.W.nsIn K mainGlobals "_law_lefts" = some (some (.ref f30))) (l30 : K.lookup f30 = some ⟨oc30, od30, .func (PySem.W.fnOf "_law_lefts" "_law_lefts" (defArgs (topS 48)) (defBody (topS 48)) (defScope (topS 48)) .none kV30 dc30 pm30 an30 cd30 ct30), sl30⟩) (c30 : PySem.W.codeIn K cd30 "_law_lefts" = true) (k30 : PySem.W.keepIn K (.ref f30) = true)
    (a31 : PySem.W.nsIn K mainGlobals "law" = some (some (.ref f31))) (l31 : K.lookup f31 = some ⟨oc31, od31, .func (PySem.W.fnOf "law" "law" (defArgs (topS 49)) (defBody (topS 49)) (defScope (topS 49)) .none kV31 dc31 pm31 an31 cd31 ct31), sl31⟩) (c31 : PySem.W.codeIn K cd31 "law" = true) (k31 : PySem.W.keepIn K (.ref f31) = true)
    (z_abs : PySem.W.nsIn K mainGlobals "abs" = some none)
    (z_all : PySem.W.nsIn K mainGlobals "all" = some none)
    (z_bool : PySem.W.nsIn K mainGlobals "bool" = some none)
    (z_int : PySem.W.nsIn K mainGlobals "int" = some none)
    (z_isinstance : PySem.W.nsIn K mainGlobals "isinstance" = some none)
    (z_len : PySem.W.nsIn K mainGlobals "len" = some none)
    (z_max : PySem.W.nsIn K mainGlobals "max" = some none)
    (z_range : PySem.W.nsIn K mainGlobals "range" = some none)
    (z_str : PySem.W.nsIn K mainGlobals "str" = some none)
    (z_tuple : PySem.W.nsIn K mainGlobals "tuple" = some none)
    (g_LETTERS : PySem.W.nsIn K mainGlobals "LETTERS" = some (some (.str "abcdefghijklmnopqrstuvwxyz" y_LETTERS)))
    (g_END : PySem.W.nsIn K mainGlobals "END" = some (some (.str "end" y_END)))
    (g_SWITCH : PySem.W.nsIn K mainGlobals "SWITCH" = some (some (.str "switch" y_SWITCH)))
    (g_SIDES : PySem.W.nsIn K mainGlobals "SIDES" = some (some (.ref t_SIDES))) (h_SIDES : K.lookup t_SIDES = some ⟨.type "tuple", o_SIDES, .seq it_SIDES n_SIDES, sl_SIDES⟩) (z_SIDES : it_SIDES.size ≤ sizeLine) (v_SIDES : Vals [V.str "L", V.str "R"] it_SIDES.toList)
    (g_MOST_LETTERS : PySem.W.nsIn K mainGlobals "MOST_LETTERS" = some (some (.int 8 y_MOST_LETTERS)))
    (g_MOST_DEEP : PySem.W.nsIn K mainGlobals "MOST_DEEP" = some (some (.int 8 y_MOST_DEEP)))
    (g_MOST_THINGS : PySem.W.nsIn K mainGlobals "MOST_THINGS" = some (some (.int 200 y_MOST_THINGS)))
    (g_MOST_MARBLES : PySem.W.nsIn K mainGlobals "MOST_MARBLES" = some (some (.int 1000 y_MOST_MARBLES)))
    (g_MOST_NAMES : PySem.W.nsIn K mainGlobals "MOST_NAMES" = some (some (.int 64 y_MOST_NAMES))) :
    ∃ T : Txt w K mg, T.f_law = fa ∧ ∀ (s : Shared) (v : Value), BindsTo s T.d_law ⟨[v], []⟩ [("script", v)] := by
  have e := hfa.symm.trans (PySem.W.mg_of X G a31)
  cases e
  exact ⟨{ f_is_whole := f0, d_is_whole := _, m_is_whole := PySem.W.mg_of X G a0, F_is_whole := fun_mk (st := topS 6) l0 c0 k0, b_is_whole := (fun_mk (st := topS 6) l0 c0 k0).binds (ps := ["value", "least", "most"]) (fun _ _ _ _ _ _ us hl => match us, hl with | [_, _, _], _ => rfl), f_is_name := f1, d_is_name := _, m_is_name := PySem.W.mg_of X G a1, F_is_name := fun_mk (st := topS 16) l1 c1 k1, b_is_name := (fun_mk (st := topS 16) l1 c1 k1).binds (ps := ["value"]) (fun _ _ _ _ _ _ us hl => match us, hl with | [_], _ => rfl), f__is_within := f2, d__is_within := _, m__is_within := PySem.W.mg_of X G a2, F__is_within := fun_mk (st := topS 17) l2 c2 k2, b__is_within := (fun_mk (st := topS 17) l2 c2 k2).binds (ps := ["value", "room"]) (fun _ _ _ _ _ _ us hl => match us, hl with | [_, _], _ => rfl), f_things_in := f3, d_things_in := _, m_things_in := PySem.W.mg_of X G a3, F_things_in := fun_mk (st := topS 18) l3 c3 k3, b_things_in := (fun_mk (st := topS 18) l3 c3 k3).binds (ps := ["tree"]) (fun _ _ _ _ _ _ us hl => match us, hl with | [_], _ => rfl), f_is_tree := f4, d_is_tree := _, m_is_tree := PySem.W.mg_of X G a4, F_is_tree := fun_mk (st := topS 19) l4 c4 k4, b_is_tree := (fun_mk (st := topS 19) l4 c4 k4).binds (ps := ["value"]) (fun _ _ _ _ _ _ us hl => match us, hl with | [_], _ => rfl), f_check_tree := f5, d_check_tree := _, m_check_tree := PySem.W.mg_of X G a5, F_check_tree := fun_mk (st := topS 20) l5 c5 k5, b_check_tree := (fun_mk (st := topS 20) l5 c5 k5).binds (ps := ["tree"]) (fun _ _ _ _ _ _ us hl => match us, hl with | [_], _ => rfl), f__drop := f6, d__drop := _, m__drop := PySem.W.mg_of X G a6, F__drop := fun_mk (st := topS 21) l6 c6 k6, b__drop := (fun_mk (st := topS 21) l6 c6 k6).binds (ps := ["tree"]) (fun _ _ _ _ _ _ us hl => match us, hl with | [_], _ => rfl), f_tree_ends := f7, d_tree_ends := _, m_tree_ends := PySem.W.mg_of X G a7, F_tree_ends := fun_mk (st := topS 22) l7 c7 k7, b_tree_ends := (fun_mk (st := topS 22) l7 c7 k7).binds (ps := ["tree", "many"]) (fun _ _ _ _ _ _ us hl => match us, hl with | [_, _], _ => rfl), f__size := f8, d__size := _, m__size := PySem.W.mg_of X G a8, F__size := fun_mk (st := topS 23) l8 c8 k8, b__size := (fun_mk (st := topS 23) l8 c8 k8).binds (ps := ["tree"]) (fun _ _ _ _ _ _ us hl => match us, hl with | [_], _ => rfl), f_tree_size := f9, d_tree_size := _, m_tree_size := PySem.W.mg_of X G a9, F_tree_size := fun_mk (st := topS 24) l9 c9 k9, b_tree_size := (fun_mk (st := topS 24) l9 c9 k9).binds (ps := ["tree"]) (fun _ _ _ _ _ _ us hl => match us, hl with | [_], _ => rfl), f_deep_in := f10, d_deep_in := _, m_deep_in := PySem.W.mg_of X G a10, F_deep_in := fun_mk (st := topS 25) l10 c10 k10, b_deep_in := (fun_mk (st := topS 25) l10 c10 k10).binds (ps := ["tree"]) (fun _ _ _ _ _ _ us hl => match us, hl with | [_], _ => rfl), f_again_in := f11, d_again_in := _, m_again_in := PySem.W.mg_of X G a11, F_again_in := fun_mk (st := topS 26) l11 c11 k11, b_again_in := (fun_mk (st := topS 26) l11 c11 k11).binds (ps := ["tree"]) (fun _ _ _ _ _ _ us hl => match us, hl with | [_], _ => rfl), f_tree_again := f12, d_tree_again := _, m_tree_again := PySem.W.mg_of X G a12, F_tree_again := fun_mk (st := topS 27) l12 c12 k12, b_tree_again := (fun_mk (st := topS 27) l12 c12 k12).binds (ps := ["tree"]) (fun _ _ _ _ _ _ us hl => match us, hl with | [_], _ => rfl), f_name_of := f13, d_name_of := _, m_name_of := PySem.W.mg_of X G a13, F_name_of := fun_mk (st := topS 28) l13 c13 k13, b_name_of := (fun_mk (st := topS 28) l13 c13 k13).binds (ps := ["tree", "number"]) (fun _ _ _ _ _ _ us hl => match us, hl with | [_, _], _ => rfl), f__check_names := f14, d__check_names := _, m__check_names := PySem.W.mg_of X G a14, F__check_names := fun_mk (st := topS 31) l14 c14 k14, b__check_names := (fun_mk (st := topS 31) l14 c14 k14).binds (ps := ["names"]) (fun _ _ _ _ _ _ us hl => match us, hl with | [_], _ => rfl), f__built := f15, d__built := _, m__built := PySem.W.mg_of X G a15, F__built := fun_mk (st := topS 32) l15 c15 k15, b__built := (fun_mk (st := topS 32) l15 c15 k15).binds (ps := ["names"]) (fun _ _ _ _ _ _ us hl => match us, hl with | [_], _ => rfl), f__needed := f16, d__needed := _, m__needed := PySem.W.mg_of X G a16, F__needed := fun_mk (st := topS 33) l16 c16 k16, b__needed := (fun_mk (st := topS 33) l16 c16 k16).binds (ps := ["names"]) (fun _ _ _ _ _ _ us hl => match us, hl with | [_], _ => rfl), f_switches_for := f17, d_switches_for := _, m_switches_for := PySem.W.mg_of X G a17, F_switches_for := fun_mk (st := topS 34) l17 c17 k17, b_switches_for := (fun_mk (st := topS 34) l17 c17 k17).binds (ps := ["names"]) (fun _ _ _ _ _ _ us hl => match us, hl with | [_], _ => rfl), f__all_names := f18, d__all_names := _, m__all_names := PySem.W.mg_of X G a18, F__all_names := fun_mk (st := topS 35) l18 c18 k18, b__all_names := (fun_mk (st := topS 35) l18 c18 k18).binds (ps := ["tree", "many"]) (fun _ _ _ _ _ _ us hl => match us, hl with | [_, _], _ => rfl), f__first_unlike := f19, d__first_unlike := _, m__first_unlike := PySem.W.mg_of X G a19, F__first_unlike := fun_mk (st := topS 36) l19 c19 k19, b__first_unlike := (fun_mk (st := topS 36) l19 c19 k19).binds (ps := ["tree", "other"]) (fun _ _ _ _ _ _ us hl => match us, hl with | [_, _], _ => rfl), f_first_unlike := f20, d_first_unlike := _, m_first_unlike := PySem.W.mg_of X G a20, F_first_unlike := fun_mk (st := topS 37) l20 c20 k20, b_first_unlike := (fun_mk (st := topS 37) l20 c20 k20).binds (ps := ["tree", "other"]) (fun _ _ _ _ _ _ us hl => match us, hl with | [_, _], _ => rfl), f_same_for_ever := f21, d_same_for_ever := _, m_same_for_ever := PySem.W.mg_of X G a21, F_same_for_ever := fun_mk (st := topS 38) l21 c21 k21, b_same_for_ever := (fun_mk (st := topS 38) l21 c21 k21).binds (ps := ["tree", "other"]) (fun _ _ _ _ _ _ us hl => match us, hl with | [_, _], _ => rfl), f_least_tree := f22, d_least_tree := _, m_least_tree := PySem.W.mg_of X G a22, F_least_tree := fun_mk (st := topS 39) l22 c22 k22, b_least_tree := (fun_mk (st := topS 39) l22 c22 k22).binds (ps := ["tree"]) (fun _ _ _ _ _ _ us hl => match us, hl with | [_], _ => rfl), f__law_draws := f23, d__law_draws := _, m__law_draws := PySem.W.mg_of X G a23, F__law_draws := fun_mk (st := topS 41) l23 c23 k23, b__law_draws := (fun_mk (st := topS 41) l23 c23 k23).binds (ps := ["script", "many"]) (fun _ _ _ _ _ _ us hl => match us, hl with | [_, _], _ => rfl), f__law_tree := f24, d__law_tree := _, m__law_tree := PySem.W.mg_of X G a24, F__law_tree := fun_mk (st := topS 42) l24 c24 k24, b__law_tree := (fun_mk (st := topS 42) l24 c24 k24).binds (ps := ["draws", "at", "deep"]) (fun _ _ _ _ _ _ us hl => match us, hl with | [_, _, _], _ => rfl), f__law_drop := f25, d__law_drop := _, m__law_drop := PySem.W.mg_of X G a25, F__law_drop := fun_mk (st := topS 43) l25 c25 k25, b__law_drop := (fun_mk (st := topS 43) l25 c25 k25).binds (ps := ["tree"]) (fun _ _ _ _ _ _ us hl => match us, hl with | [_], _ => rfl), f__law_names := f26, d__law_names := _, m__law_names := PySem.W.mg_of X G a26, F__law_names := fun_mk (st := topS 44) l26 c26 k26, b__law_names := (fun_mk (st := topS 44) l26 c26 k26).binds (ps := ["tree", "many"]) (fun _ _ _ _ _ _ us hl => match us, hl with | [_, _], _ => rfl), f__law_turned := f27, d__law_turned := _, m__law_turned := PySem.W.mg_of X G a27, F__law_turned := fun_mk (st := topS 45) l27 c27 k27, b__law_turned := (fun_mk (st := topS 45) l27 c27 k27).binds (ps := ["tree"]) (fun _ _ _ _ _ _ us hl => match us, hl with | [_], _ => rfl), f__law_doubled := f28, d__law_doubled := _, m__law_doubled := PySem.W.mg_of X G a28, F__law_doubled := fun_mk (st := topS 46) l28 c28 k28, b__law_doubled := (fun_mk (st := topS 46) l28 c28 k28).binds (ps := ["tree"]) (fun _ _ _ _ _ _ us hl => match us, hl with | [_], _ => rfl), f__law_changed := f29, d__law_changed := _, m__law_changed := PySem.W.mg_of X G a29, F__law_changed := fun_mk (st := topS 47) l29 c29 k29, b__law_changed := (fun_mk (st := topS 47) l29 c29 k29).binds (ps := ["tree"]) (fun _ _ _ _ _ _ us hl => match us, hl with | [_], _ => rfl), f__law_lefts := f30, d__law_lefts := _, m__law_lefts := PySem.W.mg_of X G a30, F__law_lefts := fun_mk (st := topS 48) l30 c30 k30, b__law_lefts := (fun_mk (st := topS 48) l30 c30 k30).binds (ps := ["tree"]) (fun _ _ _ _ _ _ us hl => match us, hl with | [_], _ => rfl), f_law := fa, d_law := _, m_law := PySem.W.mg_of X G a31, F_law := fun_mk (st := topS 49) l31 c31 k31, b_law := (fun_mk (st := topS 49) l31 c31 k31).binds (ps := ["script"]) (fun _ _ _ _ _ _ us hl => match us, hl with | [_], _ => rfl), z_abs := PySem.W.mg_none_of X G z_abs, z_all := PySem.W.mg_none_of X G z_all, z_bool := PySem.W.mg_none_of X G z_bool, z_int := PySem.W.mg_none_of X G z_int, z_isinstance := PySem.W.mg_none_of X G z_isinstance, z_len := PySem.W.mg_none_of X G z_len, z_max := PySem.W.mg_none_of X G z_max, z_range := PySem.W.mg_none_of X G z_range, z_str := PySem.W.mg_none_of X G z_str, z_tuple := PySem.W.mg_none_of X G z_tuple, c_LETTERS := ⟨V.str "abcdefghijklmnopqrstuvwxyz", _, PySem.W.mg_of X G g_LETTERS, ⟨_, rfl⟩, .str _⟩, c_END := ⟨V.str "end", _, PySem.W.mg_of X G g_END, ⟨_, rfl⟩, .str _⟩, c_SWITCH := ⟨V.str "switch", _, PySem.W.mg_of X G g_SWITCH, ⟨_, rfl⟩, .str _⟩, c_SIDES := ⟨.ref t_SIDES, _, PySem.W.mg_of X G g_SIDES, rfl, .tup (xs := [V.str "L", V.str "R"]) (gc_tup h_SIDES rfl rfl z_SIDES v_SIDES) (.cons (.str _) (.cons (.str _) .nil))⟩, c_MOST_LETTERS := ⟨V.int 8, _, PySem.W.mg_of X G g_MOST_LETTERS, ⟨_, rfl⟩, .int _⟩, c_MOST_DEEP := ⟨V.int 8, _, PySem.W.mg_of X G g_MOST_DEEP, ⟨_, rfl⟩, .int _⟩, c_MOST_THINGS := ⟨V.int 200, _, PySem.W.mg_of X G g_MOST_THINGS, ⟨_, rfl⟩, .int _⟩, c_MOST_MARBLES := ⟨V.int 1000, _, PySem.W.mg_of X G g_MOST_MARBLES, ⟨_, rfl⟩, .int _⟩, c_MOST_NAMES := ⟨V.int 64, _, PySem.W.mg_of X G g_MOST_NAMES, ⟨_, rfl⟩, .int _⟩ }, rfl, fun s v => .of_eq rfl⟩
end PQ

namespace PQ
open PySem PySem.Spec PyProof.Rows L2

/-! ## the plain law -/
inductive Tr where
  | e (n : Str)
  | s (l : Bool) (a b : Tr)
namespace Tr
def d : Tr → D
  | .e n => .tuple [.str "end", .str n]
  | .s l a b => .tuple [.str "switch", .str (if l = true then "L" else "R"), a.d, b.d]
def deep : Tr → Nat
  | .e _ => 0
  | .s _ a b => 1 + max a.deep b.deep
def things : Tr → Nat
  | .e _ => 1
  | .s _ a b => 1 + a.things + b.things
def names (P : Str → Prop) : Tr → Prop
  | .e n => P n
  | .s _ a b => a.names P ∧ b.names P
/-- where the marble k ends -/
def at' : Tr → Nat → Str
  | .e n, _ => n
  | .s l a b, k => if l = decide (k % 2 = 0) then a.at' (k / 2) else b.at' (k / 2)
/-- a marble falls -/
def drop : Tr → Tr × Str
  | .e n => (.e n, n)
  | .s true a b => (.s false a.drop.1 b, a.drop.2)
  | .s false a b => (.s true a b.drop.1, b.drop.2)
theorem at_drop : ∀ t : Tr, t.drop.2 = t.at' 0 ∧ ∀ k, t.drop.1.at' k = t.at' (k + 1)
  | .e n => ⟨rfl, fun _ => rfl⟩
  | .s true a b => by
    obtain ⟨h1, h2⟩ := at_drop a
    refine ⟨by simpa [drop, at'] using h1, fun k => ?_⟩
    simp only [drop, at', h2]
    by_cases hk : k % 2 = 0
    · have e : (k + 1) % 2 ≠ 0 := by omega
      have e2 : (k + 1) / 2 = k / 2 := by omega
      simp [hk, e, e2]
    · have e : (k + 1) % 2 = 0 := by omega
      have e2 : (k + 1) / 2 = k / 2 + 1 := by omega
      simp [hk, e, e2]
  | .s false a b => by
    obtain ⟨h1, h2⟩ := at_drop b
    refine ⟨by simpa [drop, at'] using h1, fun k => ?_⟩
    simp only [drop, at', h2]
    by_cases hk : k % 2 = 0
    · have e : (k + 1) % 2 ≠ 0 := by omega
      have e2 : (k + 1) / 2 = k / 2 := by omega
      simp [hk, e, e2]
    · have e : (k + 1) % 2 = 0 := by omega
      have e2 : (k + 1) / 2 = k / 2 + 1 := by omega
      simp [hk, e, e2]
theorem deep_drop : ∀ t : Tr, t.drop.1.deep = t.deep
  | .e n => rfl
  | .s true a b => by simp [drop, deep, deep_drop a]
  | .s false a b => by simp [drop, deep, deep_drop b]
theorem period : ∀ (t : Tr) (p k : Nat), t.deep ≤ p → t.at' (k + 2 ^ p) = t.at' k
  | .e n, _, _, _ => rfl
  | .s l a b, 0, k, h => by simp [deep] at h
  | .s l a b, p + 1, k, h => by
    have h : 1 + max a.deep b.deep ≤ p + 1 := h
    have e1 : (k + 2 ^ (p + 1)) % 2 = k % 2 := by rw [Nat.pow_succ]; omega
    have e2 : (k + 2 ^ (p + 1)) / 2 = k / 2 + 2 ^ p := by rw [Nat.pow_succ]; omega
    simp only [at', e1, e2]
    rw [period a p (k / 2) (by omega), period b p (k / 2) (by omega)]
theorem things_le : ∀ t : Tr, t.things + 1 ≤ 2 ^ (t.deep + 1)
  | .e n => by simp [things, deep]
  | .s l a b => by
    have ha := things_le a
    have hb := things_le b
    have h1 : 2 ^ (a.deep + 1) ≤ 2 ^ (max a.deep b.deep + 1) := Nat.pow_le_pow_right (by omega) (by omega)
    have h2 : 2 ^ (b.deep + 1) ≤ 2 ^ (max a.deep b.deep + 1) := Nat.pow_le_pow_right (by omega) (by omega)
    have e : 2 ^ (1 + max a.deep b.deep + 1) = 2 * 2 ^ (max a.deep b.deep + 1) := by
      rw [show 1 + max a.deep b.deep + 1 = (max a.deep b.deep + 1) + 1 by omega, Nat.pow_succ]; omega
    simp only [things, deep, e]
    omega
end Tr
end PQ

namespace PQ
open PySem PySem.Spec PyProof.Rows L2
namespace Tr
def size : Tr → Nat
  | .e _ => 0
  | .s _ a b => 1 + a.size + b.size
/-- all of the first 2^k the same -/
def allSame (k : Nat) (f : Nat → Str) : Bool := (List.range (2 ^ k)).all fun i => f i == f 0
theorem allSame_iff {k : Nat} {f : Nat → Str} : allSame k f = true ↔ ∀ i, i < 2 ^ k → f i = f 0 := by
  unfold allSame
  rw [List.all_eq_true]
  constructor
  · intro h i hi
    exact eq_of_beq (h i (List.mem_range.mpr hi))
  · intro h i hi
    rw [h i (List.mem_range.mp hi)]
    exact beq_self_eq_true _
/-- the least tree -/
def bt : Nat → (Nat → Str) → Tr
  | 0, f => .e (f 0)
  | k + 1, f => if allSame (k + 1) f = true then .e (f 0) else .s true (bt k fun i => f (2 * i)) (bt k fun i => f (2 * i + 1))
theorem bt_deep : ∀ (k : Nat) (f : Nat → Str), (bt k f).deep ≤ k
  | 0, f => Nat.le_refl _
  | k + 1, f => by
    rw [bt]
    split
    · exact Nat.zero_le _
    · have h1 := bt_deep k fun i => f (2 * i)
      have h2 := bt_deep k fun i => f (2 * i + 1)
      show 1 + max _ _ ≤ k + 1
      omega
theorem bt_names (P : Str → Prop) : ∀ (k : Nat) (f : Nat → Str), (∀ i, P (f i)) → (bt k f).names P
  | 0, f, h => h 0
  | k + 1, f, h => by
    rw [bt]
    split
    · exact h 0
    · exact ⟨bt_names P k _ fun i => h _, bt_names P k _ fun i => h _⟩
theorem bt_at : ∀ (k : Nat) (f : Nat → Str) (i : Nat), (bt k f).at' i = f (i % 2 ^ k)
  | 0, f, i => by
    show f 0 = f (i % 1)
    rw [Nat.mod_one]
  | k + 1, f, i => by
    rw [bt]
    have hp : 2 ^ (k + 1) = 2 * 2 ^ k := by rw [Nat.pow_succ]; omega
    split
    · rename_i h
      rw [allSame_iff] at h
      exact (h _ (Nat.mod_lt _ (Nat.two_pow_pos _))).symm
    · have e : i % 2 ^ (k + 1) = 2 * (i / 2 % 2 ^ k) + i % 2 := by rw [hp, Nat.mod_mul]; omega
      rw [e]
      by_cases q : i % 2 = 0
      · simp only [at', q]
        simp
        rw [bt_at k]
      · have q1 : i % 2 = 1 := by omega
        simp only [at', q1]
        simp
        rw [bt_at k]
def lefts : Tr → Prop
  | .e _ => True
  | .s l a b => l = true ∧ a.lefts ∧ b.lefts
theorem bt_lefts : ∀ (k : Nat) (f : Nat → Str), (bt k f).lefts
  | 0, f => trivial
  | k + 1, f => by
    rw [bt]
    split
    · trivial
    · exact ⟨rfl, bt_lefts k _, bt_lefts k _⟩
theorem bt_ext {k : Nat} {f g : Nat → Str} (h : ∀ i, f i = g i) : bt k f = bt k g := by
  have : f = g := funext h
  rw [this]
theorem bt_up : ∀ (k : Nat) (f : Nat → Str), (∀ i, f (i + 2 ^ k) = f i) → bt (k + 1) f = bt k f
  | 0, f, h => by
    have h0 : ∀ i, f i = f 0 := by
      intro i
      induction i with
      | zero => rfl
      | succ i ih => rw [← ih]; exact h i
    show (if allSame (0 + 1) f = true then Tr.e (f 0) else _) = _
    rw [if_pos (allSame_iff.mpr fun i _ => h0 i)]
    rfl
  | k + 1, f, h => by
    have hp : 2 ^ (k + 1) = 2 * 2 ^ k := by rw [Nat.pow_succ]; omega
    have e1 : allSame (k + 1 + 1) f = allSame (k + 1) f := by
      rw [Bool.eq_iff_iff, allSame_iff, allSame_iff]
      constructor
      · intro q i hi
        exact q i (by rw [Nat.pow_succ]; omega)
      · intro q i hi
        by_cases hi2 : i < 2 ^ (k + 1)
        · exact q i hi2
        · have := h (i - 2 ^ (k + 1))
          rw [show i - 2 ^ (k + 1) + 2 ^ (k + 1) = i by omega] at this
          rw [this]
          exact q _ (by rw [Nat.pow_succ] at hi; omega)
    rw [bt, e1]
    rw [show bt (k + 1) f = if allSame (k + 1) f = true then .e (f 0) else .s true (bt k fun i => f (2 * i)) (bt k fun i => f (2 * i + 1)) from rfl]
    rw [bt_up k (fun i => f (2 * i)) (fun i => by show f (2 * (i + 2 ^ k)) = f (2 * i); rw [Nat.mul_add, ← hp, h]), bt_up k (fun i => f (2 * i + 1)) (fun i => by show f (2 * (i + 2 ^ k) + 1) = f (2 * i + 1); rw [show 2 * (i + 2 ^ k) + 1 = (2 * i + 1) + 2 ^ (k + 1) by omega, h])]
theorem per_more {f : Nat → Str} {p : Nat} (h : ∀ i, f (i + p) = f i) : ∀ (q i : Nat), f (i + q * p) = f i
  | 0, i => by simp
  | q + 1, i => by rw [show i + (q + 1) * p = (i + q * p) + p by rw [Nat.add_mul]; omega, h, per_more h q i]
theorem per_pow {f : Nat → Str} {k m : Nat} (hkm : k ≤ m) (h : ∀ i, f (i + 2 ^ k) = f i) : ∀ i, f (i + 2 ^ m) = f i := by
  intro i
  have := per_more h (2 ^ (m - k)) i
  rw [← Nat.pow_add, show m - k + k = m by omega] at this
  exact this
theorem bt_ups {f : Nat → Str} {k : Nat} (h : ∀ i, f (i + 2 ^ k) = f i) : ∀ j : Nat, bt (k + j) f = bt k f
  | 0 => rfl
  | j + 1 => by
    rw [show k + (j + 1) = (k + j) + 1 by omega, bt_up (k + j) f (per_pow (by omega) h), bt_ups h j]
/-- the least tree -/
def least (t : Tr) : Tr := bt t.deep t.at'
theorem least_at (t : Tr) (i : Nat) : t.least.at' i = t.at' i := by
  unfold least
  rw [bt_at]
  have := per_more (f := t.at') (p := 2 ^ t.deep) (fun k => t.period t.deep k (Nat.le_refl _)) (i / 2 ^ t.deep) (i % 2 ^ t.deep)
  rw [← this]
  congr 1
  have := Nat.div_add_mod i (2 ^ t.deep)
  rw [Nat.mul_comm]; omega
theorem least_bt (t : Tr) {k : Nat} (h : t.deep ≤ k) : bt k t.at' = t.least := by
  have := bt_ups (f := t.at') (k := t.deep) (fun k => t.period t.deep k (Nat.le_refl _)) (k - t.deep)
  rw [show t.deep + (k - t.deep) = k by omega] at this
  exact this
theorem least_eq {t u : Tr} (h : ∀ i, t.at' i = u.at' i) : t.least = u.least := by
  rw [← least_bt t (Nat.le_max_left t.deep u.deep), ← least_bt u (Nat.le_max_right t.deep u.deep)]
  exact bt_ext h
theorem least_iff {t u : Tr} : t.least = u.least ↔ ∀ i, t.at' i = u.at' i :=
  ⟨fun h i => by rw [← least_at t, ← least_at u, h], least_eq⟩
theorem least_least (t : Tr) : t.least.least = t.least := least_eq fun i => least_at t i
theorem least_deep (t : Tr) : t.least.deep ≤ t.deep := bt_deep _ _
theorem at_even (l : Bool) (a b : Tr) (i : Nat) : (Tr.s l a b).at' (2 * i) = (if l = true then a else b).at' i := by
  have e : 2 * i % 2 = 0 := by omega
  have e2 : 2 * i / 2 = i := by omega
  simp only [at', e, e2]
  cases l <;> simp
theorem at_odd (l : Bool) (a b : Tr) (i : Nat) : (Tr.s l a b).at' (2 * i + 1) = (if l = true then b else a).at' i := by
  have e : (2 * i + 1) % 2 = 1 := by omega
  have e2 : (2 * i + 1) / 2 = i := by omega
  simp only [at', e, e2]
  cases l <;> simp
theorem least_size : ∀ t : Tr, t.least.size ≤ t.size
  | .e n => Nat.le_refl _
  | .s l a b => by
    have ha := least_size a
    have hb := least_size b
    show (bt (1 + max a.deep b.deep) _).size ≤ 1 + a.size + b.size
    rw [show 1 + max a.deep b.deep = max a.deep b.deep + 1 by omega, bt]
    split
    · exact Nat.zero_le _
    · have e1 : bt (max a.deep b.deep) (fun i => (Tr.s l a b).at' (2 * i)) = (if l = true then a else b).least := by
        rw [bt_ext (fun i => at_even l a b i)]
        cases l
        · exact least_bt b (by omega)
        · exact least_bt a (by omega)
      have e2 : bt (max a.deep b.deep) (fun i => (Tr.s l a b).at' (2 * i + 1)) = (if l = true then b else a).least := by
        rw [bt_ext (fun i => at_odd l a b i)]
        cases l
        · exact least_bt a (by omega)
        · exact least_bt b (by omega)
      rw [e1, e2]
      cases l
      · show 1 + b.least.size + a.least.size ≤ _
        omega
      · show 1 + a.least.size + b.least.size ≤ _
        omega
def turned : Tr → Tr
  | .e n => .e n
  | .s l a b => .s (!l) b.turned a.turned
theorem turned_at : ∀ (t : Tr) (i : Nat), t.turned.at' i = t.at' i
  | .e n, i => rfl
  | .s l a b, i => by
    simp only [turned, at', turned_at a, turned_at b]
    cases l <;> by_cases q : i % 2 = 0 <;> simp [q]
theorem turned_deep : ∀ t : Tr, t.turned.deep = t.deep
  | .e n => rfl
  | .s l a b => by
    simp only [turned, deep, turned_deep a, turned_deep b]
    omega
theorem turned_names {P : Str → Prop} : ∀ {t : Tr}, t.names P → t.turned.names P
  | .e n, h => h
  | .s l a b, h => ⟨turned_names h.2, turned_names h.1⟩
def doubled : Tr → Tr
  | .e n => .s false (.e n) (.e n)
  | .s l a b => .s l a.doubled b.doubled
theorem doubled_at : ∀ (t : Tr) (i : Nat), t.doubled.at' i = t.at' i
  | .e n, i => by simp only [doubled, at']; split <;> rfl
  | .s l a b, i => by simp only [doubled, at', doubled_at a, doubled_at b]
theorem doubled_deep : ∀ t : Tr, t.doubled.deep = t.deep + 1
  | .e n => rfl
  | .s l a b => by
    simp only [doubled, deep, doubled_deep a, doubled_deep b]
    omega
theorem doubled_names {P : Str → Prop} : ∀ {t : Tr}, t.names P → t.doubled.names P
  | .e n, h => ⟨h, h⟩
  | .s l a b, h => ⟨doubled_names h.1, doubled_names h.2⟩
def changed (z : Str) : Tr → Tr
  | .e n => .e z
  | .s l a b => .s l a (b.changed z)
theorem changed_at (z : Str) : ∀ t : Tr, ∃ i, (t.changed z).at' i = z
  | .e n => ⟨0, rfl⟩
  | .s l a b => by
    obtain ⟨i, h⟩ := changed_at z b
    cases l
    · exact ⟨2 * i, by rw [changed, at_even]; exact h⟩
    · exact ⟨2 * i + 1, by rw [changed, at_odd]; exact h⟩
theorem changed_deep (z : Str) : ∀ t : Tr, (t.changed z).deep ≤ t.deep
  | .e n => Nat.le_refl _
  | .s l a b => by
    have := changed_deep z b
    simp only [changed, deep]
    omega
theorem changed_names {P : Str → Prop} {z : Str} (hz : P z) : ∀ {t : Tr}, t.names P → (t.changed z).names P
  | .e n, h => hz
  | .s l a b, h => ⟨h.1, changed_names hz h.2⟩
theorem names_at {P : Str → Prop} : ∀ {t : Tr}, t.names P → ∀ i, P (t.at' i)
  | .e n, h, i => h
  | .s l a b, h, i => by
    simp only [at']
    split
    · exact names_at h.1 _
    · exact names_at h.2 _
/-- the first marble that ends elsewhere -/
def unl (t u : Tr) (n : Nat) : Option Nat := (List.range n).find? fun k => !(t.at' k == u.at' k)
theorem find_none {p : Nat → Bool} {m n : Nat} (h : (List.range m).find? p = none) (hp : ∀ k, p (k + m) = p k) (hm : 0 < m) : ∀ k, p k = false := by
  intro k
  have h0 : ∀ k, k < m → p k = false := by
    intro k hk
    have := List.find?_eq_none.mp h k (List.mem_range.mpr hk)
    simpa using this
  have : ∀ q i, p (i + q * m) = p i := by
    intro q
    induction q with
    | zero => intro i; simp
    | succ q ih => intro i; rw [show i + (q + 1) * m = (i + q * m) + m by rw [Nat.add_mul]; omega, hp, ih]
  have e := this (k / m) (k % m)
  rw [show k % m + k / m * m = k by have := Nat.div_add_mod k m; rw [Nat.mul_comm] at this; omega] at e
  rw [e]
  exact h0 _ (Nat.mod_lt _ hm)
theorem find_more {p : Nat → Bool} {m n : Nat} (hp : ∀ k, p (k + m) = p k) (hm : 0 < m) (hn : m ≤ n) : (List.range n).find? p = (List.range m).find? p := by
  cases h : (List.range m).find? p with
  | none =>
    rw [List.find?_eq_none]
    intro k hk
    rw [find_none (n := n) h hp hm k]
    exact Bool.false_ne_true
  | some x =>
    obtain ⟨j, rfl⟩ : ∃ j, n = m + j := ⟨n - m, by omega⟩
    rw [List.range_add, List.find?_append, h]
    rfl
theorem unl_per {t u : Tr} {m n : Nat} (h1 : t.deep ≤ m) (h2 : u.deep ≤ m) (hn : 2 ^ m ≤ n) : unl t u n = unl t u (2 ^ m) := by
  unfold unl
  exact find_more (fun k => by rw [t.period m k h1, u.period m k h2]) (Nat.two_pow_pos _) hn
theorem unl_none {t u : Tr} {m n : Nat} (h1 : t.deep ≤ m) (h2 : u.deep ≤ m) (hn : 2 ^ m ≤ n) : unl t u n = none ↔ ∀ i, t.at' i = u.at' i := by
  rw [unl_per h1 h2 hn]
  constructor
  · intro h i
    have := find_none (n := n) (p := fun k => !(t.at' k == u.at' k)) h (fun k => by rw [t.period m k h1, u.period m k h2]) (Nat.two_pow_pos _) i
    simpa using this
  · intro h
    unfold unl
    rw [List.find?_eq_none]
    intro k _
    rw [h k]; simp
theorem unl_comm (t u : Tr) (n : Nat) : unl t u n = unl u t n := by
  unfold unl
  congr 1
  funext k
  rw [Bool.beq_comm]
end Tr
end PQ

namespace PQ
open PySem PySem.Spec PyProof.Rows L2

theorem es1 : ((Str.ofString "end" : Str) == Str.ofString "switch") = false := by decide +kernel
theorem es2 : ((Str.ofString "switch" : Str) == Str.ofString "end") = false := by decide +kernel
theorem es3 : ((Str.ofString "L" : Str) == Str.ofString "R") = false := by decide +kernel
theorem es4 : ((Str.ofString "R" : Str) == Str.ofString "L") = false := by decide +kernel
/-- the names that the law draws and asks for -/
def okName (s : Str) : Prop := F_is_name [.str s] = .ok (.bool true)
theorem ok_a : okName "a" := by unfold okName; rfl
theorem ok_b : okName "b" := by unfold okName; rfl
theorem ok_cc : okName "cc" := by unfold okName; rfl
theorem ok_zz : okName "zz" := by unfold okName; rfl
/-- the names that the law draws -/
def nm3 (s : Str) : Prop := s = "a" ∨ s = "b" ∨ s = "cc"
theorem nm3_ok {s : Str} (h : nm3 s) : okName s := by
  rcases h with rfl | rfl | rfl
  · exact ok_a
  · exact ok_b
  · exact ok_cc
theorem nm3_zz : ¬ nm3 "zz" := by
  rintro (h | h | h) <;> revert h <;> decide +kernel
theorem Tr.names_mono {P Q : Str → Prop} (h : ∀ s, P s → Q s) : ∀ {t : Tr}, t.names P → t.names Q
  | .e n, q => h n q
  | .s l a b, q => ⟨names_mono h q.1, names_mono h q.2⟩

theorem f_things : ∀ (n : Nat) (t : Tr), t.deep < n → F_things_in n [t.d] = .ok (.int t.things)
  | 0, t, h => by omega
  | n + 1, .e x, h => by
    show runD 1 (S_things_in (F_things_in n)) _ = _
    simp [runD, S_things_in, Tr.d, Tr.things]
  | n + 1, .s l a b, h => by
    have h : 1 + max a.deep b.deep < n + 1 := h
    have ha := f_things n a (by omega)
    have hb := f_things n b (by omega)
    show runD 1 (S_things_in (F_things_in n)) _ = _
    simp [runD, S_things_in, Tr.d, Tr.things, es2, ha, hb]
theorem f_deep : ∀ (n : Nat) (t : Tr), t.deep < n → F_deep_in n [t.d] = .ok (.int t.deep)
  | 0, t, h => by omega
  | n + 1, .e x, h => by
    show runD 1 (S_deep_in (F_deep_in n)) _ = _
    simp [runD, S_deep_in, Tr.d, Tr.deep]
  | n + 1, .s l a b, h => by
    have h : 1 + max a.deep b.deep < n + 1 := h
    have ha := f_deep n a (by omega)
    have hb := f_deep n b (by omega)
    show runD 1 (S_deep_in (F_deep_in n)) _ = _
    have e : (if (b.deep : Int) > a.deep then (b.deep : Int) else a.deep) = ((max a.deep b.deep : Nat) : Int) := by split <;> omega
    simp [runD, S_deep_in, Tr.d, Tr.deep, es2, ha, hb]
    omega
theorem f_within : ∀ (n : Nat) (t : Tr) (r : Nat), t.deep < n → t.deep ≤ r → t.names okName → F__is_within n [t.d, .int r] = .ok (.bool true)
  | 0, t, r, h, _, _ => by omega
  | n + 1, .e x, r, h, _, hn => by
    have hn : F_is_name [.str x] = .ok (.bool true) := hn
    show runD 2 (S__is_within (F__is_within n)) _ = _
    have h1 : dNotIn (.int 2) (.tuple [.int 2, .int 4]) = .ok (.bool false) := by rfl
    simp [runD, S__is_within, Tr.d, hn, h1, isaB, tyName]
  | n + 1, .s l a b, 0, h, hr, _ => by simp [Tr.deep] at hr
  | n + 1, .s l a b, r + 1, h, hr, hn => by
    have h : 1 + max a.deep b.deep < n + 1 := h
    have hr : 1 + max a.deep b.deep ≤ r + 1 := hr
    have ha := f_within n a r (by omega) (by omega) hn.1
    have hb := f_within n b r (by omega) (by omega) hn.2
    show runD 2 (S__is_within (F__is_within n)) _ = _
    have h1 : dNotIn (.int 4) (.tuple [.int 2, .int 4]) = .ok (.bool false) := by rfl
    have h2 : ∀ l : Bool, dNotIn (.str (if l = true then "L" else "R")) (.tuple [.str "L", .str "R"]) = .ok (.bool false) := fun l => by cases l <;> rfl
    have h3 : ((r : Int) + 1 = 0) = False := by simp; omega
    simp [runD, S__is_within, Tr.d, h1, h2, h3, es2, ha, hb, isaB, tyName]
/-- a tree that the law asks of -/
structure Tr.Ok (t : Tr) : Prop where
  deep : t.deep ≤ 5
  nm : t.names okName
theorem f_istree {t : Tr} (h : t.Ok) : F_is_tree [t.d] = .ok (.bool true) := by
  have h1 := f_within 10 t 8 (by have := h.deep; omega) (by have := h.deep; omega) h.nm
  have h2 := f_things 10 t (by have := h.deep; omega)
  have h3 := t.things_le
  have h4 : 2 ^ (t.deep + 1) ≤ 2 ^ 6 := Nat.pow_le_pow_right (by omega) (by have := h.deep; omega)
  have h5 : (t.things : Int) ≤ 200 := by omega
  show runD 1 S_is_tree _ = _
  simp at h1
  simp [runD, S_is_tree, h1, h2, h5]
theorem f_tree {t : Tr} (h : t.Ok) : F_check_tree [t.d] = .ok .none := by
  have e := f_istree h
  show runD 1 S_check_tree _ = _
  simp [runD, S_check_tree, e]
theorem f_whole {i lo hi : Int} (h1 : lo ≤ i) (h2 : i ≤ hi) : F_is_whole [.int i, .int lo, .int hi] = .ok (.bool true) := by
  show runD 3 S_is_whole _ = _
  simp [runD, S_is_whole, isaB, tyName, h1, h2]
theorem f_again {t : Tr} (h : t.Ok) : F_again_in [t.d] = .ok (.int (2 ^ t.deep : Nat)) := by
  have h2 := f_deep 10 t (by have := h.deep; omega)
  show runD 1 S_again_in _ = _
  simp [runD, S_again_in, h2]
  obtain ⟨h, _⟩ := h
  generalize t.deep = k at h
  rcases (by omega : k = 0 ∨ k = 1 ∨ k = 2 ∨ k = 3 ∨ k = 4 ∨ k = 5) with rfl | rfl | rfl | rfl | rfl | rfl <;> rfl
theorem name_loop : ∀ (t : Tr) (k : Nat), ∃ k' : Int, whN T_name_of_1 B_name_of_1 [2] (t.deep + 1) [.f t.d, .f (.int k), .u] = .nx [.f (.tuple [.str "end", .str (t.at' k)]), .f (.int k'), .u]
  | .e n, k => ⟨k, by
    show whN T_name_of_1 B_name_of_1 [2] (0 + 1) _ = _
    refine whN_0 ?_
    simp [T_name_of_1, Tr.d]⟩
  | .s l a b, k => by
    have key : ∀ c : Tr, (if l = decide (k % 2 = 0) then a else b) = c → ∃ k' : Int, whN T_name_of_1 B_name_of_1 [2] ((Tr.s l a b).deep + 1) [.f (Tr.s l a b).d, .f (.int k), .u] = .nx [.f (.tuple [.str "end", .str (c.at' (k / 2))]), .f (.int k'), .u] := by
      intro c hc
      obtain ⟨k', hk⟩ : ∃ k' : Int, whN T_name_of_1 B_name_of_1 [2] (c.deep + 1) [.f c.d, .f (.int ((k / 2 : Nat) : Int)), .u] = .nx [.f (.tuple [.str "end", .str (c.at' (k / 2))]), .f (.int k'), .u] := by
        split at hc <;> subst hc
        · exact name_loop a (k / 2)
        · exact name_loop b (k / 2)
      have hdc : c.deep + 1 ≤ (Tr.s l a b).deep := by
        show c.deep + 1 ≤ 1 + max a.deep b.deep
        split at hc <;> subst hc <;> omega
      have hk2 := whN_mono hk (by intro e; cases e) _ hdc
      refine ⟨k', whN_1 (ρ2 := [.f c.d, .f (.int ((k / 2 : Nat) : Int)), .f (.bool (l == decide (k % 2 = 0)))]) ?_ ?_ (by rfl) hk2⟩
      · simp [T_name_of_1, Tr.d, es2]
      · have hd : divOk 2 = true := by rfl
        have h0 : decide ((k : Int) % 2 = 0) = decide (k % 2 = 0) := by congr 1; apply propext; omega
        have hl : ((if l = true then (Str.ofString "L") else Str.ofString "R") == Str.ofString "L") = l := by cases l <;> first | rfl | exact es4
        simp [B_name_of_1, Tr.d, hd, h0, hl]
        rw [← hc]
        by_cases q : k % 2 = 0 <;> cases l <;> simp [q]
    obtain ⟨k', h⟩ := key _ rfl
    refine ⟨k', ?_⟩
    rw [h]
    simp only [Tr.at']
    split <;> rfl
theorem f_name {t : Tr} (h : t.deep ≤ 5) (k : Nat) : F_name_of [t.d, .int k] = .ok (.str (t.at' k)) := by
  obtain ⟨k', hk⟩ := name_loop t k
  have := sWhile_of (T := T_name_of_1) (B := B_name_of_1) (ks := [2]) (n := t.deep + 1) (ρ := [.f t.d, .f (.int k), .u]) hk (by intro e; cases e) (by omega)
  show runD 3 S_name_of _ = _
  simp [runD, S_name_of, this]
theorem f_size : ∀ (n : Nat) (t : Tr), t.deep < n → F__size n [t.d] = .ok (.int t.size)
  | 0, t, h => by omega
  | n + 1, .e x, h => by
    show runD 1 (S__size (F__size n)) _ = _
    simp [runD, S__size, Tr.d, Tr.size]
  | n + 1, .s l a b, h => by
    have h : 1 + max a.deep b.deep < n + 1 := h
    have ha := f_size n a (by omega)
    have hb := f_size n b (by omega)
    show runD 1 (S__size (F__size n)) _ = _
    simp [runD, S__size, Tr.d, Tr.size, es2, ha, hb]
theorem f_tsize {t : Tr} (h : t.Ok) : F_tree_size [t.d] = .ok (.int t.size) := by
  have h1 := f_tree h
  have h2 := f_size 10 t (by have := h.deep; omega)
  show runD 1 S_tree_size _ = _
  simp [runD, S_tree_size, h1, h2]
theorem f_tagain {t : Tr} (h : t.Ok) : F_tree_again [t.d] = .ok (.int (2 ^ t.deep : Nat)) := by
  have h1 := f_tree h
  have h2 := f_again h
  simp at h2
  show runD 1 S_tree_again _ = _
  simp [runD, S_tree_again, h1, h2]
theorem pow5 {k : Nat} (h : k ≤ 5) : 2 ^ k ≤ 32 := by
  have : 2 ^ k ≤ 2 ^ 5 := Nat.pow_le_pow_right (by omega) h
  omega
theorem f_all {t : Tr} (h : t.deep ≤ 5) (m : Nat) (hm : m ≤ 1000) : F__all_names [t.d, .int m] = .ok (.tuple ((List.range m).map fun k => PyData.str (t.at' k))) := by
  have hc : ∀ (a b : Sl), compR (cStep (aName 2) tTrue (eCall F_name_of (eCons (eVar 0) (eCons (eVar 2) (eNil)))) [.f t.d, a, .u]) (rgD 0 m) = .ok ((List.range m).map fun k => PyData.str (t.at' k)) := by
    intro a b
    rw [rgD_nat]
    refine compR_all _ _ _ fun k _ => ?_
    have g := f_name h k
    simp [cStep, g]
  have hb : big62 m = true := big62_ok (by omega) (by omega)
  have hf : fits m = true := fits_ok (by omega)
  show runD 3 S__all_names _ = _
  simp [runD, S__all_names, hb, rgD_len, hf, hc _ .u, dTuple]
/-- the names of f -/
def nmL (k : Nat) (f : Nat → Str) : List D := (List.range (2 ^ k)).map fun i => PyData.str (f i)
theorem nmL_get {k : Nat} {f : Nat → Str} {i : Nat} (h : i < 2 ^ k) : (nmL k f)[i]? = some (.str (f i)) := by
  unfold nmL
  rw [List.getElem?_map, List.getElem?_range h]; rfl
theorem nmL_len (k : Nat) (f : Nat → Str) : (nmL k f).length = 2 ^ k := by unfold nmL; simp
theorem nmL_evens (k : Nat) (f : Nat → Str) : strideL (nmL (k + 1) f) 0 2 = nmL k fun i => f (2 * i) := by
  apply List.ext_getElem?
  intro j
  rw [stride_get]
  have hp : 2 ^ (k + 1) = 2 * 2 ^ k := by rw [Nat.pow_succ]; omega
  by_cases h : j < 2 ^ k
  · rw [nmL_get h, nmL_get (by omega)]; congr 3; omega
  · rw [List.getElem?_eq_none (by rw [nmL_len]; omega), List.getElem?_eq_none (by rw [nmL_len]; omega)]
theorem nmL_odds (k : Nat) (f : Nat → Str) : strideL (nmL (k + 1) f) 1 2 = nmL k fun i => f (2 * i + 1) := by
  apply List.ext_getElem?
  intro j
  rw [stride_get]
  have hp : 2 ^ (k + 1) = 2 * 2 ^ k := by rw [Nat.pow_succ]; omega
  by_cases h : j < 2 ^ k
  · rw [nmL_get h, nmL_get (by omega)]; congr 3; omega
  · rw [List.getElem?_eq_none (by rw [nmL_len]; omega), List.getElem?_eq_none (by rw [nmL_len]; omega)]
theorem same_comp (k : Nat) (f : Nat → Str) (hk : k ≤ 6) (s : Sl) : eA dAll (eCons (eComp (iSeq (eVar 0)) (aName 1) (tTrue) (e2 dEq (eVar 1) (e2 dIx (eVar 0) (eInt 0))) [1]) (eNil)) [.f (.tuple (nmL k f)), s] = .ok (.bool (Tr.allSame k f)) := by
  have h0 : atI (nmL k f) 0 = some (.str (f 0)) := atI_nat (j := 0) (nmL_get (Nat.two_pow_pos _))
  have hc : compR (cStep (aName 1) tTrue (e2 dEq (eVar 1) (e2 dIx (eVar 0) (eInt 0))) [.f (.tuple (nmL k f)), .u]) (nmL k f) = .ok ((List.range (2 ^ k)).map fun i => PyData.bool (f i == f 0)) := by
    rw [show compR (cStep (aName 1) tTrue (e2 dEq (eVar 1) (e2 dIx (eVar 0) (eInt 0))) [.f (.tuple (nmL k f)), .u]) (nmL k f) = compR (cStep (aName 1) tTrue (e2 dEq (eVar 1) (e2 dIx (eVar 0) (eInt 0))) [.f (.tuple (nmL k f)), .u]) ((List.range (2 ^ k)).map fun i => PyData.str (f i)) from rfl]
    refine compR_all _ _ _ fun i _ => ?_
    simp [cStep, h0]
  have hf : fits (nmL k f).length = true := by
    rw [nmL_len]
    have : 2 ^ k ≤ 2 ^ 6 := Nat.pow_le_pow_right (by omega) hk
    exact fits_ok (by omega)
  have hb : bools ((List.range (2 ^ k)).map fun i => PyData.bool (f i == f 0)) = .ok ((List.range (2 ^ k)).map fun i => (f i == f 0)) := by
    have := bools_map (bs := (List.range (2 ^ k)).map fun i => (f i == f 0))
    rw [List.map_map] at this
    exact this
  simp [hf, hc, dAll, hb, Tr.allSame, List.all_map]
theorem f_built : ∀ (n k : Nat) (f : Nat → Str), k < n → k ≤ 6 → F__built n [.tuple (nmL k f)] = .ok (Tr.bt k f).d
  | 0, k, f, h, _ => by omega
  | n + 1, k, f, h, hk => by
    have hs := fun s => same_comp k f hk s
    have h0 : atI (nmL k f) 0 = some (.str (f 0)) := atI_nat (j := 0) (nmL_get (Nat.two_pow_pos _))
    show runD 2 (S__built (F__built n)) _ = _
    cases k with
    | zero =>
      have e : Tr.allSame 0 f = true := by unfold Tr.allSame; simp
      rw [e] at hs
      simp only [runD, S__built, x_sCons, x_sIf, x_tV, List.map_cons, List.map_nil, List.cons_append, List.nil_append, List.length_cons, List.length_nil]
      rw [show List.replicate (2 - (0 + 1)) Sl.u = [Sl.u] from rfl, hs]
      simp [h0, Tr.bt, Tr.d]
    | succ k =>
      have h1 := f_built n k (fun i => f (2 * i)) (by omega) (by omega)
      have h2 := f_built n k (fun i => f (2 * i + 1)) (by omega) (by omega)
      simp only [runD, S__built, x_sCons, x_sIf, x_tV, List.map_cons, List.map_nil, List.cons_append, List.nil_append, List.length_cons, List.length_nil]
      rw [show List.replicate (2 - (0 + 1)) Sl.u = [Sl.u] from rfl, hs]
      by_cases q : Tr.allSame (k + 1) f = true
      · simp [q, h0, Tr.bt, Tr.d]
      · have q : Tr.allSame (k + 1) f = false := by simpa using q
        simp [q, nmL_evens, nmL_odds, h1, h2, Tr.bt, Tr.d]
theorem f_needed : ∀ (n k : Nat) (f : Nat → Str), k < n → k ≤ 6 → F__needed n [.tuple (nmL k f)] = .ok (.int (Tr.bt k f).size)
  | 0, k, f, h, _ => by omega
  | n + 1, k, f, h, hk => by
    have hs := fun s => same_comp k f hk s
    show runD 2 (S__needed (F__needed n)) _ = _
    cases k with
    | zero =>
      have e : Tr.allSame 0 f = true := by unfold Tr.allSame; simp
      rw [e] at hs
      simp only [runD, S__needed, x_sCons, x_sIf, x_tV, List.map_cons, List.map_nil, List.cons_append, List.nil_append, List.length_cons, List.length_nil]
      rw [show List.replicate (2 - (0 + 1)) Sl.u = [Sl.u] from rfl, hs]
      simp [Tr.bt, Tr.size]
    | succ k =>
      have h1 := f_needed n k (fun i => f (2 * i)) (by omega) (by omega)
      have h2 := f_needed n k (fun i => f (2 * i + 1)) (by omega) (by omega)
      simp only [runD, S__needed, x_sCons, x_sIf, x_tV, List.map_cons, List.map_nil, List.cons_append, List.nil_append, List.length_cons, List.length_nil]
      rw [show List.replicate (2 - (0 + 1)) Sl.u = [Sl.u] from rfl, hs]
      by_cases q : Tr.allSame (k + 1) f = true
      · simp [q, Tr.bt, Tr.size]
      · have q : Tr.allSame (k + 1) f = false := by simpa using q
        simp [q, nmL_evens, nmL_odds, h1, h2, Tr.bt, Tr.size]
theorem f_least {t : Tr} (h : t.Ok) : F_least_tree [t.d] = .ok t.least.d := by
  have h1 := f_tree h
  have h2 := f_again h
  have h3 := f_all h.deep (2 ^ t.deep) (by have := pow5 h.deep; omega)
  have h4 := f_built 10 t.deep t.at' (by have := h.deep; omega) (by have := h.deep; omega)
  have h3 : F__all_names [t.d, .int (2 ^ t.deep : Nat)] = .ok (.tuple (nmL t.deep t.at')) := h3
  generalize hp : 2 ^ t.deep = p at h2 h3
  show runD 1 S_least_tree _ = _
  simp [runD, S_least_tree, h1, h2, h3, h4, Tr.least]
end PQ

namespace PQ
open PySem PySem.Spec PyProof.Rows L2

theorem forL_find {α : Type} {A : EG} {B : ES} {ks : List Nat} {ρ : Rho} (φ : α → D) (p : α → Bool) (r : α → D) : ∀ xs : List α, (∀ x ∈ xs, ∃ ρ1, A (φ x) ρ = .ok ρ1 ∧ (p x = true → B ρ1 = .ret (r x)) ∧ (p x = false → ∃ ρ2, B ρ1 = .nx ρ2 ∧ wipeR ρ2 ks = ρ)) →
    forL A B ks (xs.map φ) ρ = match xs.find? p with
      | some x => .ret (r x)
      | none => .nx ρ
  | [], _ => rfl
  | x :: xs, h => by
    obtain ⟨ρ1, h1, h2, h3⟩ := h x List.mem_cons_self
    cases e : p x with
    | true =>
      rw [List.map_cons, forL, h1]
      simp only [h2 e, List.find?_cons, e]
    | false =>
      obtain ⟨ρ2, g1, g2⟩ := h3 e
      rw [List.map_cons]
      rw [forL_next ρ1 ρ2 h1 g1 g2 (forL_find φ p r xs fun y hy => h y (List.mem_cons_of_mem _ hy))]
      simp only [List.find?_cons, e]
theorem f_pdrop : ∀ (n : Nat) (t : Tr), t.deep < n → F__drop n [t.d] = .ok (.tuple [t.drop.1.d, .str t.drop.2])
  | 0, t, h => by omega
  | n + 1, .e x, h => by
    show runD 6 (S__drop (F__drop n)) _ = _
    simp [runD, S__drop, Tr.d, Tr.drop]
  | n + 1, .s true a b, h => by
    have h : 1 + max a.deep b.deep < n + 1 := h
    have ha := f_pdrop n a (by omega)
    show runD 6 (S__drop (F__drop n)) _ = _
    simp [runD, S__drop, Tr.d, Tr.drop, es2, ha]
  | n + 1, .s false a b, h => by
    have h : 1 + max a.deep b.deep < n + 1 := h
    have hb := f_pdrop n b (by omega)
    show runD 6 (S__drop (F__drop n)) _ = _
    simp [runD, S__drop, Tr.d, Tr.drop, es2, es4, hb]
theorem ends_loop : ∀ (js : List D) (t : Tr) (i : Nat) (t0 : Tr), t.deep ≤ 5 → (∀ k, t.at' k = t0.at' (i + k)) → i + js.length ≤ 1000 →
    ∃ t' : Tr, forL (aName 3) B_tree_ends_1 [1, 3, 4] js [.f t.d, .u, .o (.list ((List.range i).map fun k => PyData.str (t0.at' k))), .u, .u] = .nx [.f t'.d, .u, .o (.list ((List.range (i + js.length)).map fun k => PyData.str (t0.at' k))), .u, .u]
  | [], t, i, t0, _, _, _ => ⟨t, rfl⟩
  | j :: js, t, i, t0, hd, hk, hl => by
    rw [List.length_cons] at hl
    obtain ⟨h1, h2⟩ := t.at_drop
    obtain ⟨t', ht⟩ := ends_loop js t.drop.1 (i + 1) t0 (by rw [Tr.deep_drop]; exact hd) (fun k => by rw [h2, hk]; congr 1; omega) (by omega)
    refine ⟨t', ?_⟩
    rw [List.length_cons, show i + (js.length + 1) = i + 1 + js.length by omega]
    refine forL_next [.f t.d, .u, .o (.list ((List.range i).map fun k => PyData.str (t0.at' k))), .f j, .u] [.f t.drop.1.d, .u, .o (.list ((List.range (i + 1)).map fun k => PyData.str (t0.at' k))), .f j, .f (.str t.drop.2)] (by rfl) ?_ (by rfl) ht
    have hdr := f_pdrop 10 t (by omega)
    have hf : fits (i + 1) = true := fits_ok (by omega)
    have h0 : t.drop.2 = t0.at' i := by rw [h1, hk]; rfl
    simp [B_tree_ends_1, hdr, hf, List.range_succ, h0]
theorem f_ends {t : Tr} (h : t.Ok) (m : Nat) (hm : m ≤ 1000) : F_tree_ends [t.d, .int m] = .ok (.tuple ((List.range m).map fun k => PyData.str (t.at' k))) := by
  obtain ⟨t', ht⟩ := ends_loop (rgD 0 m) t 0 t h.deep (fun k => by rw [Nat.zero_add]) (by rw [rgD_len]; omega)
  have hb : big62 m = true := big62_ok (by omega) (by omega)
  have e : 0 + (rgD 0 m).length = m := by rw [rgD_len]; omega
  rw [e] at ht
  have h1 := f_tree h
  have h2 : F_is_whole [.int m, .int 0, .int 1000] = .ok (.bool true) := f_whole (by omega) (by omega)
  show runD 5 S_tree_ends _ = _
  simp at ht
  simp [runD, S_tree_ends, h1, h2, hb, ht, frz, dTuple]
theorem f_cnames {k : Nat} {f : Nat → Str} (hk : k ≤ 5) (hn : ∀ i, okName (f i)) : F__check_names [.tuple (nmL k f)] = .ok .none := by
  have hp := pow5 hk
  have hp1 : 1 ≤ 2 ^ k := Nat.one_le_two_pow
  have hc : compR (cStep (aName 1) tTrue (eCall F_is_name (eCons (eVar 1) (eNil))) [.f (.tuple (nmL k f)), .u]) (nmL k f) = .ok ((List.range (2 ^ k)).map fun i => PyData.bool true) := by
    rw [show compR (cStep (aName 1) tTrue (eCall F_is_name (eCons (eVar 1) (eNil))) [.f (.tuple (nmL k f)), .u]) (nmL k f) = compR (cStep (aName 1) tTrue (eCall F_is_name (eCons (eVar 1) (eNil))) [.f (.tuple (nmL k f)), .u]) ((List.range (2 ^ k)).map fun i => PyData.str (f i)) from rfl]
    refine compR_all _ _ _ fun i _ => ?_
    have : F_is_name [.str (f i)] = .ok (.bool true) := hn i
    simp [cStep, this]
  have hl := nmL_len k f
  have hf : fits (2 ^ k) = true := fits_ok (by omega)
  have hb : bools ((List.range (2 ^ k)).map fun i => PyData.bool true) = .ok ((List.range (2 ^ k)).map fun _ => true) := by
    have := bools_map (bs := (List.range (2 ^ k)).map fun _ => true)
    rw [List.map_map] at this
    exact this
  have ha : ((List.range (2 ^ k)).map fun _ => true).all id = true := by rw [List.all_map]; simp
  generalize 2 ^ k = p at *
  have i1 : (1 : Int) ≤ p := by omega
  have i2 : (p : Int) ≤ 64 := by omega
  have i3 : 1 ≤ p := by omega
  show runD 2 S__check_names _ = _
  simp at hb ha
  simp [runD, S__check_names, isaB, tyName, hl, hf, hc, dAll, hb, ha, i1, i2, i3]
theorem f_switches {k : Nat} {f : Nat → Str} (hk : k ≤ 5) (hn : ∀ i, okName (f i)) : F_switches_for [.tuple (nmL k f)] = .ok (.int (Tr.bt k f).size) := by
  have h1 := f_cnames hk hn
  have h2 := f_needed 10 k f (by omega) (by omega)
  show runD 1 S_switches_for _ = _
  simp [runD, S_switches_for, h1, h2]
def optD : Option Nat → D
  | none => .none
  | some k => .int k
theorem f_unl {t u : Tr} (ht : t.Ok) (hu : u.Ok) : F__first_unlike [t.d, u.d] = .ok (optD (Tr.unl t u 64)) := by
  have h1 := f_again ht
  have h2 := f_again hu
  have hp1 := pow5 ht.deep
  have hp2 := pow5 hu.deep
  have hm : max (2 ^ t.deep) (2 ^ u.deep) = 2 ^ max t.deep u.deep := by
    rcases Nat.le_total t.deep u.deep with q | q
    · rw [Nat.max_eq_right q, Nat.max_eq_right (Nat.pow_le_pow_right (by omega) q)]
    · rw [Nat.max_eq_left q, Nat.max_eq_left (Nat.pow_le_pow_right (by omega) q)]
  rw [Tr.unl_per (m := max t.deep u.deep) (by omega) (by omega) (by rw [← hm]; omega), ← hm]
  generalize 2 ^ t.deep = p at *
  generalize 2 ^ u.deep = q at *
  have hmx : (if (q : Int) > p then (q : Int) else p) = ((max p q : Nat) : Int) := by split <;> omega
  have hb : big62 ((max p q : Nat) : Int) = true := big62_ok (by omega) (by omega)
  have hl := forL_find (A := aName 2) (B := B__first_unlike_1) (ks := [2]) (ρ := [.f t.d, .f u.d, .u]) (fun (k : Nat) => PyData.int k) (fun k => !(t.at' k == u.at' k)) (fun (k : Nat) => PyData.int k) (List.range (max p q)) (fun k _ => by
    have g1 := f_name ht.deep k
    have g2 := f_name hu.deep k
    refine ⟨[.f t.d, .f u.d, .f (.int k)], rfl, fun e => ?_, fun e => ⟨[.f t.d, .f u.d, .f (.int k)], ?_, rfl⟩⟩
    · simp at e
      simp [B__first_unlike_1, g1, g2, e]
    · simp at e
      simp [B__first_unlike_1, g1, g2, e])
  rw [← rgD_nat] at hl
  show runD 3 S__first_unlike _ = _
  unfold Tr.unl
  have hmx2 : dMax2 [.int (p : Int), .int (q : Int)] = .ok (.int ((max p q : Nat) : Int)) := by rw [x_dMax2, hmx]
  cases e : (List.range (max p q)).find? fun k => !(t.at' k == u.at' k) with
  | none => 
    rw [e] at hl
    simp only [runD, S__first_unlike, x_sCons, x_sFor, x_iRg1, x_eA, x_eCons, x_eNil, x_eCall, x_eVar, List.map_cons, List.map_nil, List.cons_append, List.nil_append, List.length_cons, List.length_nil]
    simp [h1, h2, -x_dMax2, hmx2]
    simp at hb hl
    simp [hb, hl, optD]
  | some x => 
    rw [e] at hl
    simp only [runD, S__first_unlike, x_sCons, x_sFor, x_iRg1, x_eA, x_eCons, x_eNil, x_eCall, x_eVar, List.map_cons, List.map_nil, List.cons_append, List.nil_append, List.length_cons, List.length_nil]
    simp [h1, h2, -x_dMax2, hmx2]
    simp at hb hl
    simp [hb, hl, optD]
theorem f_first {t u : Tr} (ht : t.Ok) (hu : u.Ok) : F_first_unlike [t.d, u.d] = .ok (optD (Tr.unl t u 64)) := by
  have h1 := f_tree ht
  have h2 := f_tree hu
  have h3 := f_unl ht hu
  show runD 2 S_first_unlike _ = _
  simp [runD, S_first_unlike, h1, h2, h3]
theorem f_same {t u : Tr} (ht : t.Ok) (hu : u.Ok) : F_same_for_ever [t.d, u.d] = .ok (.bool (Tr.unl t u 64).isNone) := by
  have h1 := f_tree ht
  have h2 := f_tree hu
  have h3 := f_unl ht hu
  show runD 2 S_same_for_ever _ = _
  simp [runD, S_same_for_ever, h1, h2, h3]
  cases Tr.unl t u 64 <;> rfl
theorem f_drop : ∀ (n : Nat) (t : Tr), t.deep < n → F__law_drop n [t.d] = .ok (.tuple [t.drop.1.d, .str t.drop.2])
  | 0, t, h => by omega
  | n + 1, .e x, h => by
    show runD 3 (S__law_drop (F__law_drop n)) _ = _
    simp [runD, S__law_drop, Tr.d, Tr.drop]
  | n + 1, .s true a b, h => by
    have h : 1 + max a.deep b.deep < n + 1 := h
    have ha := f_drop n a (by omega)
    show runD 3 (S__law_drop (F__law_drop n)) _ = _
    simp [runD, S__law_drop, Tr.d, Tr.drop, es2, ha]
  | n + 1, .s false a b, h => by
    have h : 1 + max a.deep b.deep < n + 1 := h
    have hb := f_drop n b (by omega)
    show runD 3 (S__law_drop (F__law_drop n)) _ = _
    simp [runD, S__law_drop, Tr.d, Tr.drop, es2, es4, hb]
theorem names_loop : ∀ (js : List D) (t : Tr) (i : Nat) (t0 : Tr), t.deep ≤ 5 → (∀ k, t.at' k = t0.at' (i + k)) → i + js.length ≤ 1000 →
    ∃ t' : Tr, forL (aName 3) B__law_names_1 [1, 3, 4] js [.f t.d, .u, .f (.tuple ((List.range i).map fun k => PyData.str (t0.at' k))), .u, .u] = .nx [.f t'.d, .u, .f (.tuple ((List.range (i + js.length)).map fun k => PyData.str (t0.at' k))), .u, .u]
  | [], t, i, t0, _, _, _ => ⟨t, rfl⟩
  | j :: js, t, i, t0, hd, hk, hl => by
    rw [List.length_cons] at hl
    obtain ⟨h1, h2⟩ := t.at_drop
    obtain ⟨t', ht⟩ := names_loop js t.drop.1 (i + 1) t0 (by rw [Tr.deep_drop]; exact hd) (fun k => by rw [h2, hk]; congr 1; omega) (by omega)
    refine ⟨t', ?_⟩
    rw [List.length_cons, show i + (js.length + 1) = i + 1 + js.length by omega]
    refine forL_next [.f t.d, .u, .f (.tuple ((List.range i).map fun k => PyData.str (t0.at' k))), .f j, .u] [.f t.drop.1.d, .u, .f (.tuple ((List.range (i + 1)).map fun k => PyData.str (t0.at' k))), .f j, .f (.str t.drop.2)] (by rfl) ?_ (by rfl) ht
    have hdr := f_drop 10 t (by omega)
    have hf : fits (i + 1) = true := fits_ok (by omega)
    have h0 : t.drop.2 = t0.at' i := by rw [h1, hk]; rfl
    simp [B__law_names_1, hdr, hf, List.range_succ, h0]
theorem f_names {t : Tr} (h : t.Ok) (m : Nat) (hm : m ≤ 1000) : F__law_names [t.d, .int m] = .ok (.tuple ((List.range m).map fun k => PyData.str (t.at' k))) := by
  obtain ⟨t', ht⟩ := names_loop (rgD 0 m) t 0 t h.deep (fun k => by rw [Nat.zero_add]) (by rw [rgD_len]; omega)
  have hb : big62 m = true := big62_ok (by omega) (by omega)
  have e : 0 + (rgD 0 m).length = m := by rw [rgD_len]; omega
  rw [e] at ht
  show runD 5 S__law_names _ = _
  simp at ht
  simp [runD, S__law_names, hb, ht]
/-- the draws of the law -/
structure Dr (ds : List D) : Prop where
  len : ds.length = 60
  all : ∀ d ∈ ds, isDraw d
theorem Dr.at {ds : List D} (h : Dr ds) {i : Int} (h0 : 0 ≤ i) (h1 : i < 60) : ∃ n : Int, atI ds i = some (.int n) ∧ 0 ≤ n ∧ n < 65521 := by
  obtain ⟨j, rfl⟩ := Int.eq_ofNat_of_zero_le h0
  have hj : j < ds.length := by rw [h.len]; omega
  obtain ⟨n, e, h2, h3⟩ := h.all ds[j] (List.getElem_mem hj)
  exact ⟨n, atI_nat (by rw [List.getElem?_eq_getElem hj, e]), h2, h3⟩
theorem f_ltree {ds : List D} (h : Dr ds) : ∀ (n deep : Nat) (at0 : Int), deep < n → deep ≤ 4 → 0 ≤ at0 → at0 + 2 ^ (deep + 1) ≤ 1000 → ∃ (t : Tr) (at1 : Int), F__law_tree n [.list ds, .int at0, .int deep] = .ok (.tuple [t.d, .int at1]) ∧ t.deep ≤ deep ∧ t.names nm3 ∧ at0 ≤ at1 ∧ at1 + 1 ≤ at0 + 2 ^ (deep + 1)
  | 0, deep, at0, hn, _, _, _ => by omega
  | n + 1, deep, at0, hn, hd, h0, hb => by
    obtain ⟨v, hv, hv0, hv1⟩ := h.at (i := at0 % 60) (by omega) (by omega)
    have hp : (2 : Int) ^ (deep + 1) = 2 * 2 ^ deep := by rw [Int.pow_succ]; omega
    have hp1 : (1 : Int) ≤ 2 ^ deep := by
      have : 1 ≤ 2 ^ deep := Nat.one_le_two_pow
      exact_mod_cast this
    have hq : divOk (1 + at0 / 60) = true := divOk_ok (by omega) (by omega)
    have hl : (ds.length : Int) = 60 := by rw [h.len]; rfl
    have d4 : divOk 4 = true := by rfl
    have d60 : divOk 60 = true := by rfl
    generalize hw : v / (1 + at0 / 60) = w at *
    by_cases hc : deep = 0 ∨ w % 4 = 0
    · obtain ⟨x, hx, ok⟩ : ∃ x : Str, atI [PyData.str "a", PyData.str "b", PyData.str "cc", PyData.str "a"] (w / 4 % 4) = some (.str x) ∧ nm3 x := by
        have : w / 4 % 4 = 0 ∨ w / 4 % 4 = 1 ∨ w / 4 % 4 = 2 ∨ w / 4 % 4 = 3 := by omega
        rcases this with e | e | e | e <;> rw [e]
        · exact ⟨_, atI_0 _ _, .inl rfl⟩
        · exact ⟨_, atI_1 _ _ _, .inr (.inl rfl)⟩
        · exact ⟨_, atI_2 _ _ _ _, .inr (.inr rfl)⟩
        · exact ⟨_, atI_3 _ _ _ _ _, .inl rfl⟩
      refine ⟨.e x, at0 + 1, ?_, by simp [Tr.deep], ok, by omega, by omega⟩
      show runD 6 (S__law_tree (F__law_tree n)) _ = _
      have hc' : ¬ deep = 0 → w % 4 = 0 := fun z => hc.resolve_left z
      simp [runD, S__law_tree, hl, hv, hq, d4, d60, hw, hx, Tr.d]
      by_cases q : deep = 0
      · simp [q]
      · simp [q, hc' q]
    · have hc1 : ¬ deep = 0 := fun z => hc (.inl z)
      have hc2 : ¬ w % 4 = 0 := fun z => hc (.inr z)
      obtain ⟨k, rfl⟩ : ∃ k, deep = k + 1 := ⟨deep - 1, by omega⟩
      obtain ⟨a, at1, h1, h2, h3, h4, h5⟩ := f_ltree h n k (at0 + 1) (by omega) (by omega) (by omega) (by omega)
      obtain ⟨b, at2, g1, g2, g3, g4, g5⟩ := f_ltree h n k at1 (by omega) (by omega) (by omega) (by omega)
      obtain ⟨l, hx⟩ : ∃ l : Bool, atI [PyData.str "L", PyData.str "R"] (w / 4 % 2) = some (.str (if l = true then "L" else "R")) := by
        have : w / 4 % 2 = 0 ∨ w / 4 % 2 = 1 := by omega
        rcases this with e | e <;> rw [e]
        · exact ⟨true, atI_0 _ _⟩
        · exact ⟨false, atI_1 _ _ _⟩
      refine ⟨.s l a b, at2, ?_, (by show 1 + max a.deep b.deep ≤ k + 1; omega), ⟨h3, g3⟩, by omega, by omega⟩
      show runD 6 (S__law_tree (F__law_tree n)) _ = _
      have e1 : (k : Int) + 1 - 1 = k := by omega
      have e2 : ¬ ((k : Int) + 1 = 0) := by omega
      simp [runD, S__law_tree, hl, hv, hq, d4, d60, hw, hx, Tr.d, hc2, e1, e2, h1, g1]
theorem f_turned : ∀ (n : Nat) (t : Tr), t.deep < n → F__law_turned n [t.d] = .ok t.turned.d
  | 0, t, h => by omega
  | n + 1, .e x, h => by
    show runD 1 (S__law_turned (F__law_turned n)) _ = _
    simp [runD, S__law_turned, Tr.d, Tr.turned]
  | n + 1, .s l a b, h => by
    have h : 1 + max a.deep b.deep < n + 1 := h
    have ha := f_turned n a (by omega)
    have hb := f_turned n b (by omega)
    show runD 1 (S__law_turned (F__law_turned n)) _ = _
    cases l <;> simp [runD, S__law_turned, Tr.d, Tr.turned, es2, es3, ha, hb]
theorem f_doubled : ∀ (n : Nat) (t : Tr), t.deep < n → F__law_doubled n [t.d] = .ok t.doubled.d
  | 0, t, h => by omega
  | n + 1, .e x, h => by
    show runD 1 (S__law_doubled (F__law_doubled n)) _ = _
    simp [runD, S__law_doubled, Tr.d, Tr.doubled]
  | n + 1, .s l a b, h => by
    have h : 1 + max a.deep b.deep < n + 1 := h
    have ha := f_doubled n a (by omega)
    have hb := f_doubled n b (by omega)
    show runD 1 (S__law_doubled (F__law_doubled n)) _ = _
    simp [runD, S__law_doubled, Tr.d, Tr.doubled, es2, ha, hb]
theorem f_changed : ∀ (n : Nat) (t : Tr), t.deep < n → F__law_changed n [t.d] = .ok (t.changed "zz").d
  | 0, t, h => by omega
  | n + 1, .e x, h => by
    show runD 1 (S__law_changed (F__law_changed n)) _ = _
    simp [runD, S__law_changed, Tr.d, Tr.changed]
  | n + 1, .s l a b, h => by
    have h : 1 + max a.deep b.deep < n + 1 := h
    have hb := f_changed n b (by omega)
    show runD 1 (S__law_changed (F__law_changed n)) _ = _
    simp [runD, S__law_changed, Tr.d, Tr.changed, es2, hb]
theorem f_lefts : ∀ (n : Nat) (t : Tr), t.deep < n → t.lefts → F__law_lefts n [t.d] = .ok (.bool true)
  | 0, t, h, _ => by omega
  | n + 1, .e x, h, _ => by
    show runD 1 (S__law_lefts (F__law_lefts n)) _ = _
    simp [runD, S__law_lefts, Tr.d]
  | n + 1, .s l a b, h, hl => by
    have h : 1 + max a.deep b.deep < n + 1 := h
    obtain ⟨rfl, h2, h3⟩ := hl
    have ha := f_lefts n a (by omega) h2
    have hb := f_lefts n b (by omega) h3
    show runD 1 (S__law_lefts (F__law_lefts n)) _ = _
    simp [runD, S__law_lefts, Tr.d, es2, ha, hb]
end PQ

namespace PQ
open PySem PySem.Spec PyProof.Rows L2

theorem Tr.plain_d : ∀ t : Tr, t.d.plain = true
  | .e n => rfl
  | .s l a b => by
    have ha := plain_d a
    have hb := plain_d b
    simp [Tr.d, PyData.plain, PyData.plainAll, ha, hb]
theorem Tr.depth_d : ∀ t : Tr, t.d.depth ≤ 1 + t.deep
  | .e n => by simp [Tr.d, PyData.depth, PyData.depthAll, Tr.deep]
  | .s l a b => by
    have ha := depth_d a
    have hb := depth_d b
    simp only [Tr.d, PyData.depth, PyData.depthAll, Tr.deep]
    omega
theorem str_if {l m : Bool} : ((if l = true then (Str.ofString "L") else Str.ofString "R") == (if m = true then (Str.ofString "L") else Str.ofString "R")) = (l == m) := by
  cases l <;> cases m <;> first | rfl | exact es3 | exact es4 | simp
theorem eqv_tup (xs ys : List D) : PyData.eqv (.tuple xs) (.tuple ys) = PyData.eqvAll xs ys := by rw [PyData.eqv]
theorem eqv_cons (x y : D) (xs ys : List D) : PyData.eqvAll (x :: xs) (y :: ys) = (PyData.eqv x y && PyData.eqvAll xs ys) := by rw [PyData.eqvAll]
theorem eqv_str (x y : Str) : PyData.eqv (.str x) (.str y) = (x == y) := by rw [PyData.eqv]
theorem Tr.eqv_d : ∀ t u : Tr, PyData.eqv t.d u.d = true ↔ t = u
  | .e n, .e m => by
    rw [Tr.d, Tr.d, eqv_tup, eqv_cons, eqv_cons, eqv_str, eqv_str]
    have : PyData.eqvAll [] [] = true := rfl
    simp [this]
  | .e n, .s l a b => by
    rw [Tr.d, Tr.d, eqv_tup, eqv_cons, eqv_str, es1]
    simp
  | .s l a b, .e n => by
    rw [Tr.d, Tr.d, eqv_tup, eqv_cons, eqv_str, es2]
    simp
  | .s l a b, .s m c d => by
    have ha := eqv_d a c
    have hb := eqv_d b d
    rw [Tr.d, Tr.d, eqv_tup, eqv_cons, eqv_cons, eqv_cons, eqv_cons, eqv_str, eqv_str, str_if]
    have e : PyData.eqvAll [] [] = true := rfl
    simp only [beq_self_eq_true, Bool.true_and, e, Bool.and_true, Bool.and_eq_true, ha, hb, beq_iff_eq]
    constructor
    · rintro ⟨rfl, rfl, rfl⟩; rfl
    · intro h; cases h; exact ⟨rfl, rfl, rfl⟩
theorem eqOk_d {t u : Tr} (ht : t.deep ≤ 5) : eqOk t.d u.d = true := eqOk_of t.plain_d u.plain_d (by have := t.depth_d; omega)
theorem dEq_d {t u : Tr} (ht : t.deep ≤ 5) : dEq t.d u.d = .ok (.bool (PyData.eqv t.d u.d)) := by
  show guardR _ _ = _
  rw [eqOk_d ht]; rfl
theorem dNe_d {t : Tr} (ht : t.deep ≤ 5) : dNe t.d t.d = .ok (.bool false) := dNe_self t.plain_d (by have := t.depth_d; omega)
theorem Tr.Ok.least {t : Tr} (h : t.Ok) : t.least.Ok := ⟨Nat.le_trans t.least_deep h.deep, Tr.bt_names _ _ _ (Tr.names_at h.nm)⟩
/-- the first n names -/
def NL (t : Tr) (n : Nat) : List D := (List.range n).map fun k => PyData.str (t.at' k)
theorem NL_at {t : Tr} {n k : Nat} (h : k < n) : atI (NL t n) (k : Int) = some (.str (t.at' k)) := by
  unfold NL
  exact atI_nat (by rw [List.getElem?_map, List.getElem?_range h]; rfl)
theorem NL_plain (t : Tr) (n : Nat) : (PyData.tuple (NL t n)).plain = true := by
  have := plain_strs ((List.range n).map t.at')
  rw [List.map_map] at this
  exact this
theorem depth_strs : ∀ ss : List Str, PyData.depthAll (ss.map .str) ≤ 1
  | [] => by decide
  | s :: ss => by
    have := depth_strs ss
    show max (PyData.depth (.str s)) (PyData.depthAll (ss.map .str)) ≤ 1
    have e : PyData.depth (.str s) ≤ 1 := by unfold PyData.depth; omega
    omega
theorem NL_depth (t : Tr) (n : Nat) : (PyData.tuple (NL t n)).depth ≤ 60 := by
  have := depth_strs ((List.range n).map t.at')
  rw [List.map_map] at this
  have e : (PyData.tuple (NL t n)).depth ≤ 1 + PyData.depthAll ((List.range n).map (PyData.str ∘ t.at')) := by
    show PyData.depth (.tuple _) ≤ _
    unfold PyData.depth
    rw [Nat.add_comm]
    exact Nat.le_refl _
  omega
theorem NL_eq {t u : Tr} (h : ∀ k, t.at' k = u.at' k) (n : Nat) : NL t n = NL u n := by
  unfold NL
  congr 1
  funext k
  rw [h]
theorem f_NL {t : Tr} (h : t.Ok) (m : Nat) (hm : m ≤ 1000) : F__law_names [t.d, .int m] = .ok (.tuple (NL t m)) := f_names h m hm
theorem dNe_opt (o : Option Nat) : dNe (optD o) (optD o) = .ok (.bool false) := by
  cases o with
  | none => rfl
  | some k => simp [optD]
/-- the marbles below 64 that end elsewhere -/
def UL (t u : Tr) : List Nat := (List.range 64).filter fun k => !(t.at' k == u.at' k)
theorem UL_head (t u : Tr) : (UL t u).head? = Tr.unl t u 64 := by
  unfold UL Tr.unl
  rw [List.head?_filter]
theorem UL_opt (t u : Tr) : (if 0 < (UL t u).length then atI ((UL t u).map fun (k : Nat) => PyData.int k) 0 else some .none) = some (optD (Tr.unl t u 64)) := by
  rw [← UL_head]
  cases e : UL t u with
  | nil => rfl
  | cons x xs => simp [optD]
theorem UL_len (t u : Tr) : decide ((UL t u).length = 0) = (Tr.unl t u 64).isNone := by
  rw [← UL_head]
  cases e : UL t u with
  | nil => rfl
  | cons x xs => simp
theorem b1 {ds : List D} {t u : Tr} (ht : t.Ok) (hu : u.Ok) : ∃ a7 a8 a9, B_law_1 [.u, .f (.list ds), .u, .f t.d, .f t.least.d, .f u.d, .u, .u, .u, .u, .u] = .nx [.u, .f (.list ds), .u, .f t.d, .f t.least.d, .f u.d, .u, a7, a8, a9, .u] := by
  have n1 := f_NL ht 64 (by omega)
  have n2 := f_NL hu 64 (by omega)
  have g1 := f_first ht hu
  have g2 := f_first hu ht
  have g3 := f_same ht hu
  have g4 := f_least hu
  rw [Tr.unl_comm] at g2
  have c1 : ∀ a b c d e f g h : Sl, compR (cStep (aName 10) (tV (e2 dNe (e2 dIx (eVar 8) (eVar 10)) (e2 dIx (eVar 9) (eVar 10)))) (eVar 10) [a, b, c, d, e, f, g, h, .f (.tuple (NL t 64)), .f (.tuple (NL u 64)), .u]) (rgD 0 64) = .ok ((UL t u).map fun (k : Nat) => PyData.int k) := by
    intro a b c d e f g h
    rw [show (64 : Int) = ((64 : Nat) : Int) from rfl, rgD_nat]
    refine compR_map _ (fun k => !(t.at' k == u.at' k)) _ _ fun k hk => ?_
    have hk : k < 64 := by simpa using hk
    have q1 := NL_at (t := t) hk
    have q2 := NL_at (t := u) hk
    by_cases q : t.at' k = u.at' k
    · simp [cStep, q1, q2, q]
    · have q' : (t.at' k == u.at' k) = false := by simp [q]
      simp [cStep, q1, q2, q, q']
  have h64 : big62 64 = true := by rfl
  have f64 : fits 64 = true := by rfl
  have ho := UL_opt t u
  have hl := UL_len t u
  have he : PyData.eqv u.least.d t.least.d = (Tr.unl t u 64).isNone := by
    rw [Bool.eq_iff_iff, Tr.eqv_d, Tr.least_iff, Option.isNone_iff_eq_none, Tr.unl_none (m := 5) ht.deep hu.deep (by omega)]
    exact ⟨fun q i => (q i).symm, fun q i => (q i).symm⟩
  have hq := dEq_d (t := u.least) (u := t.least) hu.least.deep
  rw [he] at hq
  have hn := dNe_opt (Tr.unl t u 64)
  have hbb : ∀ b : Bool, dNe (.bool b) (.bool b) = .ok (.bool false) := fun b => by cases b <;> rfl
  simp at n1 n2
  generalize Tr.unl t u 64 = o at *
  generalize UL t u = ul at *
  refine ⟨.f (.list (ul.map fun (k : Nat) => PyData.int k)), .f (.tuple (NL t 64)), .f (.tuple (NL u 64)), ?_⟩
  by_cases z : 0 < ul.length
  · rw [if_pos z] at ho
    have z0 : ¬ ul.length = 0 := by omega
    have z1 : ¬ ul = [] := fun e => by subst e; exact absurd z (by simp)
    have hl' : o.isNone = false := by rw [← hl]; simp [z1]
    simp [hl'] at hq
    simp [B_law_1, n1, n2, h64, rgD_len, f64, c1, g1, g2, g3, g4, z, ho, hn, z0, z1, hl', hbb, hq, isaB, tyName]
  · rw [if_neg z] at ho
    have z0 : ul.length = 0 := by omega
    have z1 : ul = [] := List.eq_nil_of_length_eq_zero z0
    have hl' : o.isNone = true := by rw [← hl]; simp [z1]
    have ho : PyData.none = optD o := Option.some.inj ho
    simp [hl'] at hq
    rw [← ho] at g1 g2 hn
    simp [B_law_1, n1, n2, h64, rgD_len, f64, c1, g1, g2, g3, g4, z, hn, z0, z1, hl', hbb, hq, isaB, tyName]
theorem b2 {ds : List D} (h : Dr ds) (k dp dq : Nat) (hk : atI [PyData.int 4, PyData.int 3, PyData.int 2, PyData.int 1, PyData.int 4] (k : Int) = some (.int dp)) (hq : atI [PyData.int 3, PyData.int 2, PyData.int 2, PyData.int 1, PyData.int 3] (k : Int) = some (.int dq)) (hd : dp ≤ 4) (hd2 : dq ≤ 3) (hk5 : k < 5) :
    ∃ a2 a3 a4 a5 a6 a7 a8 a9, B_law_2 [.u, .f (.list ds), .f (.int k), .u, .u, .u, .u, .u, .u, .u, .u] = .nx [.u, .f (.list ds), a2, a3, a4, a5, a6, a7, a8, a9, .u] := by
  have hp : (2 : Int) ^ (dp + 1) ≤ 32 := by
    have : 2 ^ (dp + 1) ≤ 2 ^ 5 := Nat.pow_le_pow_right (by omega) (by omega)
    exact_mod_cast this
  have hp2 : (2 : Int) ^ (dq + 1) ≤ 32 := by
    have : 2 ^ (dq + 1) ≤ 2 ^ 5 := Nat.pow_le_pow_right (by omega) (by omega)
    exact_mod_cast this
  obtain ⟨t, at1, g1, g2, g3, _, _⟩ := f_ltree h 6 dp (9 * k) (by omega) hd (by omega) (by omega)
  obtain ⟨u, at2, k1, k2, k3, _, _⟩ := f_ltree h 6 dq (9 * k + 5) (by omega) (by omega) (by omega) (by omega)
  have ht : t.Ok := ⟨by omega, Tr.names_mono (fun _ => nm3_ok) g3⟩
  have hu : u.Ok := ⟨by omega, Tr.names_mono (fun _ => nm3_ok) k3⟩
  have hT : t.turned.Ok := ⟨by rw [Tr.turned_deep]; omega, Tr.turned_names ht.nm⟩
  have hD : t.doubled.Ok := ⟨by rw [Tr.doubled_deep]; omega, Tr.doubled_names ht.nm⟩
  have hC : (t.changed "zz").Ok := ⟨by have := Tr.changed_deep "zz" t; omega, Tr.changed_names ok_zz ht.nm⟩
  have hL := ht.least
  have e1 := f_turned 10 t (by omega)
  have e2 := f_doubled 10 t (by omega)
  have e3 := f_changed 10 t (by omega)
  have e4 := f_least ht
  have e5 := f_istree hL
  have e6 := f_lefts 10 t.least (by have := hL.deep; omega) (Tr.bt_lefts _ _)
  have e7 := f_NL hL 32 (by omega)
  have e8 := f_NL ht 32 (by omega)
  rw [NL_eq (fun k => t.least_at k)] at e7
  have e9 := dNe_self (NL_plain t 32) (NL_depth t 32)
  have e10 := f_least hL
  rw [Tr.least_least] at e10
  have e11 := dNe_d (t := t.least) hL.deep
  have e12 := f_tsize hL
  have e13 := f_tsize ht
  have e14 : ¬ ((t.size : Int) < t.least.size) := by have := t.least_size; omega
  have e15 := f_tagain ht
  have e16 : F_tree_ends [t.d, .int (2 ^ t.deep : Nat)] = .ok (.tuple (nmL t.deep t.at')) := f_ends ht (2 ^ t.deep) (by have := pow5 ht.deep; omega)
  have e17 : F_switches_for [.tuple (nmL t.deep t.at')] = .ok (.int t.least.size) := f_switches ht.deep (Tr.names_at ht.nm)
  have s1 := f_same ht hT
  rw [show Tr.unl t t.turned 64 = none from (Tr.unl_none (m := 5) ht.deep hT.deep (by omega)).mpr fun i => (t.turned_at i).symm] at s1
  have s2 := f_same ht hD
  rw [show Tr.unl t t.doubled 64 = none from (Tr.unl_none (m := 5) ht.deep hD.deep (by omega)).mpr fun i => (t.doubled_at i).symm] at s2
  have s3 := f_same ht hC
  have s3' : (Tr.unl t (t.changed "zz") 64).isNone = false := by
    cases z : Tr.unl t (t.changed "zz") 64 with
    | some x => rfl
    | none =>
      exfalso
      obtain ⟨i, hi⟩ := Tr.changed_at "zz" t
      have := (Tr.unl_none (m := 5) ht.deep hC.deep (by omega)).mp z i
      rw [hi] at this
      exact nm3_zz (this ▸ Tr.names_at g3 i)
  rw [s3'] at s3
  have l1 : forL (aName 5) B_law_1 [0, 2, 5, 6, 7, 8, 9, 10] [u.d, t.turned.d, t.doubled.d, (t.changed "zz").d, t.least.d, t.d] [.u, .f (.list ds), .u, .f t.d, .f t.least.d, .u, .u, .u, .u, .u, .u] = .nx [.u, .f (.list ds), .u, .f t.d, .f t.least.d, .u, .u, .u, .u, .u, .u] := by
    refine forL_const _ fun d hd => ?_
    obtain ⟨v, hv, rfl⟩ : ∃ v : Tr, v.Ok ∧ d = v.d := by
      simp only [List.mem_cons, List.not_mem_nil, or_false] at hd
      rcases hd with rfl | rfl | rfl | rfl | rfl | rfl
      · exact ⟨_, hu, rfl⟩
      · exact ⟨_, hT, rfl⟩
      · exact ⟨_, hD, rfl⟩
      · exact ⟨_, hC, rfl⟩
      · exact ⟨_, hL, rfl⟩
      · exact ⟨_, ht, rfl⟩
    obtain ⟨a7, a8, a9, hs⟩ := b1 (ds := ds) ht hv
    exact ⟨_, _, rfl, hs, rfl⟩
  have hm : mulOk 9 k = true := by unfold mulOk; simp
  generalize 2 ^ t.deep = p at e15 e16
  simp at e7 e8
  refine ⟨.u, .f t.d, .f t.least.d, .u, .u, .u, .u, .u, ?_⟩
  simp [B_law_2, hm, hk, hq, g1, k1, e4, e5, e6, e7, e8, e9, e10, e11, e12, e13, e14, e15, e16, e17, e1, e2, e3, l1, s1, s2, s3]
theorem t0_ok : (Tr.s false (.e "a") (.s true (.e "b") (.e "b"))).Ok := ⟨by decide, ⟨ok_a, ok_b, ok_b⟩⟩
theorem ta_ok : (Tr.e "a").Ok := ⟨by decide, ok_a⟩
theorem tb_ok : (Tr.e "b").Ok := ⟨by decide, ok_b⟩
theorem last1 : F_least_tree [.tuple [.str "switch", .str "R", .tuple [.str "end", .str "a"], .tuple [.str "switch", .str "L", .tuple [.str "end", .str "b"], .tuple [.str "end", .str "b"]]]] = .ok (.tuple [.str "switch", .str "L", .tuple [.str "end", .str "b"], .tuple [.str "end", .str "a"]]) := by
  have := f_least t0_ok
  rw [show (Tr.s false (.e "a") (.s true (.e "b") (.e "b"))).least = .s true (.e "b") (.e "a") by rfl] at this
  exact this
theorem last2 : F_first_unlike [.tuple [.str "switch", .str "R", .tuple [.str "end", .str "a"], .tuple [.str "switch", .str "L", .tuple [.str "end", .str "b"], .tuple [.str "end", .str "b"]]], .tuple [.str "end", .str "b"]] = .ok (.int 1) := by
  have := f_first t0_ok tb_ok
  rw [show Tr.unl (Tr.s false (.e "a") (.s true (.e "b") (.e "b"))) (.e "b") 64 = some 1 by rfl] at this
  exact this
theorem last3 : F_first_unlike [.tuple [.str "end", .str "a"], .tuple [.str "end", .str "a"]] = .ok .none := by
  have := f_first ta_ok ta_ok
  rw [show Tr.unl (.e "a") (.e "a") 64 = none from (Tr.unl_none (m := 5) (by decide) (by decide) (by omega)).mpr fun _ => rfl] at this
  exact this
theorem last4 : F_least_tree [.tuple [.str "end", .str "a"]] = .ok (.tuple [.str "end", .str "a"]) := f_least ta_ok
theorem law_true (ns : List Int) (hn : ns.length ≤ 63) : F_law ns [] = .ok (.bool true) := by
  obtain ⟨ds, h1, h2, h3⟩ := law_draws ns hn 60 (by omega)
  have h : Dr ds := ⟨h2, h3⟩
  have l5 : forL (aName 2) B_law_2 [0, 2, 3, 4, 5, 6, 7, 8, 9, 10] (rgD 0 5) [.u, .f (.list ds), .u, .u, .u, .u, .u, .u, .u, .u, .u] = .nx [.u, .f (.list ds), .u, .u, .u, .u, .u, .u, .u, .u, .u] := by
    refine forL_const _ fun d hd => ?_
    obtain ⟨k, dp, dq, rfl, ha, ha2, hb, hb2, hc⟩ : ∃ k dp dq : Nat, d = .int k ∧ atI [PyData.int 4, PyData.int 3, PyData.int 2, PyData.int 1, PyData.int 4] (k : Int) = some (.int dp) ∧ atI [PyData.int 3, PyData.int 2, PyData.int 2, PyData.int 1, PyData.int 3] (k : Int) = some (.int dq) ∧ dp ≤ 4 ∧ dq ≤ 3 ∧ k < 5 := by
      rw [show (5 : Int) = ((5 : Nat) : Int) from rfl, rgD_nat] at hd
      obtain ⟨q, q1, rfl⟩ := List.mem_map.mp hd
      have q1 : q < 5 := by simpa using q1
      rcases (by omega : q = 0 ∨ q = 1 ∨ q = 2 ∨ q = 3 ∨ q = 4) with rfl | rfl | rfl | rfl | rfl
      · exact ⟨0, 4, 3, rfl, rfl, rfl, by omega, by omega, by omega⟩
      · exact ⟨1, 3, 2, rfl, rfl, rfl, by omega, by omega, by omega⟩
      · exact ⟨2, 2, 2, rfl, rfl, rfl, by omega, by omega, by omega⟩
      · exact ⟨3, 1, 1, rfl, rfl, rfl, by omega, by omega, by omega⟩
      · exact ⟨4, 4, 3, rfl, rfl, rfl, by omega, by omega, by omega⟩
    obtain ⟨a2, a3, a4, a5, a6, a7, a8, a9, hs⟩ := b2 h k dp dq ha ha2 hb hb2 hc
    exact ⟨_, _, rfl, hs, rfl⟩
  have hb : big62 5 = true := by rfl
  have h1' : F__law_draws ns [.int 60] = .ok (.list ds) := h1
  have hne : dNe (.tuple [.str "switch", .str "L", .tuple [.str "end", .str "b"], .tuple [.str "end", .str "a"]]) (.tuple [.str "switch", .str "L", .tuple [.str "end", .str "b"], .tuple [.str "end", .str "a"]]) = .ok (.bool false) := dNe_self rfl (by decide)
  have heq : dEq (.tuple [.str "end", .str "a"]) (.tuple [.str "end", .str "a"]) = .ok (.bool true) := dEq_self rfl (by decide)
  show runS 11 S_law ns [] = _
  simp [runS, S_law, h1', hb, l5, last1, last2, last3, last4, hne, heq]
end PQ

namespace PQ
open PySem PySem.Spec PyProof.Rows L2
theorem all_law {P : Program} {w : World} {K : PySem.W.Frag} {mg : Str → Option Value} {fa : Addr} (hF : ∀ ns : List Int, ns.length ≤ 63 → F_law ns [] = .ok (.bool true)) (h : ∃ T : Txt w K mg, T.f_law = fa ∧ ∀ (s : Shared) (v : Value), BindsTo s T.d_law ⟨[v], []⟩ [("script", v)]) :
    ∃ fd : FuncData, (∀ (s : Shared) (u : Value), BindsTo s fd ⟨[u], []⟩ [("script", u)]) ∧ ∀ base : Heap, K.In base → base.Ns mainGlobals mg → FnOk P w K mg base (L2.CX P w) 15 fa fd ["script"] (spLaw K) := by
  obtain ⟨T, rfl, hb⟩ := h
  exact ⟨T.d_law, hb, fun base _ _ => (ok_law T).imp fun vs H Q E q => law_imp hF q⟩
end PQ
open PySem PySem.W PyProof.Rows
set_option maxHeartbeats 0 in
theorem PySem.Challenge.cw_marblewright_k31_whole_same_trees_holds : PySem.Challenge.rw_marblewright_k31_whole_same_trees.Holds := by
  w_on; o_law; k_head; (case hw => w_witness2)
  k_fill
  refine L2.walk_of (l := PySem.Challenge.rw_marblewright_k31_whole_same_trees) (n := 63) (k := 15) (x := "script") (CX := fun w => L2.CX (PySem.Challenge.rw_marblewright_k31_whole_same_trees).prog w) (sp := fun w => PQ.spLaw _) rfl (by decide) rfl ⟨rfl, by decide, by decide⟩ (fun w h Y => PySem.W.kIn_of Y) ?F (fun _ _ a ns hl _ hS => ⟨a, ns, rfl, hS, hl, fun _ => rfl⟩) (fun _ _ _ _ _ h => PQ.cx_false h)
  case F =>
    intro w mg fa h KX G hmg
    refine' PQ.all_law PQ.law_true (PQ.all_mk KX G hmg ?a0 ?l0 ?c0 ?k0 ?a1 ?l1 ?c1 ?k1 ?a2 ?l2 ?c2 ?k2 ?a3 ?l3 ?c3 ?k3 ?a4 ?l4 ?c4 ?k4 ?a5 ?l5 ?c5 ?k5 ?a6 ?l6 ?c6 ?k6 ?a7 ?l7 ?c7 ?k7 ?a8 ?l8 ?c8 ?k8 ?a9 ?l9 ?c9 ?k9 ?a10 ?l10 ?c10 ?k10 ?a11 ?l11 ?c11 ?k11 ?a12 ?l12 ?c12 ?k12 ?a13 ?l13 ?c13 ?k13 ?a14 ?l14 ?c14 ?k14 ?a15 ?l15 ?c15 ?k15 ?a16 ?l16 ?c16 ?k16 ?a17 ?l17 ?c17 ?k17 ?a18 ?l18 ?c18 ?k18 ?a19 ?l19 ?c19 ?k19 ?a20 ?l20 ?c20 ?k20 ?a21 ?l21 ?c21 ?k21 ?a22 ?l22 ?c22 ?k22 ?a23 ?l23 ?c23 ?k23 ?a24 ?l24 ?c24 ?k24 ?a25 ?l25 ?c25 ?k25 ?a26 ?l26 ?c26 ?k26 ?a27 ?l27 ?c27 ?k27 ?a28 ?l28 ?c28 ?k28 ?a29 ?l29 ?c29 ?k29 ?a30 ?l30 ?c30 ?k30 ?a31 ?l31 ?c31 ?k31 ?z_abs ?z_all ?z_bool ?z_int ?z_isinstance ?z_len ?z_max ?z_range ?z_str ?z_tuple ?g_LETTERS ?g_END ?g_SWITCH ?g_SIDES ?h_SIDES ?z_SIDES ?v_SIDES ?g_MOST_LETTERS ?g_MOST_DEEP ?g_MOST_THINGS ?g_MOST_MARBLES ?g_MOST_NAMES)
    (case a0 => k_is); (case l0 => k_is); (case c0 => k_is); (case k0 => k_is); (case a1 => k_is); (case l1 => k_is); (case c1 => k_is); (case k1 => k_is); (case a2 => k_is); (case l2 => k_is); (case c2 => k_is); (case k2 => k_is); (case a3 => k_is); (case l3 => k_is); (case c3 => k_is); (case k3 => k_is); (case a4 => k_is); (case l4 => k_is); (case c4 => k_is); (case k4 => k_is); (case a5 => k_is); (case l5 => k_is); (case c5 => k_is); (case k5 => k_is); (case a6 => k_is); (case l6 => k_is); (case c6 => k_is); (case k6 => k_is); (case a7 => k_is); (case l7 => k_is); (case c7 => k_is); (case k7 => k_is); (case a8 => k_is); (case l8 => k_is); (case c8 => k_is); (case k8 => k_is); (case a9 => k_is); (case l9 => k_is); (case c9 => k_is); (case k9 => k_is); (case a10 => k_is); (case l10 => k_is); (case c10 => k_is); (case k10 => k_is); (case a11 => k_is); (case l11 => k_is); (case c11 => k_is); (case k11 => k_is); (case a12 => k_is); (case l12 => k_is); (case c12 => k_is); (case k12 => k_is); (case a13 => k_is); (case l13 => k_is); (case c13 => k_is); (case k13 => k_is); (case a14 => k_is); (case l14 => k_is); (case c14 => k_is); (case k14 => k_is); (case a15 => k_is); (case l15 => k_is); (case c15 => k_is); (case k15 => k_is); (case a16 => k_is); (case l16 => k_is); (case c16 => k_is); (case k16 => k_is); (case a17 => k_is); (case l17 => k_is); (case c17 => k_is); (case k17 => k_is); (case a18 => k_is); (case l18 => k_is); (case c18 => k_is); (case k18 => k_is); (case a19 => k_is); (case l19 => k_is); (case c19 => k_is); (case k19 => k_is); (case a20 => k_is); (case l20 => k_is); (case c20 => k_is); (case k20 => k_is); (case a21 => k_is); (case l21 => k_is); (case c21 => k_is); (case k21 => k_is); (case a22 => k_is); (case l22 => k_is); (case c22 => k_is); (case k22 => k_is); (case a23 => k_is); (case l23 => k_is); (case c23 => k_is); (case k23 => k_is); (case a24 => k_is); (case l24 => k_is); (case c24 => k_is); (case k24 => k_is); (case a25 => k_is); (case l25 => k_is); (case c25 => k_is); (case k25 => k_is); (case a26 => k_is); (case l26 => k_is); (case c26 => k_is); (case k26 => k_is); (case a27 => k_is); (case l27 => k_is); (case c27 => k_is); (case k27 => k_is); (case a28 => k_is); (case l28 => k_is); (case c28 => k_is); (case k28 => k_is); (case a29 => k_is); (case l29 => k_is); (case c29 => k_is); (case k29 => k_is); (case a30 => k_is); (case l30 => k_is); (case c30 => k_is); (case k30 => k_is); (case a31 => k_is); (case l31 => k_is); (case c31 => k_is); (case k31 => k_is); (case z_abs => k_is); (case z_all => k_is); (case z_bool => k_is); (case z_int => k_is); (case z_isinstance => k_is); (case z_len => k_is); (case z_max => k_is); (case z_range => k_is); (case z_str => k_is); (case z_tuple => k_is); (case g_LETTERS => k_is); (case g_END => k_is); (case g_SWITCH => k_is); (case g_SIDES => k_is); (case h_SIDES => k_is); (case z_SIDES => exact (by decide +kernel)); (case v_SIDES => exact (.cons ⟨_, rfl⟩ (.cons ⟨_, rfl⟩ .nil))); (case g_MOST_LETTERS => k_is); (case g_MOST_DEEP => k_is); (case g_MOST_THINGS => k_is); (case g_MOST_MARBLES => k_is); (case g_MOST_NAMES => k_is)
